/- What the printed Lean functions behind FnExactCoarseModel come to, and from that the pure statement of FnExactCoarseModel: it answers true. No condition beyond those that the given statement itself has. -/
import Derived.Test.YtceajigggcihnaaPFnExactCoarseModelx10
import Derived.Lib.SmallJoins
namespace Go.Proofs.Ytceajigggcihnaa.Pure
open Go.RowKit Go.Proofs.Ytceajigggcihnaa.PFnExactCoarseModel Go.Proofs.YtceajigggcihnaaW.PrintWords Go.Proofs.YtceajigggcihnaaW.PrintLast Go.Proofs.YtceajigggcihnaaW.PrintMore
set_option linter.unusedVariables false
set_option linter.unusedSimpArgs false

theorem w64 {x : Int} (h1 : -9223372036854775808 ≤ x) (h2 : x ≤ 9223372036854775807) : wrap64 x = x := by unfold wrap64; omega
theorem wf_i64 {x : Int} (h : (Lit.int .i64 x).wf = true) : -9223372036854775808 ≤ x ∧ x ≤ 9223372036854775807 := Go.Joins.in64_of_wf h
theorem mul_bd {a b A B : Int} (ha : 0 ≤ a) (hA : a ≤ A) (hb : 0 ≤ b) (hB : b ≤ B) : 0 ≤ a * b ∧ a * b ≤ A * B :=
  ⟨Int.mul_nonneg ha hb, Int.mul_le_mul hA hB hb (by omega)⟩
theorem rd_nat (l : List Int) (i : Nat) : rd l (i : Int) = l.getD i 0 := by simp [rd]
theorem rd_get {l : List Int} {i : Nat} (h : i < l.length) : rd l (i : Int) = l[i] := by rw [rd_nat, List.getD_eq_getElem?_getD, List.getElem?_eq_getElem h]; rfl
theorem rd_set {l : List Int} {i : Nat} {v : Int} (j : Int) (h0 : 0 ≤ j) (hi : i < l.length) : rd (l.set i v) j = if j = (i : Int) then v else rd l j := by
  unfold rd
  rw [List.getD_eq_getElem?_getD, List.getD_eq_getElem?_getD]
  by_cases h : j = (i : Int)
  · rw [if_pos h, show j.toNat = i by omega, List.getElem?_set_self hi]; rfl
  · rw [if_neg h, List.getElem?_set_ne (by omega)]
theorem drop_rd {l : List Int} {i : Nat} (h : i < l.length) : l.drop i = rd l (i : Int) :: l.drop (i + 1) := by
  rw [rd_get h]; exact List.drop_eq_getElem_cons h
theorem w64_succ {i : Nat} (h : i < 9223372036854775807) : wrap64 ((i : Int) + 1) = ((i + 1 : Nat) : Int) := by rw [w64 (by omega) (by omega)]; omega
theorem k_succ {k : Nat} (h : 0 < k) : ∃ m, k = m + 1 := ⟨k - 1, by omega⟩
/-- from some number of rounds on -/
theorem Ev.use {α : Type} {g : Nat → Option α} {r : α} (h : Ev g r) : ∃ K, ∀ k, K ≤ k → g k = some r := h
theorem laws_toIntS_l (l : List Int) (hn : l.length ≤ 1152921504606846976) : ∀ (d k i : Nat) (y : List Int), i + d = l.length → d < k → y.length = l.length → (∀ j, j < i → y[j]? = l[j]?) →
    laws_toIntS.l0 k l y (i : Int) = some l := by
  intro d
  induction d with
  | zero =>
    intro k i y hi hk hy hj
    obtain ⟨k, rfl⟩ := k_succ (by omega : 0 < k)
    simp only [laws_toIntS.l0]
    rw [if_neg (by omega)]
    congr 1
    refine List.ext_getElem? fun j => ?_
    by_cases h : j < i
    · exact hj j h
    · rw [List.getElem?_eq_none (by omega), List.getElem?_eq_none (by omega)]
  | succ d ih =>
    intro k i y hi hk hy hj
    obtain ⟨k, rfl⟩ := k_succ (by omega : 0 < k)
    simp only [laws_toIntS.l0]
    rw [if_pos (by omega), if_pos (by omega), if_pos (by omega), w64_succ (by omega)]
    refine ih k (i + 1) _ (by omega) (by omega) (by simpa using hy) (fun j hj' => ?_)
    rw [show ((i : Int) : Int).toNat = i by omega]
    by_cases h : j = i
    · subst h
      rw [List.getElem?_set_self (by omega), rd_get (by omega), List.getElem?_eq_getElem (by omega)]
    · rw [List.getElem?_set_ne (by omega)]
      exact hj j (by omega)
theorem laws_toIntS_v (l : List Int) (hn : l.length ≤ 35184372088832) {k : Nat} (hk : l.length < k) : laws_toIntS.f k l = some l := by
  unfold laws_toIntS.f
  rw [if_pos (by omega), if_pos (by omega)]
  exact laws_toIntS_l l (by omega) l.length k 0 _ (by omega) hk (by simp) (fun j hj => by omega)
theorem laws_eqIntS_l (l m : List Int) (hn : l.length ≤ 1152921504606846976) (hm : m.length = l.length) : ∀ (d k i : Nat), i + d = l.length → d < k →
    laws_eqIntS.l0 k l m (i : Int) = some (decide (l.drop i = m.drop i)) := by
  intro d
  induction d with
  | zero =>
    intro k i hi hk
    obtain ⟨k, rfl⟩ := k_succ (by omega : 0 < k)
    simp only [laws_eqIntS.l0]
    rw [if_neg (by omega), List.drop_eq_nil_of_le (by omega), List.drop_eq_nil_of_le (by omega)]
    simp
  | succ d ih =>
    intro k i hi hk
    obtain ⟨k, rfl⟩ := k_succ (by omega : 0 < k)
    simp only [laws_eqIntS.l0]
    rw [if_pos (by omega), if_pos (by omega), if_pos (by omega), w64_succ (by omega), drop_rd (by omega : i < l.length), drop_rd (by omega : i < m.length), ih k (i + 1) (by omega) (by omega)]
    by_cases h : rd l (i : Int) = rd m (i : Int)
    · rw [if_pos h]; simp [h]
    · rw [if_neg h]; simp [h]
theorem laws_eqIntS_v (l m : List Int) (hn : l.length ≤ 1152921504606846976) {k : Nat} (hk : l.length < k) : laws_eqIntS.f k l m = some (decide (l = m)) := by
  unfold laws_eqIntS.f
  by_cases h : l.length = m.length
  · rw [if_pos (by omega)]
    have := laws_eqIntS_l l m hn h.symm l.length k 0 (by omega) hk
    simpa using this
  · rw [if_neg (by omega)]
    congr 1; symm
    rw [decide_eq_false_iff_not]
    intro e; rw [e] at h; exact h rfl
theorem spec_l1In_v (a lo hi : Int) : spec_l1In.f a lo hi = some (decide (lo ≤ a ∧ a ≤ hi)) := by
  unfold spec_l1In.f
  split
  · congr 1; rw [decide_eq_decide]; omega
  · congr 1; symm; rw [decide_eq_false_iff_not]; omega
theorem spec_l1All_l (lo hi : Int) (l : List Int) (hn : l.length ≤ 1152921504606846976) : ∀ (d k i : Nat), i + d = l.length → d < k →
    spec_l1All.l0 k lo hi l (l.length : Int) (i : Int) = some ((l.drop i).all fun x => decide (lo ≤ x ∧ x ≤ hi)) := by
  intro d
  induction d with
  | zero =>
    intro k i hi' hk
    obtain ⟨k, rfl⟩ := k_succ (by omega : 0 < k)
    simp only [spec_l1All.l0]
    rw [if_neg (by omega), List.drop_eq_nil_of_le (by omega)]
    rfl
  | succ d ih =>
    intro k i hi' hk
    obtain ⟨k, rfl⟩ := k_succ (by omega : 0 < k)
    simp only [spec_l1All.l0]
    rw [if_pos (by omega), if_pos (by omega), if_pos (by omega), w64_succ (by omega), drop_rd (by omega : i < l.length), ih k (i + 1) (by omega) (by omega), spec_l1In_v, List.all_cons]
    simp only [Option.bind_some, decide_eq_true_eq]
    by_cases h : lo ≤ rd l (i : Int) ∧ rd l (i : Int) ≤ hi
    · rw [if_pos h, decide_eq_true h, Bool.true_and]
    · rw [if_neg h, decide_eq_false h, Bool.false_and]
theorem spec_l1All_v (lo hi : Int) (l : List Int) (hn : l.length ≤ 1152921504606846976) {k : Nat} (hk : l.length < k) : spec_l1All.f k l lo hi = some (l.all fun x => decide (lo ≤ x ∧ x ≤ hi)) := by
  unfold spec_l1All.f
  simpa using spec_l1All_l lo hi l hn l.length k 0 (by omega) hk
def gridB (X Y Z : Int) : Bool := decide (1 ≤ X ∧ X ≤ 8 ∧ 1 ≤ Y ∧ Y ≤ 6 ∧ 1 ≤ Z ∧ Z ≤ 5 ∧ X * Y * Z ≤ 120)
theorem gridB_t {X Y Z : Int} (h : gridB X Y Z = true) : 1 ≤ X ∧ X ≤ 8 ∧ 1 ≤ Y ∧ Y ≤ 6 ∧ 1 ≤ Z ∧ Z ≤ 5 ∧ X * Y * Z ≤ 120 := of_decide_eq_true h
theorem wrapXYZ {X Y Z : Int} (h1 : 1 ≤ X) (h2 : X ≤ 8) (h3 : 1 ≤ Y) (h4 : Y ≤ 6) (h5 : 1 ≤ Z) (h6 : Z ≤ 5) : wrap64 (wrap64 (X * Y) * Z) = X * Y * Z := by
  have a := mul_bd (by omega : 0 ≤ X) h2 (by omega : 0 ≤ Y) h4
  have b := mul_bd a.1 a.2 (by omega : 0 ≤ Z) h6
  rw [w64 (by omega) (by omega) (x := X * Y), w64 (by omega) (by omega)]
theorem grid_pos {X Y Z : Int} (h : gridB X Y Z = true) : 1 ≤ X * Y * Z ∧ X * Y * Z ≤ 120 := by
  obtain ⟨h1, h2, h3, h4, h5, h6, h7⟩ := gridB_t h
  have a : 0 < X * Y := Int.mul_pos (by omega) (by omega)
  have b : 0 < X * Y * Z := Int.mul_pos a (by omega)
  omega
theorem impl_IsGrid_v (X Y Z : Int) : impl_IsGrid.f X Y Z = some (gridB X Y Z) := by
  unfold impl_IsGrid.f gridB
  repeat' split
  all_goals first
    | (rw [wrapXYZ (by omega) (by omega) (by omega) (by omega) (by omega) (by omega)]; congr 1; rw [decide_eq_decide]; omega)
    | (congr 1; symm; rw [decide_eq_false_iff_not]; omega)
theorem spec_grGood_v (X Y Z : Int) : spec_grGood.f X Y Z = some (gridB X Y Z) := by
  unfold spec_grGood.f gridB
  simp only [spec_l1In_v, Option.bind_some, decide_eq_true_eq]
  repeat' split
  all_goals first
    | (rw [wrapXYZ (by omega) (by omega) (by omega) (by omega) (by omega) (by omega)]; congr 1; rw [decide_eq_decide]; omega)
    | (congr 1; symm; rw [decide_eq_false_iff_not]; omega)
theorem spec_grCount_v {X Y Z : Int} (h : gridB X Y Z = true) : spec_grCount.f X Y Z = some (X * Y * Z) := by
  obtain ⟨h1, h2, h3, h4, h5, h6, h7⟩ := gridB_t h
  simp only [spec_grCount.f, wrapXYZ h1 h2 h3 h4 h5 h6]
theorem impl_blocksOf_v {X Y Z : Int} (h : gridB X Y Z = true) : impl_blocksOf.f X Y Z = some (X * Y * Z) := by
  obtain ⟨h1, h2, h3, h4, h5, h6, h7⟩ := gridB_t h
  simp only [impl_blocksOf.f, wrapXYZ h1 h2 h3 h4 h5 h6]
def hasB (X Y Z i : Int) : Bool := gridB X Y Z && decide (0 ≤ i ∧ i < X * Y * Z)
theorem hasB_t {X Y Z i : Int} (h : hasB X Y Z i = true) : gridB X Y Z = true ∧ 0 ≤ i ∧ i < X * Y * Z := by
  unfold hasB at h; rw [Bool.and_eq_true, decide_eq_true_eq] at h; exact h
theorem impl_hasBlock_v (X Y Z i : Int) : impl_hasBlock.f X Y Z i = some (hasB X Y Z i) := by
  unfold impl_hasBlock.f hasB
  rw [impl_IsGrid_v]
  cases h : gridB X Y Z with
  | false => simp
  | true =>
    simp only [Option.bind_some, if_true, impl_blocksOf_v h, Bool.true_and]
    split
    · congr 1; rw [decide_eq_decide]; omega
    · congr 1; symm; rw [decide_eq_false_iff_not]; omega
theorem at_w {X Y x y z : Int} (hX : 0 ≤ X) (hX' : X ≤ 8) (hY : 0 ≤ Y) (hY' : Y ≤ 6) (hx : 0 ≤ x) (hx' : x ≤ 8) (hy : 0 ≤ y) (hy' : y ≤ 6) (hz : 0 ≤ z) (hz' : z ≤ 5) :
    wrap64 (wrap64 (wrap64 (wrap64 (z * Y) + y) * X) + x) = (z * Y + y) * X + x ∧ 0 ≤ (z * Y + y) * X + x := by
  have a := mul_bd hz hz' hY hY'
  have b := mul_bd (by omega : 0 ≤ z * Y + y) (by omega : z * Y + y ≤ 36) hX hX'
  rw [w64 (by omega) (by omega) (x := z * Y), w64 (by omega) (by omega) (x := z * Y + y), w64 (by omega) (by omega) (x := (z * Y + y) * X), w64 (by omega) (by omega)]
  exact ⟨rfl, by omega⟩
def inB (X Y Z x y z : Int) : Bool := decide (0 ≤ x ∧ x < X ∧ 0 ≤ y ∧ y < Y ∧ 0 ≤ z ∧ z < Z)
theorem impl_blockAt_v {X Y Z x y z : Int} (hX : 0 ≤ X) (hX' : X ≤ 8) (hY : 0 ≤ Y) (hY' : Y ≤ 6) (hx : 0 ≤ x) (hx' : x ≤ 8) (hy : 0 ≤ y) (hy' : y ≤ 6) (hz : 0 ≤ z) (hz' : z ≤ 5) :
    impl_blockAt.f X Y Z x y z = some ((z * Y + y) * X + x) := by
  simp only [impl_blockAt.f, (at_w hX hX' hY hY' hx hx' hy hy' hz hz').1]
theorem spec_grAt_v {X Y Z x y z : Int} (hX : 1 ≤ X) (hX' : X ≤ 8) (hY : 1 ≤ Y) (hY' : Y ≤ 6) (hZ : 1 ≤ Z) (hZ' : Z ≤ 5) :
    spec_grAt.f X Y Z x y z = some (if inB X Y Z x y z = true then (z * Y + y) * X + x else -1) := by
  unfold spec_grAt.f inB
  rw [w64 (by omega) (by omega), w64 (by omega) (by omega), w64 (by omega) (by omega)]
  simp only [spec_l1In_v, Option.bind_some, decide_eq_true_eq]
  by_cases h : 0 ≤ x ∧ x < X ∧ 0 ≤ y ∧ y < Y ∧ 0 ≤ z ∧ z < Z
  · rw [if_pos (by omega), if_pos (by omega), if_pos (by omega), if_pos h, (at_w (by omega) hX' (by omega) hY' (by omega) (by omega) (by omega) (by omega) (by omega) (by omega)).1]
  · rw [if_neg h]
    repeat' split
    all_goals first | rfl | (exfalso; omega)
theorem tdiv_nn {a b : Int} (h : 0 ≤ a) : Int.tdiv a b = a / b := Int.tdiv_eq_ediv_of_nonneg h
theorem tmod_nn {a b : Int} (h : 0 ≤ a) : Int.tmod a b = a % b := Int.tmod_eq_emod_of_nonneg h
theorem place_bd {X Y Z i : Int} (h : hasB X Y Z i = true) : (0 ≤ i % X ∧ i % X < X) ∧ (0 ≤ i / X % Y ∧ i / X % Y < Y) ∧ (0 ≤ i / X / Y ∧ i / X / Y < Z) ∧ 0 ≤ i / X ∧ i / X ≤ i := by
  obtain ⟨hg, hi, hi'⟩ := hasB_t h
  obtain ⟨h1, h2, h3, h4, h5, h6, h7⟩ := gridB_t hg
  have a : 0 ≤ i / X := Int.ediv_nonneg hi (by omega)
  refine ⟨⟨Int.emod_nonneg _ (by omega), Int.emod_lt_of_pos _ (by omega)⟩, ⟨Int.emod_nonneg _ (by omega), Int.emod_lt_of_pos _ (by omega)⟩, ⟨Int.ediv_nonneg a (by omega), ?_⟩, a, Int.ediv_le_self _ hi⟩
  rw [Int.ediv_ediv_of_nonneg (by omega)]
  refine Int.ediv_lt_of_lt_mul (Int.mul_pos (by omega) (by omega)) ?_
  rw [Int.mul_comm Z]
  exact hi'
theorem impl_placeOf_v {X Y Z i : Int} (h : hasB X Y Z i = true) : impl_placeOf.f X Y Z i = some (i % X, i / X % Y, i / X / Y) := by
  obtain ⟨hg, hi, hi'⟩ := hasB_t h
  obtain ⟨h1, h2, h3, h4, h5, h6, h7⟩ := gridB_t hg
  have hp := place_bd h
  have hg' := grid_pos hg
  unfold impl_placeOf.f
  rw [if_neg (by omega), if_neg (by omega), tmod_nn hi, tdiv_nn hi, w64 (by omega) (by omega) (x := i / X), tmod_nn hp.2.2.2.1, tdiv_nn hp.2.2.2.1, w64 (by omega) (by omega)]
theorem spec_grX_v {X Y Z i : Int} (h : hasB X Y Z i = true) : spec_grX.f X Y Z i = some (i % X) := by
  obtain ⟨hg, hi, hi'⟩ := hasB_t h
  obtain ⟨h1, h2, h3, h4, h5, h6, h7⟩ := gridB_t hg
  unfold spec_grX.f
  rw [if_neg (by omega), tmod_nn hi]
theorem spec_grY_v {X Y Z i : Int} (h : hasB X Y Z i = true) : spec_grY.f X Y Z i = some (i / X % Y) := by
  obtain ⟨hg, hi, hi'⟩ := hasB_t h
  obtain ⟨h1, h2, h3, h4, h5, h6, h7⟩ := gridB_t hg
  have hp := place_bd h
  have hg' := grid_pos hg
  unfold spec_grY.f
  rw [if_neg (by omega), if_neg (by omega), tdiv_nn hi, w64 (by omega) (by omega) (x := i / X), tmod_nn hp.2.2.2.1]
theorem spec_grZ_v {X Y Z i : Int} (h : hasB X Y Z i = true) : spec_grZ.f X Y Z i = some (i / X / Y) := by
  obtain ⟨hg, hi, hi'⟩ := hasB_t h
  obtain ⟨h1, h2, h3, h4, h5, h6, h7⟩ := gridB_t hg
  have hp := place_bd h
  have hg' := grid_pos hg
  unfold spec_grZ.f
  rw [if_neg (by omega), if_neg (by omega), tdiv_nn hi, w64 (by omega) (by omega) (x := i / X), tdiv_nn hp.2.2.2.1, w64 (by omega) (by omega)]
theorem impl_coarseGrid_v {X Y Z : Int} (h : gridB X Y Z = true) : impl_coarseGrid.f X Y Z = some ((X + 1) / 2, (Y + 1) / 2, Z) := by
  obtain ⟨h1, h2, h3, h4, h5, h6, h7⟩ := gridB_t h
  simp only [impl_coarseGrid.f]
  rw [w64 (by omega) (by omega) (x := X + 1), w64 (by omega) (by omega) (x := Y + 1), tdiv_nn (by omega), tdiv_nn (by omega), w64 (by omega) (by omega), w64 (by omega) (by omega)]
theorem spec_sbGrid_v {X Y Z : Int} (h : gridB X Y Z = true) : spec_sbGrid.f X Y Z = some ((X + 1) / 2, (Y + 1) / 2, Z) := by
  obtain ⟨h1, h2, h3, h4, h5, h6, h7⟩ := gridB_t h
  simp only [spec_sbGrid.f]
  rw [w64 (by omega) (by omega) (x := X + 1), w64 (by omega) (by omega) (x := Y + 1), tdiv_nn (by omega), tdiv_nn (by omega), w64 (by omega) (by omega), w64 (by omega) (by omega)]
def coarseV (X Y i : Int) : Int := (i / X / Y * ((Y + 1) / 2) + i / X % Y / 2) * ((X + 1) / 2) + i % X / 2
theorem spec_sbCoarse_v {X Y Z i : Int} (h : hasB X Y Z i = true) : spec_sbCoarse.f X Y Z i = some (coarseV X Y i) := by
  obtain ⟨hg, hi, hi'⟩ := hasB_t h
  obtain ⟨h1, h2, h3, h4, h5, h6, h7⟩ := gridB_t hg
  obtain ⟨⟨p1, p2⟩, ⟨p3, p4⟩, ⟨p5, p6⟩, p7, p8⟩ := place_bd h
  unfold spec_sbCoarse.f coarseV
  rw [spec_sbGrid_v hg, spec_grX_v h, spec_grY_v h, spec_grZ_v h]
  simp only [Option.bind_some]
  rw [tdiv_nn p1, tdiv_nn p3, w64 (by omega) (by omega), w64 (by omega) (by omega), spec_grAt_v (by omega) (by omega) (by omega) (by omega) h5 h6]
  rw [Option.bind_some, if_pos (show inB ((X + 1) / 2) ((Y + 1) / 2) Z (i % X / 2) (i / X % Y / 2) (i / X / Y) = true from decide_eq_true ⟨by omega, by omega, by omega, by omega, by omega, by omega⟩)]
theorem impl_CoarseBlock_v (X Y Z i : Int) : impl_CoarseBlock.f X Y Z i = some (if hasB X Y Z i = true then (coarseV X Y i, true) else (0, false)) := by
  unfold impl_CoarseBlock.f
  rw [impl_hasBlock_v]
  cases h : hasB X Y Z i with
  | false => simp
  | true =>
    obtain ⟨hg, hi, hi'⟩ := hasB_t h
    obtain ⟨h1, h2, h3, h4, h5, h6, h7⟩ := gridB_t hg
    obtain ⟨⟨p1, p2⟩, ⟨p3, p4⟩, ⟨p5, p6⟩, p7, p8⟩ := place_bd h
    simp only [Option.bind_some, if_true, impl_placeOf_v h, impl_coarseGrid_v hg]
    rw [tdiv_nn p1, tdiv_nn p3, w64 (by omega) (by omega), w64 (by omega) (by omega), impl_blockAt_v (by omega) (by omega) (by omega) (by omega) (by omega) (by omega) (by omega) (by omega) (by omega) (by omega)]
    rfl
def absI (n : Int) : Int := if n < 0 then -n else n
theorem absI_sub (a b : Int) : absI (a - b) = absI (b - a) := by unfold absI; repeat' split <;> omega
theorem absI_bd {a : Int} {B : Int} (h : -B ≤ a) (h' : a ≤ B) : 0 ≤ absI a ∧ absI a ≤ B := by unfold absI; split <;> omega
def stepsV (X Y i k : Int) : Int := absI (i % X - k % X) + absI (i / X % Y - k / X % Y) + absI (i / X / Y - k / X / Y)
theorem stepsV_comm (X Y i k : Int) : stepsV X Y i k = stepsV X Y k i := by
  unfold stepsV
  rw [absI_sub (i % X), absI_sub (i / X % Y), absI_sub (i / X / Y)]
theorem steps_bd {X Y Z i k : Int} (h : hasB X Y Z i = true) (h' : hasB X Y Z k = true) : (0 ≤ absI (i % X - k % X) ∧ absI (i % X - k % X) ≤ 8) ∧ (0 ≤ absI (i / X % Y - k / X % Y) ∧ absI (i / X % Y - k / X % Y) ≤ 8) ∧ (0 ≤ absI (i / X / Y - k / X / Y) ∧ absI (i / X / Y - k / X / Y) ≤ 8) := by
  obtain ⟨h1, h2, h3, h4, h5, h6, h7⟩ := gridB_t (hasB_t h).1
  have a := place_bd h
  have b := place_bd h'
  exact ⟨absI_bd (by omega) (by omega), absI_bd (by omega) (by omega), absI_bd (by omega) (by omega)⟩
def filtN (p : Int → Bool) : Nat → Nat → List Int
  | _, 0 => []
  | i, d + 1 => if p (i : Int) = true then (i : Int) :: filtN p (i + 1) d else filtN p (i + 1) d
theorem filtN_pos {p : Int → Bool} {i d : Nat} (h : p (i : Int) = true) : filtN p i (d + 1) = (i : Int) :: filtN p (i + 1) d := by rw [filtN, if_pos h]
theorem filtN_neg {p : Int → Bool} {i d : Nat} (h : ¬ p (i : Int) = true) : filtN p i (d + 1) = filtN p (i + 1) d := by rw [filtN, if_neg h]
theorem filtN_len (p : Int → Bool) : ∀ (d i : Nat), (filtN p i d).length ≤ d
  | 0, i => by simp [filtN]
  | d + 1, i => by
    have := filtN_len p d (i + 1)
    unfold filtN
    split <;> simp <;> omega
theorem filtN_mem (p : Int → Bool) : ∀ (d i : Nat) (x : Int), x ∈ filtN p i d ↔ (i : Int) ≤ x ∧ x < ((i + d : Nat) : Int) ∧ p x = true
  | 0, i, x => by simp [filtN]; omega
  | d + 1, i, x => by
    have ih := filtN_mem p d (i + 1) x
    by_cases h : p (i : Int) = true
    · rw [filtN_pos h, List.mem_cons, ih]
      constructor
      · rintro (rfl | ⟨h1, h2, h3⟩)
        · exact ⟨by omega, by omega, h⟩
        · exact ⟨by omega, by omega, h3⟩
      · rintro ⟨h1, h2, h3⟩
        by_cases e : x = (i : Int)
        · exact .inl e
        · exact .inr ⟨by omega, by omega, h3⟩
    · rw [filtN_neg h, ih]
      constructor
      · rintro ⟨h1, h2, h3⟩; exact ⟨by omega, by omega, h3⟩
      · rintro ⟨h1, h2, h3⟩
        refine ⟨?_, by omega, h3⟩
        by_cases e : x = (i : Int)
        · subst e; exact absurd h3 h
        · omega
theorem hasB_of {X Y Z i : Int} (h : gridB X Y Z = true) (h0 : 0 ≤ i) (h1 : i < X * Y * Z) : hasB X Y Z i = true := by
  unfold hasB; rw [h, Bool.true_and]; exact decide_eq_true ⟨h0, h1⟩
def nearB (X Y i r k : Int) : Bool := decide (absI (i % X - k % X) ≤ r ∧ absI (i / X % Y - k / X % Y) ≤ r ∧ absI (i / X / Y - k / X / Y) ≤ r)
def pieceB (T M R : Int) : Bool := decide (0 ≤ T ∧ T ≤ 10000 ∧ 0 ≤ M ∧ M ≤ 1000 * T ∧ 0 ≤ R ∧ R ≤ 4)
theorem pieceB_t {T M R : Int} (h : pieceB T M R = true) : 0 ≤ T ∧ T ≤ 10000 ∧ 0 ≤ M ∧ M ≤ 1000 * T ∧ 0 ≤ R ∧ R ≤ 4 := of_decide_eq_true h
theorem spec_sbPiece_v (T M R : Int) : spec_sbPiece.f T M R = some (pieceB T M R) := by
  unfold spec_sbPiece.f pieceB
  simp only [spec_l1In_v, Option.bind_some, decide_eq_true_eq]
  by_cases h : 0 ≤ T ∧ T ≤ 10000
  · rw [w64 (by omega) (by omega)]
    repeat' split
    all_goals first
      | (congr 1; rw [decide_eq_decide]; omega)
      | (congr 1; symm; rw [decide_eq_false_iff_not]; omega)
  · have e : decide (0 ≤ T ∧ T ≤ 10000 ∧ 0 ≤ M ∧ M ≤ 1000 * T ∧ 0 ≤ R ∧ R ≤ 4) = false := by rw [decide_eq_false_iff_not]; omega
    rw [e, if_neg h]
def roundV (T M : Int) : Int := if T = 0 then 0 else (2 * M + T - 1) / (2 * T)
theorem impl_roundedGrade_v {T M R : Int} (h : pieceB T M R = true) : impl_roundedGrade.f T M R = some (roundV T M) := by
  obtain ⟨h1, h2, h3, h4, h5, h6⟩ := pieceB_t h
  unfold impl_roundedGrade.f roundV
  by_cases e : T = 0
  · rw [if_pos e, if_pos e]
  · have hd : (2 * M + T - 1) / (2 * T) ≤ 2 * M + T - 1 := Int.ediv_le_self _ (by omega)
    have hn : 0 ≤ (2 * M + T - 1) / (2 * T) := Int.ediv_nonneg (by omega) (by omega)
    rw [if_neg e, if_neg e, w64 (by omega) (by omega) (x := 2 * M), w64 (by omega) (by omega) (x := 2 * M + T), w64 (by omega) (by omega) (x := 2 * M + T - 1), w64 (by omega) (by omega) (x := 2 * T), if_neg (by omega), tdiv_nn (by omega), w64 (by omega) (by omega)]
theorem spec_sbRound_v {T M R : Int} (h : pieceB T M R = true) : spec_sbRound.f T M R = some (roundV T M) := by
  obtain ⟨h1, h2, h3, h4, h5, h6⟩ := pieceB_t h
  unfold spec_sbRound.f roundV
  by_cases e : T = 0
  · rw [if_pos e, if_pos e]
  · have hd : (2 * M + T - 1) / (2 * T) ≤ 2 * M + T - 1 := Int.ediv_le_self _ (by omega)
    have hn : 0 ≤ (2 * M + T - 1) / (2 * T) := Int.ediv_nonneg (by omega) (by omega)
    rw [if_neg e, if_neg e, w64 (by omega) (by omega) (x := 2 * M), w64 (by omega) (by omega) (x := 2 * M + T), w64 (by omega) (by omega) (x := 2 * M + T - 1), w64 (by omega) (by omega) (x := 2 * T), if_neg (by omega), tdiv_nn (by omega), w64 (by omega) (by omega)]
def gcdI (x y : Int) : Int := (Nat.gcd x.toNat y.toNat : Nat)
theorem gcdI_step {x y : Int} (hx : 0 ≤ x) (hy : 0 ≤ y) : gcdI y (x % y) = gcdI x y := by
  unfold gcdI
  rw [Int.toNat_emod hx hy, Nat.gcd_comm, ← Nat.gcd_rec, Nat.gcd_comm]
theorem gcdI_zero {x : Int} (hx : 0 ≤ x) : gcdI x 0 = x := by
  unfold gcdI
  simp; omega
def modelB (X Y Z : Int) (t g r : List Int) : Bool := gridB X Y Z && decide ((t.length : Int) = X * Y * Z ∧ (g.length : Int) = X * Y * Z ∧ (r.length : Int) = X * Y * Z) && ((t.all fun x => decide (0 ≤ x ∧ x ≤ 10000)) && ((g.all fun x => decide (0 ≤ x ∧ x ≤ 1000)) && (r.all fun x => decide (0 ≤ x ∧ x ≤ 4))))
structure IsMod (X Y Z : Int) (t g r : List Int) : Prop where
  grid : gridB X Y Z = true
  lt : (t.length : Int) = X * Y * Z
  lg : g.length = t.length
  lr : r.length = t.length
  ht : ∀ x ∈ t, 0 ≤ x ∧ x ≤ 10000
  hg : ∀ x ∈ g, 0 ≤ x ∧ x ≤ 1000
  hr : ∀ x ∈ r, 0 ≤ x ∧ x ≤ 4
  pos : 1 ≤ t.length
  le : t.length ≤ 120
theorem modelB_iff {X Y Z : Int} {t g r : List Int} : modelB X Y Z t g r = true ↔ IsMod X Y Z t g r := by
  unfold modelB
  simp only [Bool.and_eq_true, decide_eq_true_eq, List.all_eq_true]
  constructor
  · rintro ⟨⟨h1, h2, h3, h4⟩, h5, h6, h7⟩
    have := grid_pos h1
    exact ⟨h1, h2, by omega, by omega, h5, h6, h7, by omega, by omega⟩
  · intro h
    have h1 := h.lt; have h2 := h.lg; have h3 := h.lr
    exact ⟨⟨h.grid, h1, by omega, by omega⟩, h.ht, h.hg, h.hr⟩
theorem modelB_t {X Y Z : Int} {t g r : List Int} (h : modelB X Y Z t g r = true) : IsMod X Y Z t g r := modelB_iff.1 h
theorem modelB_f {X Y Z : Int} {t g r : List Int} (h : ¬ modelB X Y Z t g r = true) : modelB X Y Z t g r = false := by simpa using h
theorem rd_mem {l : List Int} {i : Int} (h0 : 0 ≤ i) (h : i < (l.length : Int)) : rd l i ∈ l := by
  unfold rd
  rw [List.getD_eq_getElem?_getD, List.getElem?_eq_getElem (by omega)]
  exact List.getElem_mem _
theorem rd_of_getElem? {l : List Int} {i : Nat} {x : Int} (h : l[i]? = some x) : rd l (i : Int) = x := by
  rw [rd_nat, List.getD_eq_getElem?_getD, h]; rfl
theorem IsMod.rt {X Y Z : Int} {t g r : List Int} (h : IsMod X Y Z t g r) {i : Int} (h0 : 0 ≤ i) (h1 : i < (t.length : Int)) : 0 ≤ rd t i ∧ rd t i ≤ 10000 := h.ht _ (rd_mem h0 h1)
theorem IsMod.rg {X Y Z : Int} {t g r : List Int} (h : IsMod X Y Z t g r) {i : Int} (h0 : 0 ≤ i) (h1 : i < (t.length : Int)) : 0 ≤ rd g i ∧ rd g i ≤ 1000 := h.hg _ (rd_mem h0 (by have := h.lg; omega))
theorem IsMod.rr {X Y Z : Int} {t g r : List Int} (h : IsMod X Y Z t g r) {i : Int} (h0 : 0 ≤ i) (h1 : i < (t.length : Int)) : 0 ≤ rd r i ∧ rd r i ≤ 4 := h.hr _ (rd_mem h0 (by have := h.lr; omega))
theorem IsMod.rm {X Y Z : Int} {t g r : List Int} (h : IsMod X Y Z t g r) {i : Int} (h0 : 0 ≤ i) (h1 : i < (t.length : Int)) : 0 ≤ rd t i * rd g i ∧ rd t i * rd g i ≤ 10000000 :=
  mul_bd (h.rt h0 h1).1 (h.rt h0 h1).2 (h.rg h0 h1).1 (h.rg h0 h1).2
theorem impl_IsModel_l (X Y Z : Int) (t g r : List Int) (hn : t.length ≤ 1152921504606846976) (hg : g.length = t.length) (hr : r.length = t.length) : ∀ (d k i : Nat), i + d = t.length → d < k →
    impl_IsModel.l0 k (t.length : Int) (i : Int) X Y Z t g r = some (((t.drop i).all fun x => decide (0 ≤ x ∧ x ≤ 10000)) && (((g.drop i).all fun x => decide (0 ≤ x ∧ x ≤ 1000)) && ((r.drop i).all fun x => decide (0 ≤ x ∧ x ≤ 4)))) := by
  intro d
  induction d with
  | zero =>
    intro k i hi hk
    obtain ⟨k, rfl⟩ := k_succ (by omega : 0 < k)
    simp only [impl_IsModel.l0]
    rw [if_neg (by omega), List.drop_eq_nil_of_le (by omega), List.drop_eq_nil_of_le (by omega), List.drop_eq_nil_of_le (by omega)]
    rfl
  | succ d ih =>
    intro k i hi hk
    obtain ⟨k, rfl⟩ := k_succ (by omega : 0 < k)
    simp only [impl_IsModel.l0]
    rw [if_pos (by omega), if_pos (by omega), if_pos (by omega), drop_rd (by omega : i < t.length), drop_rd (by omega : i < g.length), drop_rd (by omega : i < r.length), w64_succ (by omega), ih k (i + 1) (by omega) (by omega)]
    simp only [List.all_cons]
    by_cases h1 : 0 ≤ rd t (i : Int) ∧ rd t (i : Int) ≤ 10000
    · rw [if_neg (by omega), if_neg (by omega), if_pos (by omega), decide_eq_true h1]
      by_cases h2 : 0 ≤ rd g (i : Int) ∧ rd g (i : Int) ≤ 1000
      · rw [if_neg (by omega), if_neg (by omega), if_pos (by omega), decide_eq_true h2]
        by_cases h3 : 0 ≤ rd r (i : Int) ∧ rd r (i : Int) ≤ 4
        · rw [if_neg (by omega), if_neg (by omega), decide_eq_true h3]
          simp only [Bool.true_and]
        · rw [decide_eq_false h3]
          simp only [Bool.true_and, Bool.false_and, Bool.and_false]
          split
          · rfl
          · rw [if_pos (by omega)]
      · rw [decide_eq_false h2]
        simp only [Bool.true_and, Bool.false_and, Bool.and_false]
        split
        · rfl
        · rw [if_pos (by omega)]
    · rw [decide_eq_false h1]
      simp only [Bool.false_and]
      split
      · rfl
      · rw [if_pos (by omega)]
theorem impl_IsModel_v (X Y Z : Int) (t g r : List Int) {k : Nat} (hk : 122 < k) : impl_IsModel.f k X Y Z t g r = some (modelB X Y Z t g r) := by
  obtain ⟨k, rfl⟩ := k_succ (by omega : 0 < k)
  unfold impl_IsModel.f modelB
  rw [impl_IsGrid_v]
  cases h : gridB X Y Z with
  | false => simp
  | true =>
    have := grid_pos h
    simp only [Option.bind_some, if_true, impl_blocksOf_v h, Bool.true_and, impl_IsModel.j0]
    by_cases h1 : (t.length : Int) = X * Y * Z
    · rw [if_pos h1]
      by_cases h2 : (g.length : Int) = X * Y * Z
      · rw [if_pos h2]
        by_cases h3 : (r.length : Int) = X * Y * Z
        · rw [if_neg (by simp [h3]), decide_eq_true (by omega), Bool.true_and, ← h1]
          have := impl_IsModel_l X Y Z t g r (by omega) (by omega) (by omega) t.length k 0 (by omega) (by omega)
          simpa using this
        · rw [if_pos (by simp [h3]), decide_eq_false (by omega), Bool.false_and]
      · rw [if_neg h2, decide_eq_false (by omega), Bool.false_and]
    · rw [if_neg h1, decide_eq_false (by omega), Bool.false_and]
theorem spec_moGood_v (X Y Z : Int) (t g r : List Int) {k : Nat} (hk : 122 < k) : spec_moGood.f k X Y Z t g r = some (modelB X Y Z t g r) := by
  unfold spec_moGood.f modelB
  rw [spec_grGood_v]
  cases h : gridB X Y Z with
  | false => simp
  | true =>
    have := grid_pos h
    simp only [Option.bind_some, if_true, spec_grCount_v h, Bool.true_and]
    by_cases h1 : (t.length : Int) = X * Y * Z
    · rw [if_pos h1]
      by_cases h2 : (g.length : Int) = X * Y * Z
      · rw [if_pos h2]
        by_cases h3 : (r.length : Int) = X * Y * Z
        · rw [if_pos h3, decide_eq_true (by omega), Bool.true_and, spec_l1All_v _ _ t (by omega) (by omega), spec_l1All_v _ _ g (by omega) (by omega), spec_l1All_v _ _ r (by omega) (by omega)]
          simp only [Option.bind_some]
          cases (t.all fun x => decide (0 ≤ x ∧ x ≤ 10000)) <;> cases (g.all fun x => decide (0 ≤ x ∧ x ≤ 1000)) <;> simp
        · rw [if_neg h3, decide_eq_false (by omega), Bool.false_and]
      · rw [if_neg h2, decide_eq_false (by omega), Bool.false_and]
    · rw [if_neg h1, decide_eq_false (by omega), Bool.false_and]
theorem laws_szIntS_v (l : List Int) (a : Int) (hm : l.length ≤ maxLen) (h0 : 0 ≤ a) (h1 : a ≤ 1048576) : laws_szIntS.f l a = some (if a < (l.length : Int) then -1 else a - (l.length : Int)) := by
  unfold maxLen at hm
  unfold laws_szIntS.f
  rw [w64 (by omega) (by omega)]
  by_cases h : a < (l.length : Int)
  · rw [if_pos (by omega), if_pos h]
  · rw [if_neg (by omega), if_neg h]
theorem laws_szModel_v (X Y Z : Int) (t g r : List Int) (h3 : t.length ≤ maxLen) (h4 : g.length ≤ maxLen) (h5 : r.length ≤ maxLen) :
    (∃ s, laws_szModel.f X Y Z t g r 1048576 = some s ∧ s < 0) ∨ (∃ s, laws_szModel.f X Y Z t g r 1048576 = some s ∧ ¬ s < 0 ∧ t.length ≤ 1048576 ∧ g.length ≤ 1048576 ∧ r.length ≤ 1048576) := by
  unfold laws_szModel.f
  rw [laws_szIntS_v t _ h3 (by omega) (by omega), Option.bind_some]
  by_cases a : (1048576 : Int) < (t.length : Int)
  · rw [if_pos a]; exact .inl ⟨-1, by simp, by omega⟩
  · rw [if_neg a, if_neg (by omega), laws_szIntS_v g _ h4 (by omega) (by omega), Option.bind_some]
    by_cases b : (1048576 - (t.length : Int)) < (g.length : Int)
    · rw [if_pos b]; exact .inl ⟨-1, by simp, by omega⟩
    · rw [if_neg b, if_neg (by omega), laws_szIntS_v r _ h5 (by omega) (by omega), Option.bind_some]
      by_cases c : (1048576 - (t.length : Int) - (g.length : Int)) < (r.length : Int)
      · rw [if_pos c]; exact .inl ⟨-1, by simp, by omega⟩
      · rw [if_neg c, if_neg (by omega)]; exact .inr ⟨_, rfl, by omega, by omega, by omega, by omega⟩
theorem laws_toModel_v (X Y Z : Int) (t g r : List Int) (h3 : t.length ≤ 1048576) (h4 : g.length ≤ 1048576) (h5 : r.length ≤ 1048576) {k : Nat} (hk : 1048576 < k) : laws_toModel.f k X Y Z t g r = some (X, Y, Z, t, g, r) := by
  unfold laws_toModel.f
  rw [laws_toIntS_v t (by omega) (by omega), laws_toIntS_v g (by omega) (by omega), laws_toIntS_v r (by omega) (by omega)]
  rfl
theorem laws_eqModel_v (X Y Z : Int) (t g r : List Int) (h3 : t.length ≤ 1048576) (h4 : g.length ≤ 1048576) (h5 : r.length ≤ 1048576) {k : Nat} (hk : 1048576 < k) : laws_eqModel.f k X Y Z t g r X Y Z t g r = some true := by
  unfold laws_eqModel.f
  rw [laws_eqIntS_v t t (by omega) (by omega), laws_eqIntS_v g g (by omega) (by omega), laws_eqIntS_v r r (by omega) (by omega)]
  simp [laws_eqGrid.f]
def marks (n : Nat) (a : Int) : List Int := (List.range n).map fun i : Nat => a + (i : Int)
theorem marks_length (n : Nat) (a : Int) : (marks n a).length = n := by simp [marks]
theorem marks_rd {n : Nat} {a : Int} {i : Nat} (h : i < n) : rd (marks n a) (i : Int) = a + (i : Int) := by
  rw [rd_get (by rw [marks_length]; exact h)]; simp [marks]
theorem laws_markIntS_l (n : Nat) (a : Int) (ha : 0 ≤ a) (ha' : a ≤ 1152921504606846976) (hn : n ≤ 1152921504606846976) : ∀ (d k i : Nat) (y : List Int), i + d = n → d < k → y.length = n → (∀ j, j < i → y[j]? = some (a + (j : Int))) →
    laws_markIntS.l0 k y (a + (i : Int)) (i : Int) = some (a + (n : Int), marks n a) := by
  intro d
  induction d with
  | zero =>
    intro k i y hi hk hy hj
    obtain ⟨k, rfl⟩ := k_succ (by omega : 0 < k)
    simp only [laws_markIntS.l0]
    rw [if_neg (by omega)]
    have e : y = marks n a := by
      refine List.ext_getElem? fun j => ?_
      by_cases h : j < n
      · rw [hj j (by omega)]; simp [marks, h]
      · rw [List.getElem?_eq_none (by omega), List.getElem?_eq_none (by rw [marks_length]; omega)]
    rw [e, show i = n by omega]
  | succ d ih =>
    intro k i y hi hk hy hj
    obtain ⟨k, rfl⟩ := k_succ (by omega : 0 < k)
    simp only [laws_markIntS.l0]
    rw [if_pos (by omega), if_pos (by omega), w64_succ (by omega), w64 (by omega) (by omega), show a + (i : Int) + 1 = a + ((i + 1 : Nat) : Int) by omega]
    refine ih k (i + 1) _ (by omega) (by omega) (by simpa using hy) (fun j hj' => ?_)
    rw [show ((i : Int) : Int).toNat = i by omega]
    by_cases h : j = i
    · subst h
      rw [List.getElem?_set_self (by omega)]
    · rw [List.getElem?_set_ne (by omega)]
      exact hj j (by omega)
theorem laws_markIntS_v (l : List Int) (a : Int) (ha : 0 ≤ a) (ha' : a ≤ 1152921504606846976) (hn : l.length ≤ 1048576) {k : Nat} (hk : 1048576 < k) : laws_markIntS.f k l a = some (a + (l.length : Int), marks l.length a) := by
  unfold laws_markIntS.f
  have := laws_markIntS_l l.length a ha ha' (by omega) l.length k 0 l (by omega) (by omega) rfl (fun j hj => by omega)
  simpa using this
theorem laws_heldIntS_l (n : Nat) (a : Int) (ha : 0 ≤ a) (ha' : a ≤ 1152921504606846976) (hn : n ≤ 1152921504606846976) : ∀ (d k i : Nat), i + d = n → d < k →
    laws_heldIntS.l0 k (marks n a) (a + (i : Int)) (i : Int) = some (a + (n : Int)) := by
  intro d
  induction d with
  | zero =>
    intro k i hi hk
    obtain ⟨k, rfl⟩ := k_succ (by omega : 0 < k)
    simp only [laws_heldIntS.l0, marks_length]
    rw [if_neg (by omega), show i = n by omega]
  | succ d ih =>
    intro k i hi hk
    obtain ⟨k, rfl⟩ := k_succ (by omega : 0 < k)
    simp only [laws_heldIntS.l0, marks_length]
    rw [if_pos (by omega), if_pos (by omega), marks_rd (by omega), if_pos rfl, w64_succ (by omega), w64 (by omega) (by omega), show a + (i : Int) + 1 = a + ((i + 1 : Nat) : Int) by omega]
    exact ih k (i + 1) (by omega) (by omega)
theorem laws_heldIntS_v (n : Nat) (a : Int) (ha : 0 ≤ a) (ha' : a ≤ 1152921504606846976) (hn : n ≤ 1048576) {k : Nat} (hk : 1048576 < k) : laws_heldIntS.f k (marks n a) a = some (a + (n : Int)) := by
  unfold laws_heldIntS.f
  have := laws_heldIntS_l n a ha ha' (by omega) n k 0 (by omega) (by omega)
  simpa using this
theorem laws_markModel_v (X Y Z : Int) (t g r : List Int) (h3 : t.length ≤ 1048576) (h4 : g.length ≤ 1048576) (h5 : r.length ≤ 1048576) {k : Nat} (hk : 1048576 < k) :
    laws_markModel.f k X Y Z t g r 1 = some (1 + (t.length : Int) + (g.length : Int) + (r.length : Int), marks t.length 1, marks g.length (1 + (t.length : Int)), marks r.length (1 + (t.length : Int) + (g.length : Int))) := by
  unfold laws_markModel.f
  rw [laws_markIntS_v t 1 (by omega) (by omega) h3 hk, Option.bind_some, laws_markIntS_v g _ (by omega) (by omega) h4 hk, Option.bind_some, laws_markIntS_v r _ (by omega) (by omega) h5 hk]
  rfl
theorem laws_heldModel_v (X Y Z : Int) (a b c : Nat) (h3 : a ≤ 1048576) (h4 : b ≤ 1048576) (h5 : c ≤ 1048576) {k : Nat} (hk : 1048576 < k) :
    laws_heldModel.f k X Y Z (marks a 1) (marks b (1 + (a : Int))) (marks c (1 + (a : Int) + (b : Int))) 1 = some (1 + (a : Int) + (b : Int) + (c : Int)) := by
  unfold laws_heldModel.f
  rw [laws_heldIntS_v a 1 (by omega) (by omega) h3 hk, Option.bind_some, if_neg (by omega), laws_heldIntS_v b _ (by omega) (by omega) h4 hk, Option.bind_some, if_neg (by omega), laws_heldIntS_v c _ (by omega) (by omega) h5 hk, Option.bind_some, if_neg (by omega)]
theorem spec_moMetal_v {X Y Z : Int} {t g r : List Int} (h : IsMod X Y Z t g r) {i : Int} (h0 : 0 ≤ i) (h1 : i < (t.length : Int)) : spec_moMetal.f X Y Z t g r i = some (rd t i * rd g i) := by
  have := h.lg; have hb := h.rm h0 h1
  unfold spec_moMetal.f
  rw [if_pos h0, if_pos h1, if_pos (by omega), w64 (by omega) (by omega)]
def risF (n : Int) : Int → List Int → Bool
  | _, [] => true
  | p, x :: xs => decide (0 ≤ x ∧ x < n ∧ p < x) && risF n x xs
def risB (n : Int) (l : List Int) : Bool := risF n (-1) l
theorem risF_cons (n p x : Int) (xs : List Int) : risF n p (x :: xs) = (decide (0 ≤ x ∧ x < n ∧ p < x) && risF n x xs) := rfl
theorem risF_mem {n : Int} : ∀ {p : Int} {l : List Int}, risF n p l = true → ∀ x ∈ l, 0 ≤ x ∧ x < n
  | _, [], _, x, hx => by cases hx
  | p, y :: l, h, x, hx => by
    unfold risF at h
    rw [Bool.and_eq_true, decide_eq_true_eq] at h
    rcases List.mem_cons.1 hx with rfl | hx
    · exact ⟨h.1.1, h.1.2.1⟩
    · exact risF_mem h.2 x hx
theorem risF_len {n : Int} : ∀ {p : Int} {l : List Int}, -1 ≤ p → p < n → risF n p l = true → (l.length : Int) + p < n
  | p, [], h0, h1, _ => by simp; omega
  | p, x :: l, h0, h1, h => by
    unfold risF at h
    rw [Bool.and_eq_true, decide_eq_true_eq] at h
    have := risF_len (by omega) h.1.2.1 h.2
    simp only [List.length_cons]
    omega
theorem risB_mem {n : Int} {l : List Int} (h : risB n l = true) : ∀ x ∈ l, 0 ≤ x ∧ x < n := risF_mem h
theorem risB_len {n : Int} {l : List Int} (hn : 0 ≤ n) (h : risB n l = true) : (l.length : Int) ≤ n := by have := risF_len (by omega) (by omega) h; omega
def sumT (t l : List Int) : Int := (l.map (rd t)).sum
def sumM (t g l : List Int) : Int := (l.map fun i => rd t i * rd g i).sum
theorem sum_bd (f : Int → Int) (B : Int) (hB : 0 ≤ B) : ∀ (l : List Int), (∀ x ∈ l, 0 ≤ f x ∧ f x ≤ B) → 0 ≤ (l.map f).sum ∧ (l.map f).sum ≤ B * (l.length : Int)
  | [], _ => by simp
  | x :: l, h => by
    have h1 := h x (by simp)
    have h2 := sum_bd f B hB l (fun y hy => h y (by simp [hy]))
    simp only [List.map_cons, List.sum_cons, List.length_cons]
    have e : B * ((l.length + 1 : Nat) : Int) = B * (l.length : Int) + B := by
      rw [show ((l.length + 1 : Nat) : Int) = (l.length : Int) + 1 by omega, Int.mul_add, Int.mul_one]
    omega
def filtI (p : Int → Bool) : List Int → Nat → List Int
  | [], _ => []
  | x :: l, i => if p x = true then (i : Int) :: filtI p l (i + 1) else filtI p l (i + 1)
theorem filtI_pos {p : Int → Bool} {x : Int} {l : List Int} {i : Nat} (h : p x = true) : filtI p (x :: l) i = (i : Int) :: filtI p l (i + 1) := by rw [filtI, if_pos h]
theorem filtI_neg {p : Int → Bool} {x : Int} {l : List Int} {i : Nat} (h : ¬ p x = true) : filtI p (x :: l) i = filtI p l (i + 1) := by rw [filtI, if_neg h]
theorem filtI_len (p : Int → Bool) : ∀ (l : List Int) (i : Nat), (filtI p l i).length ≤ l.length
  | [], _ => by simp [filtI]
  | x :: l, i => by
    have := filtI_len p l (i + 1)
    unfold filtI
    split <;> simp <;> omega
theorem spec_sbOf_v {X Y Z : Int} {t g r : List Int} (h : IsMod X Y Z t g r) {i : Int} (h0 : 0 ≤ i) (h1 : i < (t.length : Int)) : spec_sbOf.f X Y Z t g r i = some (rd t i, rd t i * rd g i, rd r i) := by
  have := h.lr
  unfold spec_sbOf.f
  rw [if_pos h0, if_pos h1, spec_moMetal_v h h0 h1, Option.bind_some, if_pos (by omega)]
def joinFin (p : Int × Int × Int) : Int × Int × Int × Bool := if p.1 > 10000 then (0, 0, 0, false) else (p.1, p.2.1, p.2.2, true)
theorem impl_joinPieces_l1 (x : List Int) (hx : x.length = 5) : ∀ (k : Nat) (i a b c : Int), impl_joinPieces.l1 k x i a b c = (spec_sbJoin.l1 k x x 5 i a b c).map joinFin := by
  intro k
  induction k with
  | zero => intro i a b c; rfl
  | succ k ih =>
    intro i a b c
    simp only [impl_joinPieces.l1, spec_sbJoin.l1, hx, ih, show ((5 : Nat) : Int) = 5 from rfl]
    by_cases h : i < 5
    · rw [if_pos h, if_pos h, if_pos h]
      split
      · split
        · split
          · split <;> rfl
          · rfl
        · rfl
      · rfl
    · rw [if_neg h, if_neg h]
      show _ = some (joinFin (a, b, c))
      unfold joinFin
      split <;> rfl
theorem impl_joinPieces_l0 (l : List S29) (n : Int) : ∀ (k : Nat) (x : List Int) (i a b c : Int), x.length = 5 → impl_joinPieces.l0 k x l n i a b c = (spec_sbJoin.l0 k x l n i a b c).map joinFin := by
  intro k
  induction k with
  | zero => intro x i a b c hx; rfl
  | succ k ih =>
    intro x i a b c hx
    simp only [impl_joinPieces.l0, spec_sbJoin.l0, hx, show ((5 : Nat) : Int) = 5 from rfl]
    rw [ih _ _ _ _ _ (by simpa using hx), impl_joinPieces_l1 x hx]
    split
    · split
      · split
        · split
          · split <;> rfl
          · rfl
        · rfl
      · rfl
    · rfl
theorem impl_joinPieces_v (k : Nat) (l : List S29) : impl_joinPieces.f k l = (spec_sbJoin.f k l).map joinFin := by
  unfold impl_joinPieces.f spec_sbJoin.f
  rw [if_pos (by decide)]
  exact impl_joinPieces_l0 l _ k _ _ _ _ _ (by simp)
structure Okl (l : List S29) : Prop where
  le : l.length ≤ 120
  all : ∀ p ∈ l, pieceB p.f0 p.f1 p.f2 = true
def sT (l : List S29) : Int := (l.map fun p => p.f0).sum
def sM (l : List S29) : Int := (l.map fun p => p.f1).sum
theorem sT_cons (p : S29) (l : List S29) : sT (p :: l) = p.f0 + sT l := by simp [sT]
theorem sM_cons (p : S29) (l : List S29) : sM (p :: l) = p.f1 + sM l := by simp [sM]
theorem sj_bd0 : ∀ (l : List S29), (∀ p ∈ l, pieceB p.f0 p.f1 p.f2 = true) → 0 ≤ sT l ∧ sT l ≤ 10000 * (l.length : Int) ∧ 0 ≤ sM l ∧ sM l ≤ 1000 * sT l
  | [], _ => by simp [sT, sM]
  | p :: l, h => by
    have h1 := pieceB_t (h p (by simp))
    have h2 := sj_bd0 l (fun q hq => h q (by simp [hq]))
    rw [sT_cons, sM_cons, List.length_cons]
    omega
theorem sj_bd {l : List S29} (h : Okl l) : 0 ≤ sT l ∧ sT l ≤ 1200000 ∧ 0 ≤ sM l ∧ sM l ≤ 1000 * sT l := by
  have := sj_bd0 l h.all
  have := h.le
  omega
theorem sj_drop {l : List S29} {i : Nat} (h : i < l.length) : l.drop i = rd_T29 l (i : Int) :: l.drop (i + 1) := by
  unfold rd_T29
  rw [show ((i : Int) : Int).toNat = i by omega, List.drop_eq_getElem_cons h, List.getD_eq_getElem?_getD, List.getElem?_eq_getElem h]; rfl
theorem sj_mem {l : List S29} {i : Nat} (h : i < l.length) : rd_T29 l (i : Int) ∈ l := by
  unfold rd_T29
  rw [show ((i : Int) : Int).toNat = i by omega, List.getD_eq_getElem?_getD, List.getElem?_eq_getElem h]
  exact List.getElem_mem _
theorem sj_l1 (x : List Int) (hx : x.length = 5) : ∀ (d i : Nat) (a b c : Int), i + d = 5 → 0 ≤ c → c ≤ 4 →
    ∃ c', 0 ≤ c' ∧ c' ≤ 4 ∧ ∀ k, d < k → spec_sbJoin.l1 k x x 5 (i : Int) a b c = some (a, b, c') := by
  intro d
  induction d with
  | zero =>
    intro i a b c hi h0 h1
    refine ⟨c, h0, h1, fun k hk => ?_⟩
    obtain ⟨k, rfl⟩ := k_succ (by omega : 0 < k)
    simp only [spec_sbJoin.l1]
    rw [if_neg (by omega)]
  | succ d ih =>
    intro i a b c hi h0 h1
    by_cases h : rd x (i : Int) > rd x c
    · obtain ⟨c', g0, g1, e⟩ := ih (i + 1) a b i (by omega) (by omega) (by omega)
      refine ⟨c', g0, g1, fun k hk => ?_⟩
      obtain ⟨k, rfl⟩ := k_succ (by omega : 0 < k)
      simp only [spec_sbJoin.l1]
      rw [if_pos (by omega), if_pos (by omega), if_pos (by omega), if_pos h0, if_pos (by omega), w64_succ (by omega), if_pos h]
      exact e k (by omega)
    · obtain ⟨c', g0, g1, e⟩ := ih (i + 1) a b c (by omega) h0 h1
      refine ⟨c', g0, g1, fun k hk => ?_⟩
      obtain ⟨k, rfl⟩ := k_succ (by omega : 0 < k)
      simp only [spec_sbJoin.l1]
      rw [if_pos (by omega), if_pos (by omega), if_pos (by omega), if_pos h0, if_pos (by omega), w64_succ (by omega), if_neg h]
      exact e k (by omega)
theorem sj_l0 (l : List S29) (h : Okl l) : ∀ (d i : Nat) (x : List Int) (a b : Int), i + d = l.length → x.length = 5 → 0 ≤ a → a ≤ 10000 * (i : Int) → 0 ≤ b → b ≤ 1000 * a →
    ∃ R, 0 ≤ R ∧ R ≤ 4 ∧ ∀ k, d + 6 < k → spec_sbJoin.l0 k x l (l.length : Int) (i : Int) a b 0 = some (a + sT (l.drop i), b + sM (l.drop i), R) := by
  have hle := h.le
  intro d
  induction d with
  | zero =>
    intro i x a b hi hx h0 h1 h2 h3
    obtain ⟨c', g0, g1, e⟩ := sj_l1 x hx 5 0 a b 0 (by omega) (by omega) (by omega)
    refine ⟨c', g0, g1, fun k hk => ?_⟩
    obtain ⟨k, rfl⟩ := k_succ (by omega : 0 < k)
    simp only [spec_sbJoin.l0]
    rw [if_neg (by omega), List.drop_eq_nil_of_le (by omega), show ((x.length : Nat) : Int) = 5 by omega]
    have := e k (by omega)
    simpa [sT, sM] using this
  | succ d ih =>
    intro i x a b hi hx h0 h1 h2 h3
    have hp := pieceB_t (h.all _ (sj_mem (by omega : i < l.length)))
    obtain ⟨R, g0, g1, e⟩ := ih (i + 1) (x.set ((rd_T29 l (i : Int)).f2).toNat (wrap64 (rd x (rd_T29 l (i : Int)).f2 + (rd_T29 l (i : Int)).f0))) (a + (rd_T29 l (i : Int)).f0) (b + (rd_T29 l (i : Int)).f1) (by omega) (by simpa using hx) (by omega) (by omega) (by omega) (by omega)
    refine ⟨R, g0, g1, fun k hk => ?_⟩
    obtain ⟨k, rfl⟩ := k_succ (by omega : 0 < k)
    simp only [spec_sbJoin.l0]
    rw [if_pos (by omega), if_pos (by omega), if_pos (by omega), if_pos hp.2.2.2.2.1, if_pos (by omega), w64_succ (by omega), w64 (x := a + _) (by omega) (by omega), w64 (x := b + _) (by omega) (by omega), e k (by omega), sj_drop (by omega : i < l.length), sT_cons, sM_cons, Int.add_assoc, Int.add_assoc]
def joinR (l : List S29) : Int := ((spec_sbJoin.f 200 l).getD (0, 0, 0)).2.2
theorem sj_v {l : List S29} (h : Okl l) : (0 ≤ joinR l ∧ joinR l ≤ 4) ∧ ∀ k, 130 < k → spec_sbJoin.f k l = some (sT l, sM l, joinR l) := by
  have hle := h.le
  obtain ⟨R, g0, g1, e⟩ := sj_l0 l h l.length 0 (List.replicate 5 0) 0 0 (by omega) (by simp) (by omega) (by omega) (by omega) (by omega)
  have e' : ∀ k, 130 < k → spec_sbJoin.f k l = some (sT l, sM l, R) := by
    intro k hk
    unfold spec_sbJoin.f
    rw [if_pos (by decide)]
    have := e k (by omega)
    simpa using this
  have eR : joinR l = R := by unfold joinR; rw [e' 200 (by omega)]; rfl
  rw [eR]
  exact ⟨⟨g0, g1⟩, e'⟩
theorem roundV_bd {T M R : Int} (h : pieceB T M R = true) : 0 ≤ roundV T M ∧ roundV T M ≤ 1000 := by
  obtain ⟨h1, h2, h3, h4, h5, h6⟩ := pieceB_t h
  unfold roundV
  split
  · omega
  · have hn : 0 ≤ (2 * M + T - 1) / (2 * T) := Int.ediv_nonneg (by omega) (by omega)
    have : (2 * M + T - 1) / (2 * T) < 1001 := Int.ediv_lt_of_lt_mul (by omega) (by omega)
    omega
def pcI (t g r : List Int) (i : Int) : S29 := ⟨rd t i, rd t i * rd g i, rd r i⟩
theorem pcI_ok {X Y Z : Int} {t g r : List Int} (h : IsMod X Y Z t g r) {i : Int} (h0 : 0 ≤ i) (h1 : i < (t.length : Int)) : pieceB (pcI t g r i).f0 (pcI t g r i).f1 (pcI t g r i).f2 = true := by
  have a := h.rt h0 h1; have b := h.rg h0 h1; have c := h.rr h0 h1; have m := h.rm h0 h1
  have e : rd t i * rd g i ≤ rd t i * 1000 := Int.mul_le_mul_of_nonneg_left b.2 a.1
  unfold pieceB pcI
  exact decide_eq_true ⟨a.1, a.2, m.1, by show rd t i * rd g i ≤ 1000 * rd t i; omega, c.1, c.2⟩
def grpD (X Y : Int) (t g r : List Int) (q : Int) : Nat → Nat → List S29
  | _, 0 => []
  | i, d + 1 => if coarseV X Y (i : Int) = q then pcI t g r (i : Int) :: grpD X Y t g r q (i + 1) d else grpD X Y t g r q (i + 1) d
theorem grpD_len (X Y : Int) (t g r : List Int) (q : Int) : ∀ (d i : Nat), (grpD X Y t g r q i d).length ≤ d
  | 0, i => by simp [grpD]
  | d + 1, i => by
    have := grpD_len X Y t g r q d (i + 1)
    unfold grpD
    split
    · rw [List.length_cons]; omega
    · omega
theorem grpD_ok {X Y Z : Int} {t g r : List Int} (h : IsMod X Y Z t g r) (q : Int) : ∀ (d i : Nat), i + d ≤ t.length → ∀ p ∈ grpD X Y t g r q i d, pieceB p.f0 p.f1 p.f2 = true
  | 0, i, _, p, hp => by simp [grpD] at hp
  | d + 1, i, hi, p, hp => by
    have ih := grpD_ok h q d (i + 1) (by omega)
    unfold grpD at hp
    split at hp
    · rcases List.mem_cons.1 hp with rfl | hp
      · exact pcI_ok h (by omega) (by omega)
      · exact ih p hp
    · exact ih p hp
def grp (X Y : Int) (t g r : List Int) (q : Int) : List S29 := grpD X Y t g r q 0 t.length
theorem grp_ok {X Y Z : Int} {t g r : List Int} (h : IsMod X Y Z t g r) (q : Int) : Okl (grp X Y t g r q) := by
  have := h.le
  have := grpD_len X Y t g r q t.length 0
  exact ⟨by unfold grp; omega, grpD_ok h q t.length 0 (by omega)⟩
def remS (f : Int → Int) : Int → Nat → Int
  | _, 0 => 0
  | q, d + 1 => f q + remS f (q + 1) d
theorem remS_zero : ∀ (d : Nat) (q : Int), remS (fun _ => 0) q d = 0
  | 0, q => rfl
  | d + 1, q => by unfold remS; rw [remS_zero d (q + 1)]; rfl
theorem remS_add (f g : Int → Int) : ∀ (d : Nat) (q : Int), remS (fun q => f q + g q) q d = remS f q d + remS g q d
  | 0, q => rfl
  | d + 1, q => by unfold remS; rw [remS_add f g d (q + 1)]; omega
theorem remS_ite (c m : Int) : ∀ (d : Nat) (q : Int), remS (fun q => if c = q then m else 0) q d = if q ≤ c ∧ c < q + (d : Int) then m else 0
  | 0, q => by rw [if_neg (by omega)]; rfl
  | d + 1, q => by
    unfold remS
    rw [remS_ite c m d (q + 1)]
    by_cases e : c = q
    · rw [if_pos e, if_neg (by omega), if_pos (by omega)]; omega
    · rw [if_neg e]
      by_cases h : q + 1 ≤ c ∧ c < q + 1 + (d : Int)
      · rw [if_pos h, if_pos (by omega)]; omega
      · rw [if_neg h, if_neg (by omega)]; rfl
def totM (t g : List Int) : Nat → Nat → Int
  | _, 0 => 0
  | i, d + 1 => rd t (i : Int) * rd g (i : Int) + totM t g (i + 1) d
theorem part (X Y : Int) (t g r : List Int) (n : Nat) : ∀ (d i : Nat), (∀ j : Nat, i ≤ j → j < i + d → 0 ≤ coarseV X Y (j : Int) ∧ coarseV X Y (j : Int) < (n : Int)) → remS (fun q => sM (grpD X Y t g r q i d)) 0 n = totM t g i d
  | 0, i, _ => by simpa [grpD, sM, totM] using remS_zero n 0
  | d + 1, i, h => by
    have ih := part X Y t g r n d (i + 1) (fun j h1 h2 => h j (by omega) (by omega))
    have hc := h i (by omega) (by omega)
    have e : (fun q => sM (grpD X Y t g r q i (d + 1))) = fun q => (if coarseV X Y (i : Int) = q then rd t (i : Int) * rd g (i : Int) else 0) + sM (grpD X Y t g r q (i + 1) d) := by
      funext q
      show sM (if coarseV X Y (i : Int) = q then pcI t g r (i : Int) :: grpD X Y t g r q (i + 1) d else grpD X Y t g r q (i + 1) d) = _
      by_cases hq : coarseV X Y (i : Int) = q
      · rw [if_pos hq, if_pos hq, sM_cons]; rfl
      · rw [if_neg hq, if_neg hq]; omega
    rw [e, remS_add (fun q => if coarseV X Y (i : Int) = q then rd t (i : Int) * rd g (i : Int) else 0) (fun q => sM (grpD X Y t g r q (i + 1) d)), remS_ite, if_pos (by omega), ih]
    rfl
theorem coarseV_bd {X Y Z i : Int} (h : hasB X Y Z i = true) : 0 ≤ coarseV X Y i ∧ coarseV X Y i < (X + 1) / 2 * ((Y + 1) / 2) * Z := by
  obtain ⟨hg, hi, hi'⟩ := hasB_t h
  obtain ⟨h1, h2, h3, h4, h5, h6, h7⟩ := gridB_t hg
  obtain ⟨⟨p1, p2⟩, ⟨p3, p4⟩, ⟨p5, p6⟩, p7, p8⟩ := place_bd h
  unfold coarseV
  have a0 : 0 ≤ i / X / Y * ((Y + 1) / 2) := Int.mul_nonneg p5 (by omega)
  have a1 : i / X / Y * ((Y + 1) / 2) ≤ (Z - 1) * ((Y + 1) / 2) := Int.mul_le_mul_of_nonneg_right (by omega) (by omega)
  rw [Int.sub_mul, Int.one_mul] at a1
  have b0 : 0 ≤ (i / X / Y * ((Y + 1) / 2) + i / X % Y / 2) * ((X + 1) / 2) := Int.mul_nonneg (by omega) (by omega)
  have b1 : (i / X / Y * ((Y + 1) / 2) + i / X % Y / 2) * ((X + 1) / 2) ≤ (Z * ((Y + 1) / 2) - 1) * ((X + 1) / 2) := Int.mul_le_mul_of_nonneg_right (by omega) (by omega)
  rw [Int.sub_mul, Int.one_mul] at b1
  have e : (X + 1) / 2 * ((Y + 1) / 2) * Z = Z * ((Y + 1) / 2) * ((X + 1) / 2) := by
    rw [Int.mul_comm _ Z, Int.mul_comm ((X + 1) / 2), ← Int.mul_assoc]
  rw [e]
  omega
theorem coarse_grid {X Y Z : Int} (h : gridB X Y Z = true) : gridB ((X + 1) / 2) ((Y + 1) / 2) Z = true := by
  obtain ⟨h1, h2, h3, h4, h5, h6, h7⟩ := gridB_t h
  have a := mul_bd (by omega : 0 ≤ (X + 1) / 2) (by omega : (X + 1) / 2 ≤ 4) (by omega : 0 ≤ (Y + 1) / 2) (by omega : (Y + 1) / 2 ≤ 3)
  have b := mul_bd a.1 a.2 (by omega : 0 ≤ Z) h6
  exact decide_eq_true ⟨by omega, by omega, by omega, by omega, by omega, by omega, by omega⟩
def coF (x y z : Int) (G : Int → List S29) : Nat → Int → Int → List Int → List Int → List Int → Int × Int × Int × List Int × List Int × List Int × Int × Bool
  | 0, _, gap, a, b, c => (x, y, z, a, b, c, gap, true)
  | d + 1, q, gap, a, b, c => if sT (G q) > 10000 then (0, 0, 0, [], [], [], 0, false) else coF x y z G d (q + 1) (gap + (sT (G q) * roundV (sT (G q)) (sM (G q)) - sM (G q))) (a ++ [sT (G q)]) (b ++ [roundV (sT (G q)) (sM (G q))]) (c ++ [joinR (G q)])
theorem coF_is (x y z : Int) (G : Int → List S29) : ∀ (d : Nat) (q gap : Int) (a b c : List Int) (n : Nat), a.length ≤ n → b.length ≤ n → c.length ≤ n → ∃ X' Y' Z' t' g' r' s o, coF x y z G d q gap a b c = (X', Y', Z', t', g', r', s, o) ∧ t'.length ≤ n + d ∧ g'.length ≤ n + d ∧ r'.length ≤ n + d
  | 0, q, gap, a, b, c, n, h1, h2, h3 => ⟨_, _, _, _, _, _, _, _, rfl, by omega, by omega, by omega⟩
  | d + 1, q, gap, a, b, c, n, h1, h2, h3 => by
    unfold coF
    split
    · exact ⟨_, _, _, _, _, _, _, _, rfl, by simp, by simp, by simp⟩
    · obtain ⟨X', Y', Z', t', g', r', s, o, e, g1, g2, g3⟩ := coF_is x y z G d (q + 1) (gap + (sT (G q) * roundV (sT (G q)) (sM (G q)) - sM (G q))) (a ++ [sT (G q)]) (b ++ [roundV (sT (G q)) (sM (G q))]) (c ++ [joinR (G q)]) (n + 1) (by simp; omega) (by simp; omega) (by simp; omega)
      exact ⟨X', Y', Z', t', g', r', s, o, e, by omega, by omega, by omega⟩
theorem join_piece {l : List S29} (h : Okl l) (hT : ¬ sT l > 10000) : pieceB (sT l) (sM l) (joinR l) = true := by
  have := sj_bd h; have := (sj_v h).1
  exact decide_eq_true ⟨by omega, by omega, by omega, by omega, by omega, by omega⟩
theorem join_bd {l : List S29} (h : Okl l) (hT : ¬ sT l > 10000) : (0 ≤ sT l * roundV (sT l) (sM l) ∧ sT l * roundV (sT l) (sM l) ≤ 10000000) ∧ 0 ≤ sM l ∧ sM l ≤ 10000000 := by
  have a := sj_bd h; have b := roundV_bd (join_piece h hT)
  exact ⟨mul_bd a.1 (by omega : sT l ≤ 10000) b.1 b.2, by omega, by omega⟩
def coarseR (X Y Z : Int) (t g r : List Int) : Int × Int × Int × List Int × List Int × List Int × Int × Bool :=
  if modelB X Y Z t g r = true then coF ((X + 1) / 2) ((Y + 1) / 2) Z (grp X Y t g r) ((X + 1) / 2 * ((Y + 1) / 2) * Z).toNat 0 0 [] [] [] else (0, 0, 0, [], [], [], 0, false)
theorem spec_Coarse_l1 {X Y Z : Int} {t g r : List Int} (h : IsMod X Y Z t g r) (gap q x y z : Int) (a b c : List Int) : ∀ (d k i : Nat) (acc : List S29), i + d = t.length → d < k → acc ++ grpD X Y t g r q i d = grp X Y t g r q →
    spec_CoarseModel.l1 k gap q acc (t.length : Int) (i : Int) X Y Z t g r x y z a b c = spec_CoarseModel.l1 (k - d) gap q (grp X Y t g r q) (t.length : Int) (t.length : Int) X Y Z t g r x y z a b c := by
  have hle := h.le
  intro d
  induction d with
  | zero =>
    intro k i acc hi hk he
    rw [← he, show i = t.length by omega]
    simp [grpD]
  | succ d ih =>
    intro k i acc hi hk he
    obtain ⟨k, rfl⟩ := k_succ (by omega : 0 < k)
    have hh := hasB_of h.grid (by omega : 0 ≤ (i : Int)) (by have := h.lt; omega)
    rw [show k + 1 - (d + 1) = k - d by omega]
    conv => lhs; rw [spec_CoarseModel.l1]
    rw [if_pos (by omega), spec_sbCoarse_v hh, Option.bind_some, w64_succ (by omega)]
    unfold grpD at he
    by_cases hq : coarseV X Y (i : Int) = q
    · rw [if_pos hq] at he
      have hl : acc.length ≤ 120 := by
        have := (grp_ok h q).le
        rw [← he, List.length_append] at this; omega
      rw [if_pos hq, spec_sbOf_v h (by omega) (by omega), Option.bind_some, if_pos (by omega)]
      exact ih k (i + 1) _ (by omega) (by omega) (by rw [List.append_assoc]; exact he)
    · rw [if_neg hq] at he
      rw [if_neg hq]
      exact ih k (i + 1) _ (by omega) (by omega) he
theorem spec_Coarse_l0 {X Y Z : Int} {t g r : List Int} (h : IsMod X Y Z t g r) (x y z : Int) (n : Nat) (hn : n ≤ 120) (hc : spec_grCount.f x y z = some (n : Int)) : ∀ (d k q : Nat) (gap : Int) (a b c : List Int), q + d = n → 130 * d + 300 < k → -(10000000 * (q : Int)) ≤ gap → gap ≤ 10000000 * (q : Int) → a.length = q → b.length = q → c.length = q →
    spec_CoarseModel.l0 k gap (q : Int) X Y Z t g r x y z a b c = some (coF x y z (grp X Y t g r) d (q : Int) gap a b c) := by
  have hle := h.le
  intro d
  induction d with
  | zero =>
    intro k q gap a b c hq hk g0 g1 la lb lc
    obtain ⟨k, rfl⟩ := k_succ (by omega : 0 < k)
    rw [spec_CoarseModel.l0, hc, Option.bind_some, if_neg (by omega)]
    rfl
  | succ d ih =>
    intro k q gap a b c hq hk g0 g1 la lb lc
    obtain ⟨k, rfl⟩ := k_succ (by omega : 0 < k)
    have hG := grp_ok h (q : Int)
    rw [spec_CoarseModel.l0, hc, Option.bind_some, if_pos (by omega), show (0 : Int) = ((0 : Nat) : Int) from rfl, spec_Coarse_l1 h gap (q : Int) x y z a b c t.length k 0 [] (by omega) (by omega) rfl]
    obtain ⟨m, hm⟩ : ∃ m, k - t.length = m + 1 := ⟨k - t.length - 1, by omega⟩
    rw [hm, spec_CoarseModel.l1, if_neg (by omega), (sj_v hG).2 m (by omega), Option.bind_some, spec_sbPiece_v, Option.bind_some]
    unfold coF
    by_cases hT : sT (grp X Y t g r (q : Int)) > 10000
    · have e : pieceB (sT (grp X Y t g r (q : Int))) (sM (grp X Y t g r (q : Int))) (joinR (grp X Y t g r (q : Int))) = false := by
        unfold pieceB; rw [decide_eq_false_iff_not]; omega
      rw [e, if_neg (by decide), if_pos hT]
    · have e := join_piece hG hT
      have hb := join_bd hG hT
      have hb1 := hb.1.1; have hb2 := hb.1.2; have hb3 := hb.2.1; have hb4 := hb.2.2
      have hw : wrap64 (gap + wrap64 (wrap64 (sT (grp X Y t g r (q : Int)) * roundV (sT (grp X Y t g r (q : Int))) (sM (grp X Y t g r (q : Int)))) - sM (grp X Y t g r (q : Int)))) = gap + (sT (grp X Y t g r (q : Int)) * roundV (sT (grp X Y t g r (q : Int))) (sM (grp X Y t g r (q : Int))) - sM (grp X Y t g r (q : Int))) := by
        rw [w64 (x := sT (grp X Y t g r (q : Int)) * roundV (sT (grp X Y t g r (q : Int))) (sM (grp X Y t g r (q : Int)))) (by omega) (by omega), w64 (x := sT (grp X Y t g r (q : Int)) * roundV (sT (grp X Y t g r (q : Int))) (sM (grp X Y t g r (q : Int))) - sM (grp X Y t g r (q : Int))) (by omega) (by omega), w64 (by omega) (by omega)]
      rw [e, if_pos rfl, if_neg hT, if_pos (by omega), spec_sbRound_v e, Option.bind_some, if_pos (by omega), if_pos (by omega), Option.bind_some, w64_succ (by omega), hw]
      exact ih m (q + 1) _ _ _ _ (by omega) (by omega) (by omega) (by omega) (by simp; omega) (by simp; omega) (by simp; omega)
theorem coarse_cnt {X Y Z : Int} {t g r : List Int} (h : IsMod X Y Z t g r) : ∃ n : Nat, (X + 1) / 2 * ((Y + 1) / 2) * Z = (n : Int) ∧ n ≤ 120 := by
  have := grid_pos (coarse_grid h.grid)
  exact ⟨((X + 1) / 2 * ((Y + 1) / 2) * Z).toNat, by omega, by omega⟩
theorem spec_CoarseModel_v (X Y Z : Int) (t g r : List Int) {k : Nat} (hk : 16000 < k) : spec_CoarseModel.f k X Y Z t g r = some (coarseR X Y Z t g r) := by
  unfold spec_CoarseModel.f coarseR
  rw [spec_moGood_v X Y Z t g r (by omega)]
  cases hB : modelB X Y Z t g r with
  | false => simp
  | true =>
    have h := modelB_t hB
    obtain ⟨n, hn, hn'⟩ := coarse_cnt h
    rw [Option.bind_some, if_pos rfl, if_pos rfl, spec_sbGrid_v h.grid, Option.bind_some, hn, show ((n : Int)).toNat = n by omega]
    exact spec_Coarse_l0 h _ _ _ n hn' (by rw [spec_grCount_v (coarse_grid h.grid), hn]) n k 0 0 [] [] [] (by omega) (by omega) (by omega) (by omega) rfl rfl rfl
theorem impl_PieceOf_w {X Y Z : Int} {t g r : List Int} (h : IsMod X Y Z t g r) {i : Int} (h0 : 0 ≤ i) (h1 : i < (t.length : Int)) {k : Nat} (hk : 122 < k) : impl_PieceOf.f k X Y Z t g r i = some (rd t i, rd t i * rd g i, rd r i, true) := by
  have := h.lg; have := h.lr
  have hb := h.rm h0 h1
  unfold impl_PieceOf.f
  rw [impl_IsModel_v X Y Z t g r hk, modelB_iff.2 h, Option.bind_some, if_pos rfl, if_neg (by omega), if_neg (by omega), if_pos (by omega), if_pos (by omega), if_pos (by omega), if_pos (by omega), w64 (by omega) (by omega)]
theorem rdL_set {l : List (List S29)} {i : Nat} {v : List S29} (j : Int) (h0 : 0 ≤ j) (hi : i < l.length) : rd_L2 (l.set i v) j = if j = (i : Int) then v else rd_L2 l j := by
  unfold rd_L2
  rw [List.getD_eq_getElem?_getD, List.getD_eq_getElem?_getD]
  by_cases h : j = (i : Int)
  · rw [if_pos h, show j.toNat = i by omega, List.getElem?_set_self hi]; rfl
  · rw [if_neg h, List.getElem?_set_ne (by omega)]
theorem impl_Coarse_l0 {X Y Z : Int} {t g r : List Int} (h : IsMod X Y Z t g r) (x y z : Int) (n : Nat) (hn : n ≤ 120) (hc : (X + 1) / 2 * ((Y + 1) / 2) * Z = (n : Int)) : ∀ (d k i : Nat) (L : List (List S29)) (m : Int), i + d = t.length → d + 200 < k → L.length = n → (∀ q : Int, 0 ≤ q → q < (n : Int) → rd_L2 L q ++ grpD X Y t g r q i d = grp X Y t g r q) → -(10000000 * (i : Int)) ≤ m → m ≤ 0 →
    ∃ L', L'.length = n ∧ (∀ q : Int, 0 ≤ q → q < (n : Int) → rd_L2 L' q = grp X Y t g r q) ∧ -1200000000 ≤ m - totM t g i d ∧ m - totM t g i d ≤ 0 ∧
      impl_CoarseModel.l0 k L m (t.length : Int) (i : Int) X Y Z t g r x y z = impl_CoarseModel.l1 (k - d - 1) (m - totM t g i d) L' (n : Int) 0 x y z [] [] [] := by
  have hle := h.le
  intro d
  induction d with
  | zero =>
    intro k i L m hi hk hL hG m0 m1
    obtain ⟨k, rfl⟩ := k_succ (by omega : 0 < k)
    refine ⟨L, hL, fun q h0 h1 => ?_, by unfold totM; omega, by unfold totM; omega, ?_⟩
    · have := hG q h0 h1; simpa [grpD] using this
    · rw [impl_CoarseModel.l0, if_neg (by omega), hL]
      simp [totM]
  | succ d ih =>
    intro k i L m hi hk hL hG m0 m1
    obtain ⟨k, rfl⟩ := k_succ (by omega : 0 < k)
    have hh := hasB_of h.grid (by omega : 0 ≤ (i : Int)) (by have := h.lt; omega)
    have hcb := coarseV_bd hh
    rw [hc] at hcb
    have hm := h.rm (by omega : 0 ≤ (i : Int)) (by omega)
    obtain ⟨L', e1, e2, e3, e4, e5⟩ := ih k (i + 1) (L.set (coarseV X Y (i : Int)).toNat (rd_L2 L (coarseV X Y (i : Int)) ++ [pcI t g r (i : Int)])) (m - rd t (i : Int) * rd g (i : Int)) (by omega) (by omega) (by simpa using hL) (fun q h0 h1 => by
      have he := hG q h0 h1
      unfold grpD at he
      rw [rdL_set q h0 (by omega)]
      by_cases hq : coarseV X Y (i : Int) = q
      · rw [if_pos hq] at he
        rw [if_pos (by omega), hq, List.append_assoc]; exact he
      · rw [if_neg hq] at he
        rw [if_neg (by omega)]; exact he) (by omega) (by omega)
    have et : m - totM t g i (d + 1) = m - rd t (i : Int) * rd g (i : Int) - totM t g (i + 1) d := by
      show m - (rd t (i : Int) * rd g (i : Int) + totM t g (i + 1) d) = _
      omega
    rw [et]
    refine ⟨L', e1, e2, e3, e4, ?_⟩
    have hl : (rd_L2 L (coarseV X Y (i : Int))).length ≤ 120 := by
      have := (grp_ok h (coarseV X Y (i : Int))).le
      rw [← hG _ hcb.1 hcb.2, List.length_append] at this; omega
    rw [show k + 1 - (d + 1) - 1 = k - d - 1 by omega, ← e5, impl_CoarseModel.l0, if_pos (by omega), impl_PieceOf_w h (by omega) (by omega) (by omega), Option.bind_some, impl_CoarseBlock_v, if_pos hh, Option.bind_some, if_pos hcb.1, if_pos (by omega), if_pos (show (rd_L2 L (coarseV X Y (i : Int))).length < 5864062014805 by omega), w64_succ (by omega), w64 (x := m - rd t (i : Int) * rd g (i : Int)) (by omega) (by omega)]
    rfl
theorem impl_Coarse_l1 (x y z : Int) (G : Int → List S29) (hG : ∀ q, Okl (G q)) (L : List (List S29)) (n : Nat) (hn : n ≤ 120) (hL : L.length = n) (hLG : ∀ q : Int, 0 ≤ q → q < (n : Int) → rd_L2 L q = G q) : ∀ (d k q : Nat) (m : Int) (a b c : List Int), q + d = n → d + 140 < k → -1200000000 ≤ m → m ≤ 10000000 * (q : Int) → a.length = q → b.length = q → c.length = q →
    impl_CoarseModel.l1 k m L (n : Int) (q : Int) x y z a b c = some (coF x y z G d (q : Int) (m + remS (fun q => sM (G q)) (q : Int) d) a b c) := by
  intro d
  induction d with
  | zero =>
    intro k q m a b c hq hk g0 g1 la lb lc
    obtain ⟨k, rfl⟩ := k_succ (by omega : 0 < k)
    rw [impl_CoarseModel.l1, if_neg (by omega)]
    unfold remS coF
    rw [Int.add_zero]
  | succ d ih =>
    intro k q m a b c hq hk g0 g1 la lb lc
    obtain ⟨k, rfl⟩ := k_succ (by omega : 0 < k)
    have hg := hG (q : Int)
    rw [impl_CoarseModel.l1, if_pos (by omega), if_pos (by omega), if_pos (by omega), hLG _ (by omega) (by omega), impl_joinPieces_v, (sj_v hg).2 k (by omega), Option.map_some, Option.bind_some]
    unfold coF joinFin
    by_cases hT : sT (G (q : Int)) > 10000
    · rw [if_pos hT, if_pos hT, if_neg (by decide)]
    · have e := join_piece hg hT
      have hb := join_bd hg hT
      have hb1 := hb.1.1; have hb2 := hb.1.2; have hb3 := hb.2.1; have hb4 := hb.2.2
      have hw : wrap64 (m + wrap64 (sT (G (q : Int)) * roundV (sT (G (q : Int))) (sM (G (q : Int))))) = m + sT (G (q : Int)) * roundV (sT (G (q : Int))) (sM (G (q : Int))) := by
        rw [w64 (x := sT (G (q : Int)) * roundV (sT (G (q : Int))) (sM (G (q : Int)))) (by omega) (by omega), w64 (by omega) (by omega)]
      rw [if_neg hT, if_neg hT, if_pos rfl, if_pos (by omega), impl_roundedGrade_v e, Option.bind_some, if_pos (by omega), if_pos (by omega), Option.bind_some, w64_succ (by omega), hw, ih k (q + 1) _ _ _ _ (by omega) (by omega) (by omega) (by omega) (by simp; omega) (by simp; omega) (by simp; omega)]
      have eg : m + remS (fun q => sM (G q)) (q : Int) (d + 1) + (sT (G (q : Int)) * roundV (sT (G (q : Int))) (sM (G (q : Int))) - sM (G (q : Int))) = m + sT (G (q : Int)) * roundV (sT (G (q : Int))) (sM (G (q : Int))) + remS (fun q => sM (G q)) ((q : Int) + 1) d := by
        show m + (sM (G (q : Int)) + remS (fun q => sM (G q)) ((q : Int) + 1) d) + _ = _
        omega
      rw [eg, show ((q + 1 : Nat) : Int) = (q : Int) + 1 by omega]
theorem impl_CoarseModel_v (X Y Z : Int) (t g r : List Int) {k : Nat} (hk : 16000 < k) : impl_CoarseModel.f k X Y Z t g r = some (coarseR X Y Z t g r) := by
  unfold impl_CoarseModel.f coarseR
  rw [impl_IsModel_v X Y Z t g r (by omega)]
  cases hB : modelB X Y Z t g r with
  | false => simp
  | true =>
    have h := modelB_t hB
    have hle := h.le
    obtain ⟨n, hn, hn'⟩ := coarse_cnt h
    rw [Option.bind_some, if_pos rfl, if_pos rfl, impl_coarseGrid_v h.grid, Option.bind_some, impl_blocksOf_v (coarse_grid h.grid), Option.bind_some, hn, show ((n : Int)).toNat = n by omega, if_pos (by omega), if_pos (by omega)]
    obtain ⟨L', e1, e2, e3, e4, e5⟩ := impl_Coarse_l0 h ((X + 1) / 2) ((Y + 1) / 2) Z n hn' hn t.length k 0 (List.replicate n []) 0 (by omega) (by omega) (by simp) (fun q h0 h1 => by
      unfold rd_L2
      rw [List.getD_eq_getElem?_getD, List.getElem?_replicate, if_pos (by omega)]
      rfl) (by omega) (by omega)
    have hp := part X Y t g r n t.length 0 (fun j h1 h2 => by
      have := coarseV_bd (hasB_of h.grid (by omega : 0 ≤ (j : Int)) (by have := h.lt; omega))
      rw [hn] at this; exact this)
    have e6 := impl_Coarse_l1 ((X + 1) / 2) ((Y + 1) / 2) Z (grp X Y t g r) (grp_ok h) L' n hn' e1 e2 n (k - t.length - 1) 0 (0 - totM t g 0 t.length) [] [] [] (by omega) (by omega) e3 (by omega) rfl rfl rfl
    have hp' : remS (fun q => sM (grp X Y t g r q)) ((0 : Nat) : Int) n = totM t g 0 t.length := hp
    rw [hp', show 0 - totM t g 0 t.length + totM t g 0 t.length = 0 by omega] at e6
    exact e5.trans e6
theorem pure_FnExactCoarseModel (X Y Z : Int) (t g r : List Int) (w0 : (Lit.int .i64 X).wf = true) (w1 : (Lit.int .i64 Y).wf = true) (w2 : (Lit.int .i64 Z).wf = true) (hm3 : t.length ≤ maxLen) (hw3 : ∀ x ∈ t, (Lit.int .i64 x).wf = true) (hm4 : g.length ≤ maxLen) (hw4 : ∀ x ∈ g, (Lit.int .i64 x).wf = true) (hm5 : r.length ≤ maxLen) (hw5 : ∀ x ∈ r, (Lit.int .i64 x).wf = true) : ∃ k, laws_FnExactCoarseModel.f k X Y Z t g r = some true := by
  obtain ⟨K, hK⟩ : ∃ K : Nat, 1048579 < K := ⟨_, Nat.lt_succ_self _⟩
  refine ⟨K + 6, ?_⟩
  unfold laws_FnExactCoarseModel.f
  rcases laws_szModel_v X Y Z t g r hm3 hm4 hm5 with ⟨s, hs, h⟩ | ⟨s, hs, h, l3, l4, l5⟩
  · rw [hs, Option.bind_some, if_pos h]
  · rw [hs, Option.bind_some, if_neg h]
    obtain ⟨X', Y', Z', t', g', r', q, o, e, e3, e4, e5⟩ : ∃ X' Y' Z' t' g' r' q o, coarseR X Y Z t g r = (X', Y', Z', t', g', r', q, o) ∧ t'.length ≤ 1048576 ∧ g'.length ≤ 1048576 ∧ r'.length ≤ 1048576 := by
      unfold coarseR
      split
      · rename_i hB
        obtain ⟨n, hn, hn'⟩ := coarse_cnt (modelB_t hB)
        obtain ⟨X', Y', Z', t', g', r', q, o, e, g1, g2, g3⟩ := coF_is ((X + 1) / 2) ((Y + 1) / 2) Z (grp X Y t g r) ((X + 1) / 2 * ((Y + 1) / 2) * Z).toNat 0 0 [] [] [] 0 (by simp) (by simp) (by simp)
        exact ⟨X', Y', Z', t', g', r', q, o, e, by omega, by omega, by omega⟩
      · exact ⟨_, _, _, _, _, _, _, _, rfl, by simp, by simp, by simp⟩
    simp (disch := omega) only [laws_toModel_v, Option.bind_some, spec_CoarseModel_v, impl_CoarseModel_v, e, laws_eqModel_v, if_true]
    rw [laws_FnExactCoarseModel.j0]
    simp (disch := omega) only [bne_self_eq_false, Bool.false_eq_true, if_false, laws_toModel_v, Option.bind_some, laws_eqModel_v, decide_true, if_true, laws_markModel_v]
    rw [if_neg (by omega), laws_FnExactCoarseModel.j1]
    simp (disch := omega) only [laws_markModel_v, laws_heldModel_v, Option.bind_some, bne_self_eq_false, Bool.false_eq_true, if_false, if_true, laws_toModel_v, impl_CoarseModel_v, e, laws_eqModel_v]
    rw [if_neg (by omega), laws_FnExactCoarseModel.j2]
    simp (disch := omega) only [laws_heldModel_v, Option.bind_some, bne_self_eq_false, Bool.false_eq_true, if_false, if_true]
    rw [if_neg (by omega)]
theorem W0 : wrap64 (0 + 1) = 1 := w64 (by decide) (by decide)
theorem W1 : wrap64 (1 + 1) = 2 := w64 (by decide) (by decide)
theorem W2 : wrap64 (2 + 1) = 3 := w64 (by decide) (by decide)
theorem W3 : wrap64 (3 + 1) = 4 := w64 (by decide) (by decide)

end Go.Proofs.Ytceajigggcihnaa.Pure
