/- What the printed Lean functions behind FnExactLevelSums come to, and from that the pure statement of FnExactLevelSums: it answers true. No condition beyond those that the given statement itself has. -/
import Derived.Test.YtdfjlelbkkaloaaPFnExactLevelSumsx6
import Derived.Lib.SmallJoins
namespace Go.Proofs.Ytdfjlelbkkaloaa.Pure
open Go.RowKit Go.Proofs.Ytdfjlelbkkaloaa.PFnExactLevelSums Go.Proofs.YtdfjlelbkkaloaaW.PrintWords Go.Proofs.YtdfjlelbkkaloaaW.PrintLast Go.Proofs.YtdfjlelbkkaloaaW.PrintMore
set_option linter.unusedVariables false
set_option linter.unusedSimpArgs false

theorem w64 {x : Int} (h1 : -9223372036854775808 ≤ x) (h2 : x ≤ 9223372036854775807) : wrap64 x = x := by unfold wrap64; omega
theorem wf_i64 {x : Int} (h : (Lit.int .i64 x).wf = true) : -9223372036854775808 ≤ x ∧ x ≤ 9223372036854775807 := Go.Joins.in64_of_wf h
theorem mul_bd {a b A B : Int} (ha : 0 ≤ a) (hA : a ≤ A) (hb : 0 ≤ b) (hB : b ≤ B) : 0 ≤ a * b ∧ a * b ≤ A * B :=
  ⟨Int.mul_nonneg ha hb, Int.mul_le_mul hA hB hb (by omega)⟩
theorem rd_nat (l : List Int) (i : Nat) : rd l (i : Int) = l.getD i 0 := by simp [rd]
theorem rd_get {l : List Int} {i : Nat} (h : i < l.length) : rd l (i : Int) = l[i] := by rw [rd_nat, List.getD_eq_getElem?_getD, List.getElem?_eq_getElem h]; rfl
theorem rd_set {l : List Int} {i : Nat} {v : Int} (j : Int) (h0 : 0 ≤ j) (hi : i < l.length) : rd (l.set i v) j = if j = (i : Int) then v else rd l j := by
  unfold rd
  rw [List.getD_eq_getElem?_getD, List.getD_eq_getElem?_getD]
  by_cases h : j = (i : Int)
  · rw [if_pos h, show j.toNat = i by omega, List.getElem?_set_self hi]; rfl
  · rw [if_neg h, List.getElem?_set_ne (by omega)]
theorem drop_rd {l : List Int} {i : Nat} (h : i < l.length) : l.drop i = rd l (i : Int) :: l.drop (i + 1) := by
  rw [rd_get h]; exact List.drop_eq_getElem_cons h
theorem w64_succ {i : Nat} (h : i < 9223372036854775807) : wrap64 ((i : Int) + 1) = ((i + 1 : Nat) : Int) := by rw [w64 (by omega) (by omega)]; omega
theorem k_succ {k : Nat} (h : 0 < k) : ∃ m, k = m + 1 := ⟨k - 1, by omega⟩
/-- from some number of rounds on -/
theorem Ev.use {α : Type} {g : Nat → Option α} {r : α} (h : Ev g r) : ∃ K, ∀ k, K ≤ k → g k = some r := h
theorem laws_toIntS_l (l : List Int) (hn : l.length ≤ 1152921504606846976) : ∀ (d k i : Nat) (y : List Int), i + d = l.length → d < k → y.length = l.length → (∀ j, j < i → y[j]? = l[j]?) →
    laws_toIntS.l0 k l y (i : Int) = some l := by
  intro d
  induction d with
  | zero =>
    intro k i y hi hk hy hj
    obtain ⟨k, rfl⟩ := k_succ (by omega : 0 < k)
    simp only [laws_toIntS.l0]
    rw [if_neg (by omega)]
    congr 1
    refine List.ext_getElem? fun j => ?_
    by_cases h : j < i
    · exact hj j h
    · rw [List.getElem?_eq_none (by omega), List.getElem?_eq_none (by omega)]
  | succ d ih =>
    intro k i y hi hk hy hj
    obtain ⟨k, rfl⟩ := k_succ (by omega : 0 < k)
    simp only [laws_toIntS.l0]
    rw [if_pos (by omega), if_pos (by omega), if_pos (by omega), w64_succ (by omega)]
    refine ih k (i + 1) _ (by omega) (by omega) (by simpa using hy) (fun j hj' => ?_)
    rw [show ((i : Int) : Int).toNat = i by omega]
    by_cases h : j = i
    · subst h
      rw [List.getElem?_set_self (by omega), rd_get (by omega), List.getElem?_eq_getElem (by omega)]
    · rw [List.getElem?_set_ne (by omega)]
      exact hj j (by omega)
theorem laws_toIntS_v (l : List Int) (hn : l.length ≤ 35184372088832) {k : Nat} (hk : l.length < k) : laws_toIntS.f k l = some l := by
  unfold laws_toIntS.f
  rw [if_pos (by omega), if_pos (by omega)]
  exact laws_toIntS_l l (by omega) l.length k 0 _ (by omega) hk (by simp) (fun j hj => by omega)
theorem laws_eqIntS_l (l m : List Int) (hn : l.length ≤ 1152921504606846976) (hm : m.length = l.length) : ∀ (d k i : Nat), i + d = l.length → d < k →
    laws_eqIntS.l0 k l m (i : Int) = some (decide (l.drop i = m.drop i)) := by
  intro d
  induction d with
  | zero =>
    intro k i hi hk
    obtain ⟨k, rfl⟩ := k_succ (by omega : 0 < k)
    simp only [laws_eqIntS.l0]
    rw [if_neg (by omega), List.drop_eq_nil_of_le (by omega), List.drop_eq_nil_of_le (by omega)]
    simp
  | succ d ih =>
    intro k i hi hk
    obtain ⟨k, rfl⟩ := k_succ (by omega : 0 < k)
    simp only [laws_eqIntS.l0]
    rw [if_pos (by omega), if_pos (by omega), if_pos (by omega), w64_succ (by omega), drop_rd (by omega : i < l.length), drop_rd (by omega : i < m.length), ih k (i + 1) (by omega) (by omega)]
    by_cases h : rd l (i : Int) = rd m (i : Int)
    · rw [if_pos h]; simp [h]
    · rw [if_neg h]; simp [h]
theorem laws_eqIntS_v (l m : List Int) (hn : l.length ≤ 1152921504606846976) {k : Nat} (hk : l.length < k) : laws_eqIntS.f k l m = some (decide (l = m)) := by
  unfold laws_eqIntS.f
  by_cases h : l.length = m.length
  · rw [if_pos (by omega)]
    have := laws_eqIntS_l l m hn h.symm l.length k 0 (by omega) hk
    simpa using this
  · rw [if_neg (by omega)]
    congr 1; symm
    rw [decide_eq_false_iff_not]
    intro e; rw [e] at h; exact h rfl
theorem spec_l1In_v (a lo hi : Int) : spec_l1In.f a lo hi = some (decide (lo ≤ a ∧ a ≤ hi)) := by
  unfold spec_l1In.f
  split
  · congr 1; rw [decide_eq_decide]; omega
  · congr 1; symm; rw [decide_eq_false_iff_not]; omega
theorem spec_l1All_l (lo hi : Int) (l : List Int) (hn : l.length ≤ 1152921504606846976) : ∀ (d k i : Nat), i + d = l.length → d < k →
    spec_l1All.l0 k lo hi l (l.length : Int) (i : Int) = some ((l.drop i).all fun x => decide (lo ≤ x ∧ x ≤ hi)) := by
  intro d
  induction d with
  | zero =>
    intro k i hi' hk
    obtain ⟨k, rfl⟩ := k_succ (by omega : 0 < k)
    simp only [spec_l1All.l0]
    rw [if_neg (by omega), List.drop_eq_nil_of_le (by omega)]
    rfl
  | succ d ih =>
    intro k i hi' hk
    obtain ⟨k, rfl⟩ := k_succ (by omega : 0 < k)
    simp only [spec_l1All.l0]
    rw [if_pos (by omega), if_pos (by omega), if_pos (by omega), w64_succ (by omega), drop_rd (by omega : i < l.length), ih k (i + 1) (by omega) (by omega), spec_l1In_v, List.all_cons]
    simp only [Option.bind_some, decide_eq_true_eq]
    by_cases h : lo ≤ rd l (i : Int) ∧ rd l (i : Int) ≤ hi
    · rw [if_pos h, decide_eq_true h, Bool.true_and]
    · rw [if_neg h, decide_eq_false h, Bool.false_and]
theorem spec_l1All_v (lo hi : Int) (l : List Int) (hn : l.length ≤ 1152921504606846976) {k : Nat} (hk : l.length < k) : spec_l1All.f k l lo hi = some (l.all fun x => decide (lo ≤ x ∧ x ≤ hi)) := by
  unfold spec_l1All.f
  simpa using spec_l1All_l lo hi l hn l.length k 0 (by omega) hk
def gridB (X Y Z : Int) : Bool := decide (1 ≤ X ∧ X ≤ 8 ∧ 1 ≤ Y ∧ Y ≤ 6 ∧ 1 ≤ Z ∧ Z ≤ 5 ∧ X * Y * Z ≤ 120)
theorem gridB_t {X Y Z : Int} (h : gridB X Y Z = true) : 1 ≤ X ∧ X ≤ 8 ∧ 1 ≤ Y ∧ Y ≤ 6 ∧ 1 ≤ Z ∧ Z ≤ 5 ∧ X * Y * Z ≤ 120 := of_decide_eq_true h
theorem wrapXYZ {X Y Z : Int} (h1 : 1 ≤ X) (h2 : X ≤ 8) (h3 : 1 ≤ Y) (h4 : Y ≤ 6) (h5 : 1 ≤ Z) (h6 : Z ≤ 5) : wrap64 (wrap64 (X * Y) * Z) = X * Y * Z := by
  have a := mul_bd (by omega : 0 ≤ X) h2 (by omega : 0 ≤ Y) h4
  have b := mul_bd a.1 a.2 (by omega : 0 ≤ Z) h6
  rw [w64 (by omega) (by omega) (x := X * Y), w64 (by omega) (by omega)]
theorem grid_pos {X Y Z : Int} (h : gridB X Y Z = true) : 1 ≤ X * Y * Z ∧ X * Y * Z ≤ 120 := by
  obtain ⟨h1, h2, h3, h4, h5, h6, h7⟩ := gridB_t h
  have a : 0 < X * Y := Int.mul_pos (by omega) (by omega)
  have b : 0 < X * Y * Z := Int.mul_pos a (by omega)
  omega
theorem impl_IsGrid_v (X Y Z : Int) : impl_IsGrid.f X Y Z = some (gridB X Y Z) := by
  unfold impl_IsGrid.f gridB
  repeat' split
  all_goals first
    | (rw [wrapXYZ (by omega) (by omega) (by omega) (by omega) (by omega) (by omega)]; congr 1; rw [decide_eq_decide]; omega)
    | (congr 1; symm; rw [decide_eq_false_iff_not]; omega)
theorem spec_grGood_v (X Y Z : Int) : spec_grGood.f X Y Z = some (gridB X Y Z) := by
  unfold spec_grGood.f gridB
  simp only [spec_l1In_v, Option.bind_some, decide_eq_true_eq]
  repeat' split
  all_goals first
    | (rw [wrapXYZ (by omega) (by omega) (by omega) (by omega) (by omega) (by omega)]; congr 1; rw [decide_eq_decide]; omega)
    | (congr 1; symm; rw [decide_eq_false_iff_not]; omega)
theorem spec_grCount_v {X Y Z : Int} (h : gridB X Y Z = true) : spec_grCount.f X Y Z = some (X * Y * Z) := by
  obtain ⟨h1, h2, h3, h4, h5, h6, h7⟩ := gridB_t h
  simp only [spec_grCount.f, wrapXYZ h1 h2 h3 h4 h5 h6]
theorem impl_blocksOf_v {X Y Z : Int} (h : gridB X Y Z = true) : impl_blocksOf.f X Y Z = some (X * Y * Z) := by
  obtain ⟨h1, h2, h3, h4, h5, h6, h7⟩ := gridB_t h
  simp only [impl_blocksOf.f, wrapXYZ h1 h2 h3 h4 h5 h6]
def hasB (X Y Z i : Int) : Bool := gridB X Y Z && decide (0 ≤ i ∧ i < X * Y * Z)
theorem hasB_t {X Y Z i : Int} (h : hasB X Y Z i = true) : gridB X Y Z = true ∧ 0 ≤ i ∧ i < X * Y * Z := by
  unfold hasB at h; rw [Bool.and_eq_true, decide_eq_true_eq] at h; exact h
theorem at_w {X Y x y z : Int} (hX : 0 ≤ X) (hX' : X ≤ 8) (hY : 0 ≤ Y) (hY' : Y ≤ 6) (hx : 0 ≤ x) (hx' : x ≤ 8) (hy : 0 ≤ y) (hy' : y ≤ 6) (hz : 0 ≤ z) (hz' : z ≤ 5) :
    wrap64 (wrap64 (wrap64 (wrap64 (z * Y) + y) * X) + x) = (z * Y + y) * X + x ∧ 0 ≤ (z * Y + y) * X + x := by
  have a := mul_bd hz hz' hY hY'
  have b := mul_bd (by omega : 0 ≤ z * Y + y) (by omega : z * Y + y ≤ 36) hX hX'
  rw [w64 (by omega) (by omega) (x := z * Y), w64 (by omega) (by omega) (x := z * Y + y), w64 (by omega) (by omega) (x := (z * Y + y) * X), w64 (by omega) (by omega)]
  exact ⟨rfl, by omega⟩
def inB (X Y Z x y z : Int) : Bool := decide (0 ≤ x ∧ x < X ∧ 0 ≤ y ∧ y < Y ∧ 0 ≤ z ∧ z < Z)
theorem tdiv_nn {a b : Int} (h : 0 ≤ a) : Int.tdiv a b = a / b := Int.tdiv_eq_ediv_of_nonneg h
theorem tmod_nn {a b : Int} (h : 0 ≤ a) : Int.tmod a b = a % b := Int.tmod_eq_emod_of_nonneg h
theorem place_bd {X Y Z i : Int} (h : hasB X Y Z i = true) : (0 ≤ i % X ∧ i % X < X) ∧ (0 ≤ i / X % Y ∧ i / X % Y < Y) ∧ (0 ≤ i / X / Y ∧ i / X / Y < Z) ∧ 0 ≤ i / X ∧ i / X ≤ i := by
  obtain ⟨hg, hi, hi'⟩ := hasB_t h
  obtain ⟨h1, h2, h3, h4, h5, h6, h7⟩ := gridB_t hg
  have a : 0 ≤ i / X := Int.ediv_nonneg hi (by omega)
  refine ⟨⟨Int.emod_nonneg _ (by omega), Int.emod_lt_of_pos _ (by omega)⟩, ⟨Int.emod_nonneg _ (by omega), Int.emod_lt_of_pos _ (by omega)⟩, ⟨Int.ediv_nonneg a (by omega), ?_⟩, a, Int.ediv_le_self _ hi⟩
  rw [Int.ediv_ediv_of_nonneg (by omega)]
  refine Int.ediv_lt_of_lt_mul (Int.mul_pos (by omega) (by omega)) ?_
  rw [Int.mul_comm Z]
  exact hi'
def coarseV (X Y i : Int) : Int := (i / X / Y * ((Y + 1) / 2) + i / X % Y / 2) * ((X + 1) / 2) + i % X / 2
def absI (n : Int) : Int := if n < 0 then -n else n
theorem absI_sub (a b : Int) : absI (a - b) = absI (b - a) := by unfold absI; repeat' split <;> omega
theorem absI_bd {a : Int} {B : Int} (h : -B ≤ a) (h' : a ≤ B) : 0 ≤ absI a ∧ absI a ≤ B := by unfold absI; split <;> omega
def levelV (X Y z : Int) : List Int := (List.range (X * Y).toNat).map fun n : Nat => z * X * Y + (n : Int)
theorem levelV_len (X Y z : Int) : (levelV X Y z).length = (X * Y).toNat := by simp [levelV]
theorem levelV_take (X Y z : Int) {i : Nat} (h : (i : Int) < X * Y) : (levelV X Y z).take (i + 1) = (levelV X Y z).take i ++ [z * X * Y + (i : Int)] := by
  rw [List.take_succ_eq_append_getElem (by rw [levelV_len]; omega)]
  simp [levelV]
theorem lev_w {X Y Z z : Int} (h : gridB X Y Z = true) (hz : 0 ≤ z) (hz' : z < Z) : wrap64 (wrap64 (z * X) * Y) = z * X * Y ∧ 0 ≤ z * X * Y ∧ z * X * Y ≤ 240 ∧ wrap64 (X * Y) = X * Y ∧ 1 ≤ X * Y ∧ X * Y ≤ 48 := by
  obtain ⟨h1, h2, h3, h4, h5, h6, h7⟩ := gridB_t h
  have a := mul_bd (by omega : 0 ≤ X) h2 (by omega : 0 ≤ Y) h4
  have b := mul_bd hz (by omega : z ≤ 5) (by omega : 0 ≤ X) h2
  have c := mul_bd b.1 b.2 (by omega : 0 ≤ Y) h4
  have d : 0 < X * Y := Int.mul_pos (by omega) (by omega)
  refine ⟨?_, c.1, by omega, w64 (by omega) (by omega), by omega, by omega⟩
  rw [w64 (by omega) (by omega) (x := z * X), w64 (by omega) (by omega)]
def levelR (X Y Z z : Int) : List Int × Bool := if gridB X Y Z = true ∧ 0 ≤ z ∧ z < Z then (levelV X Y z, true) else ([], false)
theorem levelR_len (X Y Z z : Int) : (levelR X Y Z z).1.length ≤ 48 := by
  unfold levelR
  split
  · rename_i h
    have := (lev_w h.1 h.2.1 h.2.2).2.2.2.2.2
    show (levelV X Y z).length ≤ 48
    rw [levelV_len]; omega
  · simp
theorem impl_LevelBlocks_l {X Y Z z : Int} (h : gridB X Y Z = true) (hz : 0 ≤ z) (hz' : z < Z) : ∀ (d k i : Nat), (i : Int) + d = X * Y → d < k →
    impl_LevelBlocks.l0 k z ((levelV X Y z).take i) (z * X * Y + (i : Int)) X Y Z = some (levelV X Y z, true) := by
  have hw := lev_w h hz hz'
  have e : wrap64 (wrap64 (wrap64 (z + 1) * X) * Y) = z * X * Y + X * Y := by
    obtain ⟨h1, h2, h3, h4, h5, h6, h7⟩ := gridB_t h
    have b := mul_bd (by omega : 0 ≤ z + 1) (by omega : z + 1 ≤ 5) (by omega : 0 ≤ X) h2
    have c := mul_bd b.1 b.2 (by omega : 0 ≤ Y) h4
    rw [w64 (by omega) (by omega) (x := z + 1), w64 (by omega) (by omega) (x := (z + 1) * X), w64 (by omega) (by omega), Int.add_mul, Int.add_mul, Int.one_mul]
  intro d
  induction d with
  | zero =>
    intro k i hi hk
    obtain ⟨k, rfl⟩ := k_succ (by omega : 0 < k)
    simp only [impl_LevelBlocks.l0, e]
    rw [if_neg (by omega), List.take_of_length_le (by rw [levelV_len]; omega)]
  | succ d ih =>
    intro k i hi hk
    obtain ⟨k, rfl⟩ := k_succ (by omega : 0 < k)
    simp only [impl_LevelBlocks.l0, e]
    rw [if_pos (by omega), if_pos (by rw [List.length_take]; omega), w64 (by omega) (by omega), ← levelV_take X Y z (by omega), show z * X * Y + (i : Int) + 1 = z * X * Y + ((i + 1 : Nat) : Int) by omega]
    exact ih k (i + 1) (by omega) (by omega)
theorem impl_LevelBlocks_v (X Y Z z : Int) {k : Nat} (hk : 60 < k) : impl_LevelBlocks.f k X Y Z z = some (levelR X Y Z z) := by
  obtain ⟨k, rfl⟩ := k_succ (by omega : 0 < k)
  unfold impl_LevelBlocks.f levelR
  rw [impl_IsGrid_v]
  simp only [Option.bind_some, impl_LevelBlocks.j0]
  cases h : gridB X Y Z with
  | false => simp
  | true =>
    by_cases hz : 0 ≤ z ∧ z < Z
    · have hw := lev_w h hz.1 hz.2
      rw [if_pos rfl, if_neg (by omega), if_neg (by simp; omega), if_pos ⟨rfl, hz⟩, hw.1]
      have := impl_LevelBlocks_l h hz.1 hz.2 (X * Y).toNat k 0 (by omega) (by omega)
      simpa using this
    · rw [if_pos rfl, if_neg (show ¬ (true = true ∧ 0 ≤ z ∧ z < Z) by simp [hz])]
      split
      · rw [if_pos (by simp)]
      · rw [if_pos (by simp; omega)]
theorem spec_LevelBlocks_l {X Y Z z : Int} (h : gridB X Y Z = true) (hz : 0 ≤ z) (hz' : z < Z) : ∀ (d k i : Nat), (i : Int) + d = X * Y → d < k →
    spec_LevelBlocks.l0 k z ((levelV X Y z).take i) (i : Int) X Y Z = some (levelV X Y z, true) := by
  have hw := lev_w h hz hz'
  intro d
  induction d with
  | zero =>
    intro k i hi hk
    obtain ⟨k, rfl⟩ := k_succ (by omega : 0 < k)
    simp only [spec_LevelBlocks.l0, hw.2.2.2.1]
    rw [if_neg (by omega), List.take_of_length_le (by rw [levelV_len]; omega)]
  | succ d ih =>
    intro k i hi hk
    obtain ⟨k, rfl⟩ := k_succ (by omega : 0 < k)
    simp only [spec_LevelBlocks.l0, hw.2.2.2.1, hw.1]
    rw [if_pos (by omega), if_pos (by rw [List.length_take]; omega), w64 (by omega) (by omega), ← levelV_take X Y z (by omega), w64_succ (by omega)]
    exact ih k (i + 1) (by omega) (by omega)
theorem spec_LevelBlocks_v (X Y Z z : Int) {k : Nat} (hk : 60 < k) : spec_LevelBlocks.f k X Y Z z = some (levelR X Y Z z) := by
  obtain ⟨k, rfl⟩ := k_succ (by omega : 0 < k)
  unfold spec_LevelBlocks.f levelR
  rw [spec_grGood_v]
  simp only [Option.bind_some, spec_l1In_v, spec_LevelBlocks.j0]
  cases h : gridB X Y Z with
  | false => simp
  | true =>
    obtain ⟨h1, h2, h3, h4, h5, h6, h7⟩ := gridB_t h
    rw [w64 (by omega) (by omega)]
    by_cases hz : 0 ≤ z ∧ z < Z
    · have hw := lev_w h hz.1 hz.2
      rw [if_pos rfl, if_neg (by simp; omega), if_pos ⟨rfl, hz⟩]
      have := spec_LevelBlocks_l h hz.1 hz.2 (X * Y).toNat k 0 (by omega) (by omega)
      simpa using this
    · rw [if_pos rfl, if_neg (show ¬ (true = true ∧ 0 ≤ z ∧ z < Z) by simp [hz]), if_pos (by simp; omega)]
def stepsV (X Y i k : Int) : Int := absI (i % X - k % X) + absI (i / X % Y - k / X % Y) + absI (i / X / Y - k / X / Y)
theorem stepsV_comm (X Y i k : Int) : stepsV X Y i k = stepsV X Y k i := by
  unfold stepsV
  rw [absI_sub (i % X), absI_sub (i / X % Y), absI_sub (i / X / Y)]
theorem steps_bd {X Y Z i k : Int} (h : hasB X Y Z i = true) (h' : hasB X Y Z k = true) : (0 ≤ absI (i % X - k % X) ∧ absI (i % X - k % X) ≤ 8) ∧ (0 ≤ absI (i / X % Y - k / X % Y) ∧ absI (i / X % Y - k / X % Y) ≤ 8) ∧ (0 ≤ absI (i / X / Y - k / X / Y) ∧ absI (i / X / Y - k / X / Y) ≤ 8) := by
  obtain ⟨h1, h2, h3, h4, h5, h6, h7⟩ := gridB_t (hasB_t h).1
  have a := place_bd h
  have b := place_bd h'
  exact ⟨absI_bd (by omega) (by omega), absI_bd (by omega) (by omega), absI_bd (by omega) (by omega)⟩
def filtN (p : Int → Bool) : Nat → Nat → List Int
  | _, 0 => []
  | i, d + 1 => if p (i : Int) = true then (i : Int) :: filtN p (i + 1) d else filtN p (i + 1) d
theorem filtN_pos {p : Int → Bool} {i d : Nat} (h : p (i : Int) = true) : filtN p i (d + 1) = (i : Int) :: filtN p (i + 1) d := by rw [filtN, if_pos h]
theorem filtN_neg {p : Int → Bool} {i d : Nat} (h : ¬ p (i : Int) = true) : filtN p i (d + 1) = filtN p (i + 1) d := by rw [filtN, if_neg h]
theorem filtN_len (p : Int → Bool) : ∀ (d i : Nat), (filtN p i d).length ≤ d
  | 0, i => by simp [filtN]
  | d + 1, i => by
    have := filtN_len p d (i + 1)
    unfold filtN
    split <;> simp <;> omega
theorem filtN_mem (p : Int → Bool) : ∀ (d i : Nat) (x : Int), x ∈ filtN p i d ↔ (i : Int) ≤ x ∧ x < ((i + d : Nat) : Int) ∧ p x = true
  | 0, i, x => by simp [filtN]; omega
  | d + 1, i, x => by
    have ih := filtN_mem p d (i + 1) x
    by_cases h : p (i : Int) = true
    · rw [filtN_pos h, List.mem_cons, ih]
      constructor
      · rintro (rfl | ⟨h1, h2, h3⟩)
        · exact ⟨by omega, by omega, h⟩
        · exact ⟨by omega, by omega, h3⟩
      · rintro ⟨h1, h2, h3⟩
        by_cases e : x = (i : Int)
        · exact .inl e
        · exact .inr ⟨by omega, by omega, h3⟩
    · rw [filtN_neg h, ih]
      constructor
      · rintro ⟨h1, h2, h3⟩; exact ⟨by omega, by omega, h3⟩
      · rintro ⟨h1, h2, h3⟩
        refine ⟨?_, by omega, h3⟩
        by_cases e : x = (i : Int)
        · subst e; exact absurd h3 h
        · omega
theorem hasB_of {X Y Z i : Int} (h : gridB X Y Z = true) (h0 : 0 ≤ i) (h1 : i < X * Y * Z) : hasB X Y Z i = true := by
  unfold hasB; rw [h, Bool.true_and]; exact decide_eq_true ⟨h0, h1⟩
def nearB (X Y i r k : Int) : Bool := decide (absI (i % X - k % X) ≤ r ∧ absI (i / X % Y - k / X % Y) ≤ r ∧ absI (i / X / Y - k / X / Y) ≤ r)
def pieceB (T M R : Int) : Bool := decide (0 ≤ T ∧ T ≤ 10000 ∧ 0 ≤ M ∧ M ≤ 1000 * T ∧ 0 ≤ R ∧ R ≤ 4)
theorem pieceB_t {T M R : Int} (h : pieceB T M R = true) : 0 ≤ T ∧ T ≤ 10000 ∧ 0 ≤ M ∧ M ≤ 1000 * T ∧ 0 ≤ R ∧ R ≤ 4 := of_decide_eq_true h
def gcdI (x y : Int) : Int := (Nat.gcd x.toNat y.toNat : Nat)
theorem gcdI_step {x y : Int} (hx : 0 ≤ x) (hy : 0 ≤ y) : gcdI y (x % y) = gcdI x y := by
  unfold gcdI
  rw [Int.toNat_emod hx hy, Nat.gcd_comm, ← Nat.gcd_rec, Nat.gcd_comm]
theorem gcdI_zero {x : Int} (hx : 0 ≤ x) : gcdI x 0 = x := by
  unfold gcdI
  simp; omega
def modelB (X Y Z : Int) (t g r : List Int) : Bool := gridB X Y Z && decide ((t.length : Int) = X * Y * Z ∧ (g.length : Int) = X * Y * Z ∧ (r.length : Int) = X * Y * Z) && ((t.all fun x => decide (0 ≤ x ∧ x ≤ 10000)) && ((g.all fun x => decide (0 ≤ x ∧ x ≤ 1000)) && (r.all fun x => decide (0 ≤ x ∧ x ≤ 4))))
structure IsMod (X Y Z : Int) (t g r : List Int) : Prop where
  grid : gridB X Y Z = true
  lt : (t.length : Int) = X * Y * Z
  lg : g.length = t.length
  lr : r.length = t.length
  ht : ∀ x ∈ t, 0 ≤ x ∧ x ≤ 10000
  hg : ∀ x ∈ g, 0 ≤ x ∧ x ≤ 1000
  hr : ∀ x ∈ r, 0 ≤ x ∧ x ≤ 4
  pos : 1 ≤ t.length
  le : t.length ≤ 120
theorem modelB_iff {X Y Z : Int} {t g r : List Int} : modelB X Y Z t g r = true ↔ IsMod X Y Z t g r := by
  unfold modelB
  simp only [Bool.and_eq_true, decide_eq_true_eq, List.all_eq_true]
  constructor
  · rintro ⟨⟨h1, h2, h3, h4⟩, h5, h6, h7⟩
    have := grid_pos h1
    exact ⟨h1, h2, by omega, by omega, h5, h6, h7, by omega, by omega⟩
  · intro h
    have h1 := h.lt; have h2 := h.lg; have h3 := h.lr
    exact ⟨⟨h.grid, h1, by omega, by omega⟩, h.ht, h.hg, h.hr⟩
theorem modelB_t {X Y Z : Int} {t g r : List Int} (h : modelB X Y Z t g r = true) : IsMod X Y Z t g r := modelB_iff.1 h
theorem modelB_f {X Y Z : Int} {t g r : List Int} (h : ¬ modelB X Y Z t g r = true) : modelB X Y Z t g r = false := by simpa using h
theorem rd_mem {l : List Int} {i : Int} (h0 : 0 ≤ i) (h : i < (l.length : Int)) : rd l i ∈ l := by
  unfold rd
  rw [List.getD_eq_getElem?_getD, List.getElem?_eq_getElem (by omega)]
  exact List.getElem_mem _
theorem rd_of_getElem? {l : List Int} {i : Nat} {x : Int} (h : l[i]? = some x) : rd l (i : Int) = x := by
  rw [rd_nat, List.getD_eq_getElem?_getD, h]; rfl
theorem IsMod.rt {X Y Z : Int} {t g r : List Int} (h : IsMod X Y Z t g r) {i : Int} (h0 : 0 ≤ i) (h1 : i < (t.length : Int)) : 0 ≤ rd t i ∧ rd t i ≤ 10000 := h.ht _ (rd_mem h0 h1)
theorem IsMod.rg {X Y Z : Int} {t g r : List Int} (h : IsMod X Y Z t g r) {i : Int} (h0 : 0 ≤ i) (h1 : i < (t.length : Int)) : 0 ≤ rd g i ∧ rd g i ≤ 1000 := h.hg _ (rd_mem h0 (by have := h.lg; omega))
theorem IsMod.rr {X Y Z : Int} {t g r : List Int} (h : IsMod X Y Z t g r) {i : Int} (h0 : 0 ≤ i) (h1 : i < (t.length : Int)) : 0 ≤ rd r i ∧ rd r i ≤ 4 := h.hr _ (rd_mem h0 (by have := h.lr; omega))
theorem IsMod.rm {X Y Z : Int} {t g r : List Int} (h : IsMod X Y Z t g r) {i : Int} (h0 : 0 ≤ i) (h1 : i < (t.length : Int)) : 0 ≤ rd t i * rd g i ∧ rd t i * rd g i ≤ 10000000 :=
  mul_bd (h.rt h0 h1).1 (h.rt h0 h1).2 (h.rg h0 h1).1 (h.rg h0 h1).2
theorem impl_IsModel_l (X Y Z : Int) (t g r : List Int) (hn : t.length ≤ 1152921504606846976) (hg : g.length = t.length) (hr : r.length = t.length) : ∀ (d k i : Nat), i + d = t.length → d < k →
    impl_IsModel.l0 k (t.length : Int) (i : Int) X Y Z t g r = some (((t.drop i).all fun x => decide (0 ≤ x ∧ x ≤ 10000)) && (((g.drop i).all fun x => decide (0 ≤ x ∧ x ≤ 1000)) && ((r.drop i).all fun x => decide (0 ≤ x ∧ x ≤ 4)))) := by
  intro d
  induction d with
  | zero =>
    intro k i hi hk
    obtain ⟨k, rfl⟩ := k_succ (by omega : 0 < k)
    simp only [impl_IsModel.l0]
    rw [if_neg (by omega), List.drop_eq_nil_of_le (by omega), List.drop_eq_nil_of_le (by omega), List.drop_eq_nil_of_le (by omega)]
    rfl
  | succ d ih =>
    intro k i hi hk
    obtain ⟨k, rfl⟩ := k_succ (by omega : 0 < k)
    simp only [impl_IsModel.l0]
    rw [if_pos (by omega), if_pos (by omega), if_pos (by omega), drop_rd (by omega : i < t.length), drop_rd (by omega : i < g.length), drop_rd (by omega : i < r.length), w64_succ (by omega), ih k (i + 1) (by omega) (by omega)]
    simp only [List.all_cons]
    by_cases h1 : 0 ≤ rd t (i : Int) ∧ rd t (i : Int) ≤ 10000
    · rw [if_neg (by omega), if_neg (by omega), if_pos (by omega), decide_eq_true h1]
      by_cases h2 : 0 ≤ rd g (i : Int) ∧ rd g (i : Int) ≤ 1000
      · rw [if_neg (by omega), if_neg (by omega), if_pos (by omega), decide_eq_true h2]
        by_cases h3 : 0 ≤ rd r (i : Int) ∧ rd r (i : Int) ≤ 4
        · rw [if_neg (by omega), if_neg (by omega), decide_eq_true h3]
          simp only [Bool.true_and]
        · rw [decide_eq_false h3]
          simp only [Bool.true_and, Bool.false_and, Bool.and_false]
          split
          · rfl
          · rw [if_pos (by omega)]
      · rw [decide_eq_false h2]
        simp only [Bool.true_and, Bool.false_and, Bool.and_false]
        split
        · rfl
        · rw [if_pos (by omega)]
    · rw [decide_eq_false h1]
      simp only [Bool.false_and]
      split
      · rfl
      · rw [if_pos (by omega)]
theorem impl_IsModel_v (X Y Z : Int) (t g r : List Int) {k : Nat} (hk : 122 < k) : impl_IsModel.f k X Y Z t g r = some (modelB X Y Z t g r) := by
  obtain ⟨k, rfl⟩ := k_succ (by omega : 0 < k)
  unfold impl_IsModel.f modelB
  rw [impl_IsGrid_v]
  cases h : gridB X Y Z with
  | false => simp
  | true =>
    have := grid_pos h
    simp only [Option.bind_some, if_true, impl_blocksOf_v h, Bool.true_and, impl_IsModel.j0]
    by_cases h1 : (t.length : Int) = X * Y * Z
    · rw [if_pos h1]
      by_cases h2 : (g.length : Int) = X * Y * Z
      · rw [if_pos h2]
        by_cases h3 : (r.length : Int) = X * Y * Z
        · rw [if_neg (by simp [h3]), decide_eq_true (by omega), Bool.true_and, ← h1]
          have := impl_IsModel_l X Y Z t g r (by omega) (by omega) (by omega) t.length k 0 (by omega) (by omega)
          simpa using this
        · rw [if_pos (by simp [h3]), decide_eq_false (by omega), Bool.false_and]
      · rw [if_neg h2, decide_eq_false (by omega), Bool.false_and]
    · rw [if_neg h1, decide_eq_false (by omega), Bool.false_and]
theorem spec_moGood_v (X Y Z : Int) (t g r : List Int) {k : Nat} (hk : 122 < k) : spec_moGood.f k X Y Z t g r = some (modelB X Y Z t g r) := by
  unfold spec_moGood.f modelB
  rw [spec_grGood_v]
  cases h : gridB X Y Z with
  | false => simp
  | true =>
    have := grid_pos h
    simp only [Option.bind_some, if_true, spec_grCount_v h, Bool.true_and]
    by_cases h1 : (t.length : Int) = X * Y * Z
    · rw [if_pos h1]
      by_cases h2 : (g.length : Int) = X * Y * Z
      · rw [if_pos h2]
        by_cases h3 : (r.length : Int) = X * Y * Z
        · rw [if_pos h3, decide_eq_true (by omega), Bool.true_and, spec_l1All_v _ _ t (by omega) (by omega), spec_l1All_v _ _ g (by omega) (by omega), spec_l1All_v _ _ r (by omega) (by omega)]
          simp only [Option.bind_some]
          cases (t.all fun x => decide (0 ≤ x ∧ x ≤ 10000)) <;> cases (g.all fun x => decide (0 ≤ x ∧ x ≤ 1000)) <;> simp
        · rw [if_neg h3, decide_eq_false (by omega), Bool.false_and]
      · rw [if_neg h2, decide_eq_false (by omega), Bool.false_and]
    · rw [if_neg h1, decide_eq_false (by omega), Bool.false_and]
theorem laws_szIntS_v (l : List Int) (a : Int) (hm : l.length ≤ maxLen) (h0 : 0 ≤ a) (h1 : a ≤ 1048576) : laws_szIntS.f l a = some (if a < (l.length : Int) then -1 else a - (l.length : Int)) := by
  unfold maxLen at hm
  unfold laws_szIntS.f
  rw [w64 (by omega) (by omega)]
  by_cases h : a < (l.length : Int)
  · rw [if_pos (by omega), if_pos h]
  · rw [if_neg (by omega), if_neg h]
theorem laws_szModel_v (X Y Z : Int) (t g r : List Int) (h3 : t.length ≤ maxLen) (h4 : g.length ≤ maxLen) (h5 : r.length ≤ maxLen) :
    (∃ s, laws_szModel.f X Y Z t g r 1048576 = some s ∧ s < 0) ∨ (∃ s, laws_szModel.f X Y Z t g r 1048576 = some s ∧ ¬ s < 0 ∧ t.length ≤ 1048576 ∧ g.length ≤ 1048576 ∧ r.length ≤ 1048576) := by
  unfold laws_szModel.f
  rw [laws_szIntS_v t _ h3 (by omega) (by omega), Option.bind_some]
  by_cases a : (1048576 : Int) < (t.length : Int)
  · rw [if_pos a]; exact .inl ⟨-1, by simp, by omega⟩
  · rw [if_neg a, if_neg (by omega), laws_szIntS_v g _ h4 (by omega) (by omega), Option.bind_some]
    by_cases b : (1048576 - (t.length : Int)) < (g.length : Int)
    · rw [if_pos b]; exact .inl ⟨-1, by simp, by omega⟩
    · rw [if_neg b, if_neg (by omega), laws_szIntS_v r _ h5 (by omega) (by omega), Option.bind_some]
      by_cases c : (1048576 - (t.length : Int) - (g.length : Int)) < (r.length : Int)
      · rw [if_pos c]; exact .inl ⟨-1, by simp, by omega⟩
      · rw [if_neg c, if_neg (by omega)]; exact .inr ⟨_, rfl, by omega, by omega, by omega, by omega⟩
theorem laws_toModel_v (X Y Z : Int) (t g r : List Int) (h3 : t.length ≤ 1048576) (h4 : g.length ≤ 1048576) (h5 : r.length ≤ 1048576) {k : Nat} (hk : 1048576 < k) : laws_toModel.f k X Y Z t g r = some (X, Y, Z, t, g, r) := by
  unfold laws_toModel.f
  rw [laws_toIntS_v t (by omega) (by omega), laws_toIntS_v g (by omega) (by omega), laws_toIntS_v r (by omega) (by omega)]
  rfl
theorem laws_eqModel_v (X Y Z : Int) (t g r : List Int) (h3 : t.length ≤ 1048576) (h4 : g.length ≤ 1048576) (h5 : r.length ≤ 1048576) {k : Nat} (hk : 1048576 < k) : laws_eqModel.f k X Y Z t g r X Y Z t g r = some true := by
  unfold laws_eqModel.f
  rw [laws_eqIntS_v t t (by omega) (by omega), laws_eqIntS_v g g (by omega) (by omega), laws_eqIntS_v r r (by omega) (by omega)]
  simp [laws_eqGrid.f]
def marks (n : Nat) (a : Int) : List Int := (List.range n).map fun i : Nat => a + (i : Int)
theorem marks_length (n : Nat) (a : Int) : (marks n a).length = n := by simp [marks]
theorem marks_rd {n : Nat} {a : Int} {i : Nat} (h : i < n) : rd (marks n a) (i : Int) = a + (i : Int) := by
  rw [rd_get (by rw [marks_length]; exact h)]; simp [marks]
theorem laws_markIntS_l (n : Nat) (a : Int) (ha : 0 ≤ a) (ha' : a ≤ 1152921504606846976) (hn : n ≤ 1152921504606846976) : ∀ (d k i : Nat) (y : List Int), i + d = n → d < k → y.length = n → (∀ j, j < i → y[j]? = some (a + (j : Int))) →
    laws_markIntS.l0 k y (a + (i : Int)) (i : Int) = some (a + (n : Int), marks n a) := by
  intro d
  induction d with
  | zero =>
    intro k i y hi hk hy hj
    obtain ⟨k, rfl⟩ := k_succ (by omega : 0 < k)
    simp only [laws_markIntS.l0]
    rw [if_neg (by omega)]
    have e : y = marks n a := by
      refine List.ext_getElem? fun j => ?_
      by_cases h : j < n
      · rw [hj j (by omega)]; simp [marks, h]
      · rw [List.getElem?_eq_none (by omega), List.getElem?_eq_none (by rw [marks_length]; omega)]
    rw [e, show i = n by omega]
  | succ d ih =>
    intro k i y hi hk hy hj
    obtain ⟨k, rfl⟩ := k_succ (by omega : 0 < k)
    simp only [laws_markIntS.l0]
    rw [if_pos (by omega), if_pos (by omega), w64_succ (by omega), w64 (by omega) (by omega), show a + (i : Int) + 1 = a + ((i + 1 : Nat) : Int) by omega]
    refine ih k (i + 1) _ (by omega) (by omega) (by simpa using hy) (fun j hj' => ?_)
    rw [show ((i : Int) : Int).toNat = i by omega]
    by_cases h : j = i
    · subst h
      rw [List.getElem?_set_self (by omega)]
    · rw [List.getElem?_set_ne (by omega)]
      exact hj j (by omega)
theorem laws_markIntS_v (l : List Int) (a : Int) (ha : 0 ≤ a) (ha' : a ≤ 1152921504606846976) (hn : l.length ≤ 1048576) {k : Nat} (hk : 1048576 < k) : laws_markIntS.f k l a = some (a + (l.length : Int), marks l.length a) := by
  unfold laws_markIntS.f
  have := laws_markIntS_l l.length a ha ha' (by omega) l.length k 0 l (by omega) (by omega) rfl (fun j hj => by omega)
  simpa using this
theorem laws_heldIntS_l (n : Nat) (a : Int) (ha : 0 ≤ a) (ha' : a ≤ 1152921504606846976) (hn : n ≤ 1152921504606846976) : ∀ (d k i : Nat), i + d = n → d < k →
    laws_heldIntS.l0 k (marks n a) (a + (i : Int)) (i : Int) = some (a + (n : Int)) := by
  intro d
  induction d with
  | zero =>
    intro k i hi hk
    obtain ⟨k, rfl⟩ := k_succ (by omega : 0 < k)
    simp only [laws_heldIntS.l0, marks_length]
    rw [if_neg (by omega), show i = n by omega]
  | succ d ih =>
    intro k i hi hk
    obtain ⟨k, rfl⟩ := k_succ (by omega : 0 < k)
    simp only [laws_heldIntS.l0, marks_length]
    rw [if_pos (by omega), if_pos (by omega), marks_rd (by omega), if_pos rfl, w64_succ (by omega), w64 (by omega) (by omega), show a + (i : Int) + 1 = a + ((i + 1 : Nat) : Int) by omega]
    exact ih k (i + 1) (by omega) (by omega)
theorem laws_heldIntS_v (n : Nat) (a : Int) (ha : 0 ≤ a) (ha' : a ≤ 1152921504606846976) (hn : n ≤ 1048576) {k : Nat} (hk : 1048576 < k) : laws_heldIntS.f k (marks n a) a = some (a + (n : Int)) := by
  unfold laws_heldIntS.f
  have := laws_heldIntS_l n a ha ha' (by omega) n k 0 (by omega) (by omega)
  simpa using this
theorem laws_markModel_v (X Y Z : Int) (t g r : List Int) (h3 : t.length ≤ 1048576) (h4 : g.length ≤ 1048576) (h5 : r.length ≤ 1048576) {k : Nat} (hk : 1048576 < k) :
    laws_markModel.f k X Y Z t g r 1 = some (1 + (t.length : Int) + (g.length : Int) + (r.length : Int), marks t.length 1, marks g.length (1 + (t.length : Int)), marks r.length (1 + (t.length : Int) + (g.length : Int))) := by
  unfold laws_markModel.f
  rw [laws_markIntS_v t 1 (by omega) (by omega) h3 hk, Option.bind_some, laws_markIntS_v g _ (by omega) (by omega) h4 hk, Option.bind_some, laws_markIntS_v r _ (by omega) (by omega) h5 hk]
  rfl
theorem spec_moMetal_v {X Y Z : Int} {t g r : List Int} (h : IsMod X Y Z t g r) {i : Int} (h0 : 0 ≤ i) (h1 : i < (t.length : Int)) : spec_moMetal.f X Y Z t g r i = some (rd t i * rd g i) := by
  have := h.lg; have hb := h.rm h0 h1
  unfold spec_moMetal.f
  rw [if_pos h0, if_pos h1, if_pos (by omega), w64 (by omega) (by omega)]
def risF (n : Int) : Int → List Int → Bool
  | _, [] => true
  | p, x :: xs => decide (0 ≤ x ∧ x < n ∧ p < x) && risF n x xs
def risB (n : Int) (l : List Int) : Bool := risF n (-1) l
theorem risF_cons (n p x : Int) (xs : List Int) : risF n p (x :: xs) = (decide (0 ≤ x ∧ x < n ∧ p < x) && risF n x xs) := rfl
theorem risF_mem {n : Int} : ∀ {p : Int} {l : List Int}, risF n p l = true → ∀ x ∈ l, 0 ≤ x ∧ x < n
  | _, [], _, x, hx => by cases hx
  | p, y :: l, h, x, hx => by
    unfold risF at h
    rw [Bool.and_eq_true, decide_eq_true_eq] at h
    rcases List.mem_cons.1 hx with rfl | hx
    · exact ⟨h.1.1, h.1.2.1⟩
    · exact risF_mem h.2 x hx
theorem risF_len {n : Int} : ∀ {p : Int} {l : List Int}, -1 ≤ p → p < n → risF n p l = true → (l.length : Int) + p < n
  | p, [], h0, h1, _ => by simp; omega
  | p, x :: l, h0, h1, h => by
    unfold risF at h
    rw [Bool.and_eq_true, decide_eq_true_eq] at h
    have := risF_len (by omega) h.1.2.1 h.2
    simp only [List.length_cons]
    omega
theorem risB_mem {n : Int} {l : List Int} (h : risB n l = true) : ∀ x ∈ l, 0 ≤ x ∧ x < n := risF_mem h
theorem risB_len {n : Int} {l : List Int} (hn : 0 ≤ n) (h : risB n l = true) : (l.length : Int) ≤ n := by have := risF_len (by omega) (by omega) h; omega
def sumT (t l : List Int) : Int := (l.map (rd t)).sum
def sumM (t g l : List Int) : Int := (l.map fun i => rd t i * rd g i).sum
theorem sum_bd (f : Int → Int) (B : Int) (hB : 0 ≤ B) : ∀ (l : List Int), (∀ x ∈ l, 0 ≤ f x ∧ f x ≤ B) → 0 ≤ (l.map f).sum ∧ (l.map f).sum ≤ B * (l.length : Int)
  | [], _ => by simp
  | x :: l, h => by
    have h1 := h x (by simp)
    have h2 := sum_bd f B hB l (fun y hy => h y (by simp [hy]))
    simp only [List.map_cons, List.sum_cons, List.length_cons]
    have e : B * ((l.length + 1 : Nat) : Int) = B * (l.length : Int) + B := by
      rw [show ((l.length + 1 : Nat) : Int) = (l.length : Int) + 1 by omega, Int.mul_add, Int.mul_one]
    omega
theorem spec_moSums_l {X Y Z : Int} {t g r : List Int} (h : IsMod X Y Z t g r) (l : List Int) (hl : l.length ≤ 1048576) (hr : ∀ x ∈ l, 0 ≤ x ∧ x < (t.length : Int)) : ∀ (d k i : Nat) (a b : Int), i + d = l.length → d < k → 0 ≤ a → a ≤ 10000 * (i : Int) → 0 ≤ b → b ≤ 10000000 * (i : Int) →
    spec_moSums.l0 k a b l (l.length : Int) (i : Int) X Y Z t g r = some (a + sumT t (l.drop i), b + sumM t g (l.drop i)) := by
  intro d
  induction d with
  | zero =>
    intro k i a b hi hk _ _ _ _
    obtain ⟨k, rfl⟩ := k_succ (by omega : 0 < k)
    simp only [spec_moSums.l0]
    rw [if_neg (by omega), List.drop_eq_nil_of_le (by omega)]
    simp [sumT, sumM]
  | succ d ih =>
    intro k i a b hi hk ha0 ha1 hb0 hb1
    obtain ⟨k, rfl⟩ := k_succ (by omega : 0 < k)
    have hm := hr _ (rd_mem (l := l) (i := (i : Int)) (by omega) (by omega))
    have ht := h.rt hm.1 hm.2
    have hmm := h.rm hm.1 hm.2
    have e : ((i + 1 : Nat) : Int) = (i : Int) + 1 := by omega
    simp only [spec_moSums.l0]
    rw [if_pos (by omega), if_pos (by omega), if_pos (by omega), if_pos hm.1, if_pos hm.2, spec_moMetal_v h hm.1 hm.2, Option.bind_some, w64_succ (by omega), w64 (by omega) (by omega) (x := a + _), w64 (by omega) (by omega) (x := b + _), ih k (i + 1) _ _ (by omega) (by omega) (by omega) (by omega) (by omega) (by omega), drop_rd (by omega : i < l.length)]
    simp only [sumT, sumM, List.map_cons, List.sum_cons, Int.add_assoc]
theorem spec_moSums_v {X Y Z : Int} {t g r : List Int} (h : IsMod X Y Z t g r) (l : List Int) (hl : l.length ≤ 1048576) (hr : ∀ x ∈ l, 0 ≤ x ∧ x < (t.length : Int)) {k : Nat} (hk : 1048576 < k) : spec_moSums.f k X Y Z t g r l = some (sumT t l, sumM t g l) := by
  unfold spec_moSums.f
  have := spec_moSums_l h l hl hr l.length k 0 0 0 (by omega) (by omega) (by omega) (by omega) (by omega) (by omega)
  simpa using this
theorem impl_sumsOf_l {X Y Z : Int} {t g r : List Int} (h : IsMod X Y Z t g r) (l : List Int) (hl : l.length ≤ 1048576) (hr : ∀ x ∈ l, 0 ≤ x ∧ x < (t.length : Int)) : ∀ (d k i : Nat) (a b : Int), i + d = l.length → d < k → 0 ≤ a → a ≤ 10000 * (i : Int) → 0 ≤ b → b ≤ 10000000 * (i : Int) →
    impl_sumsOf.l0 k a b l (l.length : Int) (i : Int) X Y Z t g r = some (a + sumT t (l.drop i), b + sumM t g (l.drop i)) := by
  intro d
  induction d with
  | zero =>
    intro k i a b hi hk _ _ _ _
    obtain ⟨k, rfl⟩ := k_succ (by omega : 0 < k)
    simp only [impl_sumsOf.l0]
    rw [if_neg (by omega), List.drop_eq_nil_of_le (by omega)]
    simp [sumT, sumM]
  | succ d ih =>
    intro k i a b hi hk ha0 ha1 hb0 hb1
    obtain ⟨k, rfl⟩ := k_succ (by omega : 0 < k)
    have hm := hr _ (rd_mem (l := l) (i := (i : Int)) (by omega) (by omega))
    have ht := h.rt hm.1 hm.2
    have hmm := h.rm hm.1 hm.2
    have hlg := h.lg
    have e : ((i + 1 : Nat) : Int) = (i : Int) + 1 := by omega
    simp only [impl_sumsOf.l0]
    rw [if_pos (by omega), if_pos (by omega), if_pos (by omega), if_pos hm.1, if_pos hm.2, if_pos (by omega), w64_succ (by omega), w64 (by omega) (by omega) (x := a + _), w64 (by omega) (by omega) (x := rd t _ * _), w64 (by omega) (by omega) (x := b + _), ih k (i + 1) _ _ (by omega) (by omega) (by omega) (by omega) (by omega) (by omega), drop_rd (by omega : i < l.length)]
    simp only [sumT, sumM, List.map_cons, List.sum_cons, Int.add_assoc]
theorem impl_sumsOf_v {X Y Z : Int} {t g r : List Int} (h : IsMod X Y Z t g r) (l : List Int) (hl : l.length ≤ 1048576) (hr : ∀ x ∈ l, 0 ≤ x ∧ x < (t.length : Int)) {k : Nat} (hk : 1048576 < k) : impl_sumsOf.f k X Y Z t g r l = some (sumT t l, sumM t g l) := by
  unfold impl_sumsOf.f
  have := impl_sumsOf_l h l hl hr l.length k 0 0 0 (by omega) (by omega) (by omega) (by omega) (by omega) (by omega)
  simpa using this
def filtI (p : Int → Bool) : List Int → Nat → List Int
  | [], _ => []
  | x :: l, i => if p x = true then (i : Int) :: filtI p l (i + 1) else filtI p l (i + 1)
theorem filtI_pos {p : Int → Bool} {x : Int} {l : List Int} {i : Nat} (h : p x = true) : filtI p (x :: l) i = (i : Int) :: filtI p l (i + 1) := by rw [filtI, if_pos h]
theorem filtI_neg {p : Int → Bool} {x : Int} {l : List Int} {i : Nat} (h : ¬ p x = true) : filtI p (x :: l) i = filtI p l (i + 1) := by rw [filtI, if_neg h]
theorem filtI_len (p : Int → Bool) : ∀ (l : List Int) (i : Nat), (filtI p l i).length ≤ l.length
  | [], _ => by simp [filtI]
  | x :: l, i => by
    have := filtI_len p l (i + 1)
    unfold filtI
    split <;> simp <;> omega
def levelsV (t g : List Int) (X Y Z : Int) : List (List Int) := (List.range Z.toNat).map fun z : Nat => [sumT t (levelV X Y (z : Int)), sumM t g (levelV X Y (z : Int))]
theorem levelsV_len (t g : List Int) (X Y Z : Int) : (levelsV t g X Y Z).length = Z.toNat := by simp [levelsV]
theorem levelsV_two (t g : List Int) (X Y Z : Int) : ∀ x ∈ levelsV t g X Y Z, x.length = 2 := by
  intro x hx
  unfold levelsV at hx
  obtain ⟨z, _, rfl⟩ := List.mem_map.1 hx
  rfl
theorem levelsV_take (t g : List Int) (X Y Z : Int) {i : Nat} (h : (i : Int) < Z) : (levelsV t g X Y Z).take (i + 1) = (levelsV t g X Y Z).take i ++ [[sumT t (levelV X Y (i : Int)), sumM t g (levelV X Y (i : Int))]] := by
  have hi : i < (levelsV t g X Y Z).length := by rw [levelsV_len]; omega
  rw [List.take_succ_eq_append_getElem hi]
  congr 2
  simp [levelsV]
theorem level_mem {X Y Z : Int} {t g r : List Int} (h : IsMod X Y Z t g r) {z : Int} (h0 : 0 ≤ z) (h1 : z < Z) : ∀ x ∈ levelV X Y z, 0 ≤ x ∧ x < (t.length : Int) := by
  intro x hx
  unfold levelV at hx
  obtain ⟨n, hn, rfl⟩ := List.mem_map.1 hx
  have hn := List.mem_range.1 hn
  obtain ⟨m1, m2, m3, m4, m5, m6⟩ := lev_w h.grid h0 h1
  have e : (t.length : Int) = X * Y * Z := h.lt
  have a : z * (X * Y) ≤ (Z - 1) * (X * Y) := Int.mul_le_mul_of_nonneg_right (by omega) (by omega)
  rw [Int.sub_mul, Int.one_mul, Int.mul_comm Z] at a
  rw [Int.mul_assoc] at m2
  rw [Int.mul_assoc]
  exact ⟨by omega, by omega⟩
def levelsR (X Y Z : Int) (t g r : List Int) : List (List Int) × Bool := if modelB X Y Z t g r = true then (levelsV t g X Y Z, true) else ([], false)
theorem levelsR_two (X Y Z : Int) (t g r : List Int) : ∀ x ∈ (levelsR X Y Z t g r).1, x.length = 2 := by
  unfold levelsR
  split
  · exact levelsV_two t g X Y Z
  · intro x hx; cases hx
theorem levelsR_len (X Y Z : Int) (t g r : List Int) : (levelsR X Y Z t g r).1.length ≤ 5 := by
  unfold levelsR
  split
  · rename_i h
    have := gridB_t (modelB_t h).grid
    show (levelsV t g X Y Z).length ≤ 5
    rw [levelsV_len]; omega
  · exact Nat.zero_le _
theorem spec_LevelSums_l {X Y Z : Int} {t g r : List Int} (h : IsMod X Y Z t g r) : ∀ (d k i : Nat), (i : Int) + d = Z → 1048700 + d < k →
    spec_LevelSums.l0 k ((levelsV t g X Y Z).take i) (i : Int) X Y Z t g r = some (levelsV t g X Y Z, true) := by
  have hg := gridB_t h.grid
  intro d
  induction d with
  | zero =>
    intro k i hi hk
    obtain ⟨k, rfl⟩ := k_succ (by omega : 0 < k)
    simp only [spec_LevelSums.l0]
    rw [if_neg (by omega), List.take_of_length_le (by rw [levelsV_len]; omega)]
  | succ d ih =>
    intro k i hi hk
    obtain ⟨k, rfl⟩ := k_succ (by omega : 0 < k)
    simp only [spec_LevelSums.l0]
    have hm := level_mem h (by omega : 0 ≤ (i : Int)) (by omega)
    have hl : (levelV X Y (i : Int)).length ≤ 1048576 := by obtain ⟨m1, m2, m3, m4, m5, m6⟩ := lev_w h.grid (by omega : 0 ≤ (i : Int)) (by omega); rw [levelV_len]; omega
    rw [if_pos (by omega), spec_LevelBlocks_v _ _ _ _ (by omega), Option.bind_some]
    rw [show levelR X Y Z (i : Int) = (levelV X Y (i : Int), true) from if_pos ⟨h.grid, by omega, by omega⟩]
    dsimp only
    rw [spec_moSums_v h _ hl hm (by omega), Option.bind_some]
    dsimp only
    rw [if_pos (by rw [List.length_take]; omega), w64_succ (by omega), ← levelsV_take t g X Y Z (by omega)]
    exact ih k (i + 1) (by omega) (by omega)
theorem spec_LevelSums_v (X Y Z : Int) (t g r : List Int) {k : Nat} (hk : 1048800 < k) : spec_LevelSums.f k X Y Z t g r = some (levelsR X Y Z t g r) := by
  unfold spec_LevelSums.f levelsR
  rw [spec_moGood_v _ _ _ _ _ _ (by omega), Option.bind_some]
  by_cases h : modelB X Y Z t g r = true
  · rw [if_pos h, if_pos h]
    have hg := gridB_t (modelB_t h).grid
    have := spec_LevelSums_l (modelB_t h) Z.toNat k 0 (by omega) (by omega)
    simpa using this
  · rw [if_neg h, if_neg h]
theorem impl_LevelSums_l {X Y Z : Int} {t g r : List Int} (h : IsMod X Y Z t g r) : ∀ (d k i : Nat), (i : Int) + d = Z → 1048700 + d < k →
    impl_LevelSums.l0 k ((levelsV t g X Y Z).take i) (i : Int) X Y Z t g r = some (levelsV t g X Y Z, true) := by
  have hg := gridB_t h.grid
  intro d
  induction d with
  | zero =>
    intro k i hi hk
    obtain ⟨k, rfl⟩ := k_succ (by omega : 0 < k)
    simp only [impl_LevelSums.l0]
    rw [if_neg (by omega), List.take_of_length_le (by rw [levelsV_len]; omega)]
  | succ d ih =>
    intro k i hi hk
    obtain ⟨k, rfl⟩ := k_succ (by omega : 0 < k)
    simp only [impl_LevelSums.l0]
    have hm := level_mem h (by omega : 0 ≤ (i : Int)) (by omega)
    have hl : (levelV X Y (i : Int)).length ≤ 1048576 := by obtain ⟨m1, m2, m3, m4, m5, m6⟩ := lev_w h.grid (by omega : 0 ≤ (i : Int)) (by omega); rw [levelV_len]; omega
    rw [if_pos (by omega), impl_LevelBlocks_v _ _ _ _ (by omega), Option.bind_some]
    rw [show levelR X Y Z (i : Int) = (levelV X Y (i : Int), true) from if_pos ⟨h.grid, by omega, by omega⟩]
    dsimp only
    rw [impl_sumsOf_v h _ hl hm (by omega), Option.bind_some]
    dsimp only
    rw [if_pos (by rw [List.length_take]; omega), w64_succ (by omega), ← levelsV_take t g X Y Z (by omega)]
    exact ih k (i + 1) (by omega) (by omega)
theorem impl_LevelSums_v (X Y Z : Int) (t g r : List Int) {k : Nat} (hk : 1048800 < k) : impl_LevelSums.f k X Y Z t g r = some (levelsR X Y Z t g r) := by
  unfold impl_LevelSums.f levelsR
  rw [impl_IsModel_v _ _ _ _ _ _ (by omega), Option.bind_some]
  by_cases h : modelB X Y Z t g r = true
  · rw [if_pos h, if_pos h]
    have hg := gridB_t (modelB_t h).grid
    have := impl_LevelSums_l (modelB_t h) Z.toNat k 0 (by omega) (by omega)
    simpa using this
  · rw [if_neg h, if_neg h]
theorem rdL_get {l : List (List Int)} {i : Nat} (h : i < l.length) : rd_L1 l (i : Int) = l[i] := by
  unfold rd_L1
  rw [Int.toNat_natCast, List.getD_eq_getElem?_getD, List.getElem?_eq_getElem h]; rfl
theorem eqSS_l (l : List (List Int)) (hl : l.length ≤ 1000) (h2 : ∀ x ∈ l, x.length = 2) : ∀ (d k i : Nat), i + d = l.length → 100 + d < k → laws_eqIntSS.l0 k l l (i : Int) = some true := by
  intro d
  induction d with
  | zero =>
    intro k i hi hk
    obtain ⟨k, rfl⟩ := k_succ (by omega : 0 < k)
    simp only [laws_eqIntSS.l0]
    rw [if_neg (by omega)]
  | succ d ih =>
    intro k i hi hk
    obtain ⟨k, rfl⟩ := k_succ (by omega : 0 < k)
    simp only [laws_eqIntSS.l0]
    have hx : (rd_L1 l (i : Int)).length = 2 := by rw [rdL_get (by omega)]; exact h2 _ (List.getElem_mem _)
    rw [if_pos (by omega), if_pos (by omega), if_pos (by omega), laws_eqIntS_v _ _ (by omega) (by omega), Option.bind_some, decide_eq_true rfl, if_pos rfl, w64_succ (by omega)]
    exact ih k (i + 1) (by omega) (by omega)
theorem eqSS_v (l : List (List Int)) (hl : l.length ≤ 1000) (h2 : ∀ x ∈ l, x.length = 2) {k : Nat} (hk : 2000 < k) : laws_eqIntSS.f k l l = some true := by
  unfold laws_eqIntSS.f
  rw [if_pos rfl]
  exact eqSS_l l hl h2 l.length k 0 (by omega) (by omega)
def MK (n : Nat) (a : Int) : List (List Int) := (List.range n).map fun j : Nat => marks 2 (a + 2 * (j : Int))
theorem MK_len (n : Nat) (a : Int) : (MK n a).length = n := by simp [MK]
theorem MK_succ (n : Nat) (a : Int) : MK (n + 1) a = MK n a ++ [marks 2 (a + 2 * (n : Int))] := by simp [MK, List.range_succ]
theorem markSS_l (l : List (List Int)) (a : Int) (ha : 0 ≤ a) (ha' : a ≤ 1000) (hl : l.length ≤ 1000) (h2 : ∀ x ∈ l, x.length = 2) : ∀ (d k i : Nat), i + d = l.length → 1048600 + d < k →
    laws_markIntSS.l0 k (MK i a ++ l.drop i) (a + 2 * (i : Int)) (i : Int) = some (a + 2 * (l.length : Int), MK l.length a) := by
  intro d
  induction d with
  | zero =>
    intro k i hi hk
    obtain ⟨k, rfl⟩ := k_succ (by omega : 0 < k)
    simp only [laws_markIntSS.l0]
    have e : i = l.length := by omega
    subst e
    rw [List.drop_length, List.append_nil, if_neg (by rw [MK_len]; omega)]
  | succ d ih =>
    intro k i hi hk
    obtain ⟨k, rfl⟩ := k_succ (by omega : 0 < k)
    simp only [laws_markIntSS.l0]
    have hil : i < l.length := by omega
    have hlen : (MK i a ++ l.drop i).length = l.length := by rw [List.length_append, MK_len, List.length_drop]; omega
    have hg : (MK i a ++ l.drop i).getD (i : Int).toNat [] = l[i] := by
      rw [Int.toNat_natCast, List.getD_eq_getElem?_getD, List.getElem?_append_right (by rw [MK_len]; exact Nat.le_refl _), MK_len, Nat.sub_self, List.getElem?_drop, Nat.add_zero, List.getElem?_eq_getElem hil]; rfl
    have hx : l[i].length = 2 := h2 _ (List.getElem_mem _)
    have hs : ∀ v, (MK i a ++ l.drop i).set (i : Int).toNat v = MK i a ++ [v] ++ l.drop (i + 1) := fun v => by
      rw [Int.toNat_natCast, List.set_append_right i v (by rw [MK_len]; exact Nat.le_refl _), MK_len, Nat.sub_self, List.drop_eq_getElem_cons hil, List.set_cons_zero, List.append_assoc]; rfl
    rw [if_pos (by rw [hlen]; omega), if_pos (by omega), hg, laws_markIntS_v _ _ (by omega) (by omega) (by omega) (by omega), Option.bind_some]
    dsimp only
    rw [hx, hs, ← MK_succ, w64_succ (by omega), show a + 2 * (i : Int) + ((2 : Nat) : Int) = a + 2 * ((i + 1 : Nat) : Int) by omega]
    exact ih k (i + 1) (by omega) (by omega)
theorem markSS_v (l : List (List Int)) (a : Int) (ha : 0 ≤ a) (ha' : a ≤ 1000) (hl : l.length ≤ 1000) (h2 : ∀ x ∈ l, x.length = 2) {k : Nat} (hk : 1050000 < k) : laws_markIntSS.f k l a = some (a + 2 * (l.length : Int), MK l.length a) := by
  unfold laws_markIntSS.f
  have := markSS_l l a ha ha' hl h2 l.length k 0 (by omega) (by omega)
  simpa [MK] using this
theorem heldSS_l (n : Nat) (a : Int) (ha : 0 ≤ a) (ha' : a ≤ 1000) (hn : n ≤ 1000) : ∀ (d k i : Nat), i + d = n → 1048600 + d < k →
    laws_heldIntSS.l0 k (MK n a) (a + 2 * (i : Int)) (i : Int) = some (a + 2 * (n : Int)) := by
  intro d
  induction d with
  | zero =>
    intro k i hi hk
    obtain ⟨k, rfl⟩ := k_succ (by omega : 0 < k)
    simp only [laws_heldIntSS.l0]
    have e : i = n := by omega
    subst e
    rw [if_neg (by rw [MK_len]; omega)]
  | succ d ih =>
    intro k i hi hk
    obtain ⟨k, rfl⟩ := k_succ (by omega : 0 < k)
    simp only [laws_heldIntSS.l0]
    have hg : rd_L1 (MK n a) (i : Int) = marks 2 (a + 2 * (i : Int)) := by rw [rdL_get (by rw [MK_len]; omega)]; simp [MK]
    rw [if_pos (by rw [MK_len]; omega), if_pos (by omega), hg, laws_heldIntS_v _ _ (by omega) (by omega) (by omega) (by omega), Option.bind_some, if_neg (by omega), w64_succ (by omega), show a + 2 * (i : Int) + ((2 : Nat) : Int) = a + 2 * ((i + 1 : Nat) : Int) by omega]
    exact ih k (i + 1) (by omega) (by omega)
theorem heldSS_v (n : Nat) (a : Int) (ha : 0 ≤ a) (ha' : a ≤ 1000) (hn : n ≤ 1000) {k : Nat} (hk : 1050000 < k) : laws_heldIntSS.f k (MK n a) a = some (a + 2 * (n : Int)) := by
  unfold laws_heldIntSS.f
  have := heldSS_l n a ha ha' hn n k 0 (by omega) (by omega)
  simpa using this
theorem pure_FnExactLevelSums (X Y Z : Int) (t g r : List Int) (hX : (Lit.int .i64 X).wf = true) (hY : (Lit.int .i64 Y).wf = true) (hZ : (Lit.int .i64 Z).wf = true) (h3 : t.length ≤ maxLen) (hw3 : ∀ x ∈ t, (Lit.int .i64 x).wf = true) (h4 : g.length ≤ maxLen) (hw4 : ∀ x ∈ g, (Lit.int .i64 x).wf = true) (h5 : r.length ≤ maxLen) (hw5 : ∀ x ∈ r, (Lit.int .i64 x).wf = true) : ∃ k, laws_FnExactLevelSums.f k X Y Z t g r = some true := by
  obtain ⟨K, hK⟩ : ∃ K : Nat, 1060000 < K := ⟨_, Nat.lt_succ_self _⟩
  refine ⟨K + 6, ?_⟩
  unfold laws_FnExactLevelSums.f
  rcases laws_szModel_v X Y Z t g r h3 h4 h5 with ⟨s, hs, h⟩ | ⟨s, hs, h, l3, l4, l5⟩
  · rw [hs, Option.bind_some, if_pos h]
  · rw [hs, Option.bind_some, if_neg h]
    obtain ⟨L, hL⟩ : ∃ L, L = levelsR X Y Z t g r := ⟨_, rfl⟩
    have h2 : ∀ x ∈ L.1, x.length = 2 := by rw [hL]; exact levelsR_two X Y Z t g r
    have hn : L.1.length ≤ 1000 := by have := levelsR_len X Y Z t g r; rw [hL]; omega
    simp (disch := omega) only [laws_toModel_v, Option.bind_some, spec_LevelSums_v, impl_LevelSums_v, ← hL]
    rw [eqSS_v L.1 hn h2 (by omega), Option.bind_some, if_pos rfl, laws_FnExactLevelSums.j0]
    simp (disch := omega) only [bne_self_eq_false, Bool.false_eq_true, if_false, laws_toModel_v, Option.bind_some, laws_eqModel_v, if_true, laws_markModel_v]
    rw [if_neg (by omega), eqSS_v L.1 hn h2 (by omega), Option.bind_some, if_pos rfl, laws_FnExactLevelSums.j1]
    simp only [Bool.false_eq_true, if_false]
    rw [markSS_v L.1 1 (by omega) (by omega) hn h2 (by omega), Option.bind_some]
    dsimp only
    rw [heldSS_v L.1.length 1 (by omega) (by omega) hn (by omega), Option.bind_some, if_neg (by omega), if_pos rfl]
    simp (disch := omega) only [laws_toModel_v, Option.bind_some, impl_LevelSums_v, ← hL]
    rw [eqSS_v L.1 hn h2 (by omega), Option.bind_some, if_pos rfl, laws_FnExactLevelSums.j2]
    simp only [bne_self_eq_false, Bool.false_eq_true, if_false]
    rw [heldSS_v L.1.length 1 (by omega) (by omega) hn (by omega), Option.bind_some, if_neg (by omega), if_pos rfl]
theorem W0 : wrap64 (0 + 1) = 1 := w64 (by decide) (by decide)
theorem W1 : wrap64 (1 + 1) = 2 := w64 (by decide) (by decide)
theorem W2 : wrap64 (2 + 1) = 3 := w64 (by decide) (by decide)
theorem W3 : wrap64 (3 + 1) = 4 := w64 (by decide) (by decide)

end Go.Proofs.Ytdfjlelbkkaloaa.Pure
