/- What the printed Lean functions behind FnExactParseModel come to, and from that the pure statement of FnExactParseModel: it answers true. No condition beyond those that the given statement itself has. -/
import Derived.Test.YtjchafcodnilmaaDoorPFnExactParseModelx9
import Derived.Lib.SmallJoins
import Derived.Lib.ItoaNum
namespace Go.Proofs.YtjchafcodnilmaaDoor.Pure
open Go.RowKit Go.Proofs.YtjchafcodnilmaaDoor.PFnExactParseModel Go.Proofs.YtjchafcodnilmaaDoorW.PrintWords Go.Proofs.YtjchafcodnilmaaDoorW.PrintLast Go.Proofs.YtjchafcodnilmaaDoorW.PrintMore
set_option linter.unusedVariables false
set_option linter.unusedSimpArgs false

theorem w64 {x : Int} (h1 : -9223372036854775808 ≤ x) (h2 : x ≤ 9223372036854775807) : wrap64 x = x := by unfold wrap64; omega
theorem wf_i64 {x : Int} (h : (Lit.int .i64 x).wf = true) : -9223372036854775808 ≤ x ∧ x ≤ 9223372036854775807 := Go.Joins.in64_of_wf h
theorem mul_bd {a b A B : Int} (ha : 0 ≤ a) (hA : a ≤ A) (hb : 0 ≤ b) (hB : b ≤ B) : 0 ≤ a * b ∧ a * b ≤ A * B :=
  ⟨Int.mul_nonneg ha hb, Int.mul_le_mul hA hB hb (by omega)⟩
theorem rd_nat (l : List Int) (i : Nat) : rd l (i : Int) = l.getD i 0 := by simp [rd]
theorem rd_get {l : List Int} {i : Nat} (h : i < l.length) : rd l (i : Int) = l[i] := by rw [rd_nat, List.getD_eq_getElem?_getD, List.getElem?_eq_getElem h]; rfl
theorem rd_set {l : List Int} {i : Nat} {v : Int} (j : Int) (h0 : 0 ≤ j) (hi : i < l.length) : rd (l.set i v) j = if j = (i : Int) then v else rd l j := by
  unfold rd
  rw [List.getD_eq_getElem?_getD, List.getD_eq_getElem?_getD]
  by_cases h : j = (i : Int)
  · rw [if_pos h, show j.toNat = i by omega, List.getElem?_set_self hi]; rfl
  · rw [if_neg h, List.getElem?_set_ne (by omega)]
theorem drop_rd {l : List Int} {i : Nat} (h : i < l.length) : l.drop i = rd l (i : Int) :: l.drop (i + 1) := by
  rw [rd_get h]; exact List.drop_eq_getElem_cons h
theorem w64_succ {i : Nat} (h : i < 9223372036854775807) : wrap64 ((i : Int) + 1) = ((i + 1 : Nat) : Int) := by rw [w64 (by omega) (by omega)]; omega
theorem k_succ {k : Nat} (h : 0 < k) : ∃ m, k = m + 1 := ⟨k - 1, by omega⟩
/-- from some number of rounds on -/
theorem Ev.use {α : Type} {g : Nat → Option α} {r : α} (h : Ev g r) : ∃ K, ∀ k, K ≤ k → g k = some r := h
theorem laws_eqIntS_l (l m : List Int) (hn : l.length ≤ 1152921504606846976) (hm : m.length = l.length) : ∀ (d k i : Nat), i + d = l.length → d < k →
    laws_eqIntS.l0 k l m (i : Int) = some (decide (l.drop i = m.drop i)) := by
  intro d
  induction d with
  | zero =>
    intro k i hi hk
    obtain ⟨k, rfl⟩ := k_succ (by omega : 0 < k)
    simp only [laws_eqIntS.l0]
    rw [if_neg (by omega), List.drop_eq_nil_of_le (by omega), List.drop_eq_nil_of_le (by omega)]
    simp
  | succ d ih =>
    intro k i hi hk
    obtain ⟨k, rfl⟩ := k_succ (by omega : 0 < k)
    simp only [laws_eqIntS.l0]
    rw [if_pos (by omega), if_pos (by omega), if_pos (by omega), w64_succ (by omega), drop_rd (by omega : i < l.length), drop_rd (by omega : i < m.length), ih k (i + 1) (by omega) (by omega)]
    by_cases h : rd l (i : Int) = rd m (i : Int)
    · rw [if_pos h]; simp [h]
    · rw [if_neg h]; simp [h]
theorem laws_eqIntS_v (l m : List Int) (hn : l.length ≤ 1152921504606846976) {k : Nat} (hk : l.length < k) : laws_eqIntS.f k l m = some (decide (l = m)) := by
  unfold laws_eqIntS.f
  by_cases h : l.length = m.length
  · rw [if_pos (by omega)]
    have := laws_eqIntS_l l m hn h.symm l.length k 0 (by omega) hk
    simpa using this
  · rw [if_neg (by omega)]
    congr 1; symm
    rw [decide_eq_false_iff_not]
    intro e; rw [e] at h; exact h rfl
theorem spec_l1In_v (a lo hi : Int) : spec_l1In.f a lo hi = some (decide (lo ≤ a ∧ a ≤ hi)) := by
  unfold spec_l1In.f
  split
  · congr 1; rw [decide_eq_decide]; omega
  · congr 1; symm; rw [decide_eq_false_iff_not]; omega
theorem spec_l1All_l (lo hi : Int) (l : List Int) (hn : l.length ≤ 1152921504606846976) : ∀ (d k i : Nat), i + d = l.length → d < k →
    spec_l1All.l0 k lo hi l (l.length : Int) (i : Int) = some ((l.drop i).all fun x => decide (lo ≤ x ∧ x ≤ hi)) := by
  intro d
  induction d with
  | zero =>
    intro k i hi' hk
    obtain ⟨k, rfl⟩ := k_succ (by omega : 0 < k)
    simp only [spec_l1All.l0]
    rw [if_neg (by omega), List.drop_eq_nil_of_le (by omega)]
    rfl
  | succ d ih =>
    intro k i hi' hk
    obtain ⟨k, rfl⟩ := k_succ (by omega : 0 < k)
    simp only [spec_l1All.l0]
    rw [if_pos (by omega), if_pos (by omega), if_pos (by omega), w64_succ (by omega), drop_rd (by omega : i < l.length), ih k (i + 1) (by omega) (by omega), spec_l1In_v, List.all_cons]
    simp only [Option.bind_some, decide_eq_true_eq]
    by_cases h : lo ≤ rd l (i : Int) ∧ rd l (i : Int) ≤ hi
    · rw [if_pos h, decide_eq_true h, Bool.true_and]
    · rw [if_neg h, decide_eq_false h, Bool.false_and]
theorem spec_l1All_v (lo hi : Int) (l : List Int) (hn : l.length ≤ 1152921504606846976) {k : Nat} (hk : l.length < k) : spec_l1All.f k l lo hi = some (l.all fun x => decide (lo ≤ x ∧ x ≤ hi)) := by
  unfold spec_l1All.f
  simpa using spec_l1All_l lo hi l hn l.length k 0 (by omega) hk
def gridB (X Y Z : Int) : Bool := decide (1 ≤ X ∧ X ≤ 8 ∧ 1 ≤ Y ∧ Y ≤ 6 ∧ 1 ≤ Z ∧ Z ≤ 5 ∧ X * Y * Z ≤ 120)
theorem gridB_t {X Y Z : Int} (h : gridB X Y Z = true) : 1 ≤ X ∧ X ≤ 8 ∧ 1 ≤ Y ∧ Y ≤ 6 ∧ 1 ≤ Z ∧ Z ≤ 5 ∧ X * Y * Z ≤ 120 := of_decide_eq_true h
theorem wrapXYZ {X Y Z : Int} (h1 : 1 ≤ X) (h2 : X ≤ 8) (h3 : 1 ≤ Y) (h4 : Y ≤ 6) (h5 : 1 ≤ Z) (h6 : Z ≤ 5) : wrap64 (wrap64 (X * Y) * Z) = X * Y * Z := by
  have a := mul_bd (by omega : 0 ≤ X) h2 (by omega : 0 ≤ Y) h4
  have b := mul_bd a.1 a.2 (by omega : 0 ≤ Z) h6
  rw [w64 (by omega) (by omega) (x := X * Y), w64 (by omega) (by omega)]
theorem grid_pos {X Y Z : Int} (h : gridB X Y Z = true) : 1 ≤ X * Y * Z ∧ X * Y * Z ≤ 120 := by
  obtain ⟨h1, h2, h3, h4, h5, h6, h7⟩ := gridB_t h
  have a : 0 < X * Y := Int.mul_pos (by omega) (by omega)
  have b : 0 < X * Y * Z := Int.mul_pos a (by omega)
  omega
theorem impl_IsGrid_v (X Y Z : Int) : impl_IsGrid.f X Y Z = some (gridB X Y Z) := by
  unfold impl_IsGrid.f gridB
  repeat' split
  all_goals first
    | (rw [wrapXYZ (by omega) (by omega) (by omega) (by omega) (by omega) (by omega)]; congr 1; rw [decide_eq_decide]; omega)
    | (congr 1; symm; rw [decide_eq_false_iff_not]; omega)
theorem spec_grGood_v (X Y Z : Int) : spec_grGood.f X Y Z = some (gridB X Y Z) := by
  unfold spec_grGood.f gridB
  simp only [spec_l1In_v, Option.bind_some, decide_eq_true_eq]
  repeat' split
  all_goals first
    | (rw [wrapXYZ (by omega) (by omega) (by omega) (by omega) (by omega) (by omega)]; congr 1; rw [decide_eq_decide]; omega)
    | (congr 1; symm; rw [decide_eq_false_iff_not]; omega)
theorem spec_grCount_v {X Y Z : Int} (h : gridB X Y Z = true) : spec_grCount.f X Y Z = some (X * Y * Z) := by
  obtain ⟨h1, h2, h3, h4, h5, h6, h7⟩ := gridB_t h
  simp only [spec_grCount.f, wrapXYZ h1 h2 h3 h4 h5 h6]
theorem impl_blocksOf_v {X Y Z : Int} (h : gridB X Y Z = true) : impl_blocksOf.f X Y Z = some (X * Y * Z) := by
  obtain ⟨h1, h2, h3, h4, h5, h6, h7⟩ := gridB_t h
  simp only [impl_blocksOf.f, wrapXYZ h1 h2 h3 h4 h5 h6]
def hasB (X Y Z i : Int) : Bool := gridB X Y Z && decide (0 ≤ i ∧ i < X * Y * Z)
theorem hasB_t {X Y Z i : Int} (h : hasB X Y Z i = true) : gridB X Y Z = true ∧ 0 ≤ i ∧ i < X * Y * Z := by
  unfold hasB at h; rw [Bool.and_eq_true, decide_eq_true_eq] at h; exact h
theorem at_w {X Y x y z : Int} (hX : 0 ≤ X) (hX' : X ≤ 8) (hY : 0 ≤ Y) (hY' : Y ≤ 6) (hx : 0 ≤ x) (hx' : x ≤ 8) (hy : 0 ≤ y) (hy' : y ≤ 6) (hz : 0 ≤ z) (hz' : z ≤ 5) :
    wrap64 (wrap64 (wrap64 (wrap64 (z * Y) + y) * X) + x) = (z * Y + y) * X + x ∧ 0 ≤ (z * Y + y) * X + x := by
  have a := mul_bd hz hz' hY hY'
  have b := mul_bd (by omega : 0 ≤ z * Y + y) (by omega : z * Y + y ≤ 36) hX hX'
  rw [w64 (by omega) (by omega) (x := z * Y), w64 (by omega) (by omega) (x := z * Y + y), w64 (by omega) (by omega) (x := (z * Y + y) * X), w64 (by omega) (by omega)]
  exact ⟨rfl, by omega⟩
def inB (X Y Z x y z : Int) : Bool := decide (0 ≤ x ∧ x < X ∧ 0 ≤ y ∧ y < Y ∧ 0 ≤ z ∧ z < Z)
theorem tdiv_nn {a b : Int} (h : 0 ≤ a) : Int.tdiv a b = a / b := Int.tdiv_eq_ediv_of_nonneg h
theorem tmod_nn {a b : Int} (h : 0 ≤ a) : Int.tmod a b = a % b := Int.tmod_eq_emod_of_nonneg h
theorem place_bd {X Y Z i : Int} (h : hasB X Y Z i = true) : (0 ≤ i % X ∧ i % X < X) ∧ (0 ≤ i / X % Y ∧ i / X % Y < Y) ∧ (0 ≤ i / X / Y ∧ i / X / Y < Z) ∧ 0 ≤ i / X ∧ i / X ≤ i := by
  obtain ⟨hg, hi, hi'⟩ := hasB_t h
  obtain ⟨h1, h2, h3, h4, h5, h6, h7⟩ := gridB_t hg
  have a : 0 ≤ i / X := Int.ediv_nonneg hi (by omega)
  refine ⟨⟨Int.emod_nonneg _ (by omega), Int.emod_lt_of_pos _ (by omega)⟩, ⟨Int.emod_nonneg _ (by omega), Int.emod_lt_of_pos _ (by omega)⟩, ⟨Int.ediv_nonneg a (by omega), ?_⟩, a, Int.ediv_le_self _ hi⟩
  rw [Int.ediv_ediv_of_nonneg (by omega)]
  refine Int.ediv_lt_of_lt_mul (Int.mul_pos (by omega) (by omega)) ?_
  rw [Int.mul_comm Z]
  exact hi'
def coarseV (X Y i : Int) : Int := (i / X / Y * ((Y + 1) / 2) + i / X % Y / 2) * ((X + 1) / 2) + i % X / 2
def absI (n : Int) : Int := if n < 0 then -n else n
theorem absI_sub (a b : Int) : absI (a - b) = absI (b - a) := by unfold absI; repeat' split <;> omega
theorem absI_bd {a : Int} {B : Int} (h : -B ≤ a) (h' : a ≤ B) : 0 ≤ absI a ∧ absI a ≤ B := by unfold absI; split <;> omega
def stepsV (X Y i k : Int) : Int := absI (i % X - k % X) + absI (i / X % Y - k / X % Y) + absI (i / X / Y - k / X / Y)
theorem stepsV_comm (X Y i k : Int) : stepsV X Y i k = stepsV X Y k i := by
  unfold stepsV
  rw [absI_sub (i % X), absI_sub (i / X % Y), absI_sub (i / X / Y)]
theorem steps_bd {X Y Z i k : Int} (h : hasB X Y Z i = true) (h' : hasB X Y Z k = true) : (0 ≤ absI (i % X - k % X) ∧ absI (i % X - k % X) ≤ 8) ∧ (0 ≤ absI (i / X % Y - k / X % Y) ∧ absI (i / X % Y - k / X % Y) ≤ 8) ∧ (0 ≤ absI (i / X / Y - k / X / Y) ∧ absI (i / X / Y - k / X / Y) ≤ 8) := by
  obtain ⟨h1, h2, h3, h4, h5, h6, h7⟩ := gridB_t (hasB_t h).1
  have a := place_bd h
  have b := place_bd h'
  exact ⟨absI_bd (by omega) (by omega), absI_bd (by omega) (by omega), absI_bd (by omega) (by omega)⟩
def filtN (p : Int → Bool) : Nat → Nat → List Int
  | _, 0 => []
  | i, d + 1 => if p (i : Int) = true then (i : Int) :: filtN p (i + 1) d else filtN p (i + 1) d
theorem filtN_pos {p : Int → Bool} {i d : Nat} (h : p (i : Int) = true) : filtN p i (d + 1) = (i : Int) :: filtN p (i + 1) d := by rw [filtN, if_pos h]
theorem filtN_neg {p : Int → Bool} {i d : Nat} (h : ¬ p (i : Int) = true) : filtN p i (d + 1) = filtN p (i + 1) d := by rw [filtN, if_neg h]
theorem filtN_len (p : Int → Bool) : ∀ (d i : Nat), (filtN p i d).length ≤ d
  | 0, i => by simp [filtN]
  | d + 1, i => by
    have := filtN_len p d (i + 1)
    unfold filtN
    split <;> simp <;> omega
theorem filtN_mem (p : Int → Bool) : ∀ (d i : Nat) (x : Int), x ∈ filtN p i d ↔ (i : Int) ≤ x ∧ x < ((i + d : Nat) : Int) ∧ p x = true
  | 0, i, x => by simp [filtN]; omega
  | d + 1, i, x => by
    have ih := filtN_mem p d (i + 1) x
    by_cases h : p (i : Int) = true
    · rw [filtN_pos h, List.mem_cons, ih]
      constructor
      · rintro (rfl | ⟨h1, h2, h3⟩)
        · exact ⟨by omega, by omega, h⟩
        · exact ⟨by omega, by omega, h3⟩
      · rintro ⟨h1, h2, h3⟩
        by_cases e : x = (i : Int)
        · exact .inl e
        · exact .inr ⟨by omega, by omega, h3⟩
    · rw [filtN_neg h, ih]
      constructor
      · rintro ⟨h1, h2, h3⟩; exact ⟨by omega, by omega, h3⟩
      · rintro ⟨h1, h2, h3⟩
        refine ⟨?_, by omega, h3⟩
        by_cases e : x = (i : Int)
        · subst e; exact absurd h3 h
        · omega
theorem hasB_of {X Y Z i : Int} (h : gridB X Y Z = true) (h0 : 0 ≤ i) (h1 : i < X * Y * Z) : hasB X Y Z i = true := by
  unfold hasB; rw [h, Bool.true_and]; exact decide_eq_true ⟨h0, h1⟩
def nearB (X Y i r k : Int) : Bool := decide (absI (i % X - k % X) ≤ r ∧ absI (i / X % Y - k / X % Y) ≤ r ∧ absI (i / X / Y - k / X / Y) ≤ r)
def pieceB (T M R : Int) : Bool := decide (0 ≤ T ∧ T ≤ 10000 ∧ 0 ≤ M ∧ M ≤ 1000 * T ∧ 0 ≤ R ∧ R ≤ 4)
theorem pieceB_t {T M R : Int} (h : pieceB T M R = true) : 0 ≤ T ∧ T ≤ 10000 ∧ 0 ≤ M ∧ M ≤ 1000 * T ∧ 0 ≤ R ∧ R ≤ 4 := of_decide_eq_true h
def gcdI (x y : Int) : Int := (Nat.gcd x.toNat y.toNat : Nat)
theorem gcdI_step {x y : Int} (hx : 0 ≤ x) (hy : 0 ≤ y) : gcdI y (x % y) = gcdI x y := by
  unfold gcdI
  rw [Int.toNat_emod hx hy, Nat.gcd_comm, ← Nat.gcd_rec, Nat.gcd_comm]
theorem gcdI_zero {x : Int} (hx : 0 ≤ x) : gcdI x 0 = x := by
  unfold gcdI
  simp; omega
def modelB (X Y Z : Int) (t g r : List Int) : Bool := gridB X Y Z && decide ((t.length : Int) = X * Y * Z ∧ (g.length : Int) = X * Y * Z ∧ (r.length : Int) = X * Y * Z) && ((t.all fun x => decide (0 ≤ x ∧ x ≤ 10000)) && ((g.all fun x => decide (0 ≤ x ∧ x ≤ 1000)) && (r.all fun x => decide (0 ≤ x ∧ x ≤ 4))))
structure IsMod (X Y Z : Int) (t g r : List Int) : Prop where
  grid : gridB X Y Z = true
  lt : (t.length : Int) = X * Y * Z
  lg : g.length = t.length
  lr : r.length = t.length
  ht : ∀ x ∈ t, 0 ≤ x ∧ x ≤ 10000
  hg : ∀ x ∈ g, 0 ≤ x ∧ x ≤ 1000
  hr : ∀ x ∈ r, 0 ≤ x ∧ x ≤ 4
  pos : 1 ≤ t.length
  le : t.length ≤ 120
theorem modelB_iff {X Y Z : Int} {t g r : List Int} : modelB X Y Z t g r = true ↔ IsMod X Y Z t g r := by
  unfold modelB
  simp only [Bool.and_eq_true, decide_eq_true_eq, List.all_eq_true]
  constructor
  · rintro ⟨⟨h1, h2, h3, h4⟩, h5, h6, h7⟩
    have := grid_pos h1
    exact ⟨h1, h2, by omega, by omega, h5, h6, h7, by omega, by omega⟩
  · intro h
    have h1 := h.lt; have h2 := h.lg; have h3 := h.lr
    exact ⟨⟨h.grid, h1, by omega, by omega⟩, h.ht, h.hg, h.hr⟩
theorem modelB_t {X Y Z : Int} {t g r : List Int} (h : modelB X Y Z t g r = true) : IsMod X Y Z t g r := modelB_iff.1 h
theorem modelB_f {X Y Z : Int} {t g r : List Int} (h : ¬ modelB X Y Z t g r = true) : modelB X Y Z t g r = false := by simpa using h
theorem rd_mem {l : List Int} {i : Int} (h0 : 0 ≤ i) (h : i < (l.length : Int)) : rd l i ∈ l := by
  unfold rd
  rw [List.getD_eq_getElem?_getD, List.getElem?_eq_getElem (by omega)]
  exact List.getElem_mem _
theorem rd_of_getElem? {l : List Int} {i : Nat} {x : Int} (h : l[i]? = some x) : rd l (i : Int) = x := by
  rw [rd_nat, List.getD_eq_getElem?_getD, h]; rfl
theorem IsMod.rt {X Y Z : Int} {t g r : List Int} (h : IsMod X Y Z t g r) {i : Int} (h0 : 0 ≤ i) (h1 : i < (t.length : Int)) : 0 ≤ rd t i ∧ rd t i ≤ 10000 := h.ht _ (rd_mem h0 h1)
theorem IsMod.rg {X Y Z : Int} {t g r : List Int} (h : IsMod X Y Z t g r) {i : Int} (h0 : 0 ≤ i) (h1 : i < (t.length : Int)) : 0 ≤ rd g i ∧ rd g i ≤ 1000 := h.hg _ (rd_mem h0 (by have := h.lg; omega))
theorem IsMod.rr {X Y Z : Int} {t g r : List Int} (h : IsMod X Y Z t g r) {i : Int} (h0 : 0 ≤ i) (h1 : i < (t.length : Int)) : 0 ≤ rd r i ∧ rd r i ≤ 4 := h.hr _ (rd_mem h0 (by have := h.lr; omega))
theorem IsMod.rm {X Y Z : Int} {t g r : List Int} (h : IsMod X Y Z t g r) {i : Int} (h0 : 0 ≤ i) (h1 : i < (t.length : Int)) : 0 ≤ rd t i * rd g i ∧ rd t i * rd g i ≤ 10000000 :=
  mul_bd (h.rt h0 h1).1 (h.rt h0 h1).2 (h.rg h0 h1).1 (h.rg h0 h1).2
theorem impl_IsModel_l (X Y Z : Int) (t g r : List Int) (hn : t.length ≤ 1152921504606846976) (hg : g.length = t.length) (hr : r.length = t.length) : ∀ (d k i : Nat), i + d = t.length → d < k →
    impl_IsModel.l0 k (t.length : Int) (i : Int) X Y Z t g r = some (((t.drop i).all fun x => decide (0 ≤ x ∧ x ≤ 10000)) && (((g.drop i).all fun x => decide (0 ≤ x ∧ x ≤ 1000)) && ((r.drop i).all fun x => decide (0 ≤ x ∧ x ≤ 4)))) := by
  intro d
  induction d with
  | zero =>
    intro k i hi hk
    obtain ⟨k, rfl⟩ := k_succ (by omega : 0 < k)
    simp only [impl_IsModel.l0]
    rw [if_neg (by omega), List.drop_eq_nil_of_le (by omega), List.drop_eq_nil_of_le (by omega), List.drop_eq_nil_of_le (by omega)]
    rfl
  | succ d ih =>
    intro k i hi hk
    obtain ⟨k, rfl⟩ := k_succ (by omega : 0 < k)
    simp only [impl_IsModel.l0]
    rw [if_pos (by omega), if_pos (by omega), if_pos (by omega), drop_rd (by omega : i < t.length), drop_rd (by omega : i < g.length), drop_rd (by omega : i < r.length), w64_succ (by omega), ih k (i + 1) (by omega) (by omega)]
    simp only [List.all_cons]
    by_cases h1 : 0 ≤ rd t (i : Int) ∧ rd t (i : Int) ≤ 10000
    · rw [if_neg (by omega), if_neg (by omega), if_pos (by omega), decide_eq_true h1]
      by_cases h2 : 0 ≤ rd g (i : Int) ∧ rd g (i : Int) ≤ 1000
      · rw [if_neg (by omega), if_neg (by omega), if_pos (by omega), decide_eq_true h2]
        by_cases h3 : 0 ≤ rd r (i : Int) ∧ rd r (i : Int) ≤ 4
        · rw [if_neg (by omega), if_neg (by omega), decide_eq_true h3]
          simp only [Bool.true_and]
        · rw [decide_eq_false h3]
          simp only [Bool.true_and, Bool.false_and, Bool.and_false]
          split
          · rfl
          · rw [if_pos (by omega)]
      · rw [decide_eq_false h2]
        simp only [Bool.true_and, Bool.false_and, Bool.and_false]
        split
        · rfl
        · rw [if_pos (by omega)]
    · rw [decide_eq_false h1]
      simp only [Bool.false_and]
      split
      · rfl
      · rw [if_pos (by omega)]
theorem impl_IsModel_v (X Y Z : Int) (t g r : List Int) {k : Nat} (hk : 122 < k) : impl_IsModel.f k X Y Z t g r = some (modelB X Y Z t g r) := by
  obtain ⟨k, rfl⟩ := k_succ (by omega : 0 < k)
  unfold impl_IsModel.f modelB
  rw [impl_IsGrid_v]
  cases h : gridB X Y Z with
  | false => simp
  | true =>
    have := grid_pos h
    simp only [Option.bind_some, if_true, impl_blocksOf_v h, Bool.true_and, impl_IsModel.j0]
    by_cases h1 : (t.length : Int) = X * Y * Z
    · rw [if_pos h1]
      by_cases h2 : (g.length : Int) = X * Y * Z
      · rw [if_pos h2]
        by_cases h3 : (r.length : Int) = X * Y * Z
        · rw [if_neg (by simp [h3]), decide_eq_true (by omega), Bool.true_and, ← h1]
          have := impl_IsModel_l X Y Z t g r (by omega) (by omega) (by omega) t.length k 0 (by omega) (by omega)
          simpa using this
        · rw [if_pos (by simp [h3]), decide_eq_false (by omega), Bool.false_and]
      · rw [if_neg h2, decide_eq_false (by omega), Bool.false_and]
    · rw [if_neg h1, decide_eq_false (by omega), Bool.false_and]
theorem spec_moGood_v (X Y Z : Int) (t g r : List Int) {k : Nat} (hk : 122 < k) : spec_moGood.f k X Y Z t g r = some (modelB X Y Z t g r) := by
  unfold spec_moGood.f modelB
  rw [spec_grGood_v]
  cases h : gridB X Y Z with
  | false => simp
  | true =>
    have := grid_pos h
    simp only [Option.bind_some, if_true, spec_grCount_v h, Bool.true_and]
    by_cases h1 : (t.length : Int) = X * Y * Z
    · rw [if_pos h1]
      by_cases h2 : (g.length : Int) = X * Y * Z
      · rw [if_pos h2]
        by_cases h3 : (r.length : Int) = X * Y * Z
        · rw [if_pos h3, decide_eq_true (by omega), Bool.true_and, spec_l1All_v _ _ t (by omega) (by omega), spec_l1All_v _ _ g (by omega) (by omega), spec_l1All_v _ _ r (by omega) (by omega)]
          simp only [Option.bind_some]
          cases (t.all fun x => decide (0 ≤ x ∧ x ≤ 10000)) <;> cases (g.all fun x => decide (0 ≤ x ∧ x ≤ 1000)) <;> simp
        · rw [if_neg h3, decide_eq_false (by omega), Bool.false_and]
      · rw [if_neg h2, decide_eq_false (by omega), Bool.false_and]
    · rw [if_neg h1, decide_eq_false (by omega), Bool.false_and]
theorem laws_eqModel_v (X Y Z : Int) (t g r : List Int) (h3 : t.length ≤ 1048576) (h4 : g.length ≤ 1048576) (h5 : r.length ≤ 1048576) {k : Nat} (hk : 1048576 < k) : laws_eqModel.f k X Y Z t g r X Y Z t g r = some true := by
  unfold laws_eqModel.f
  rw [laws_eqIntS_v t t (by omega) (by omega), laws_eqIntS_v g g (by omega) (by omega), laws_eqIntS_v r r (by omega) (by omega)]
  simp [laws_eqGrid.f]
def marks (n : Nat) (a : Int) : List Int := (List.range n).map fun i : Nat => a + (i : Int)
theorem marks_length (n : Nat) (a : Int) : (marks n a).length = n := by simp [marks]
theorem marks_rd {n : Nat} {a : Int} {i : Nat} (h : i < n) : rd (marks n a) (i : Int) = a + (i : Int) := by
  rw [rd_get (by rw [marks_length]; exact h)]; simp [marks]
theorem laws_markIntS_l (n : Nat) (a : Int) (ha : 0 ≤ a) (ha' : a ≤ 1152921504606846976) (hn : n ≤ 1152921504606846976) : ∀ (d k i : Nat) (y : List Int), i + d = n → d < k → y.length = n → (∀ j, j < i → y[j]? = some (a + (j : Int))) →
    laws_markIntS.l0 k y (a + (i : Int)) (i : Int) = some (a + (n : Int), marks n a) := by
  intro d
  induction d with
  | zero =>
    intro k i y hi hk hy hj
    obtain ⟨k, rfl⟩ := k_succ (by omega : 0 < k)
    simp only [laws_markIntS.l0]
    rw [if_neg (by omega)]
    have e : y = marks n a := by
      refine List.ext_getElem? fun j => ?_
      by_cases h : j < n
      · rw [hj j (by omega)]; simp [marks, h]
      · rw [List.getElem?_eq_none (by omega), List.getElem?_eq_none (by rw [marks_length]; omega)]
    rw [e, show i = n by omega]
  | succ d ih =>
    intro k i y hi hk hy hj
    obtain ⟨k, rfl⟩ := k_succ (by omega : 0 < k)
    simp only [laws_markIntS.l0]
    rw [if_pos (by omega), if_pos (by omega), w64_succ (by omega), w64 (by omega) (by omega), show a + (i : Int) + 1 = a + ((i + 1 : Nat) : Int) by omega]
    refine ih k (i + 1) _ (by omega) (by omega) (by simpa using hy) (fun j hj' => ?_)
    rw [show ((i : Int) : Int).toNat = i by omega]
    by_cases h : j = i
    · subst h
      rw [List.getElem?_set_self (by omega)]
    · rw [List.getElem?_set_ne (by omega)]
      exact hj j (by omega)
theorem laws_markIntS_v (l : List Int) (a : Int) (ha : 0 ≤ a) (ha' : a ≤ 1152921504606846976) (hn : l.length ≤ 1048576) {k : Nat} (hk : 1048576 < k) : laws_markIntS.f k l a = some (a + (l.length : Int), marks l.length a) := by
  unfold laws_markIntS.f
  have := laws_markIntS_l l.length a ha ha' (by omega) l.length k 0 l (by omega) (by omega) rfl (fun j hj => by omega)
  simpa using this
theorem laws_heldIntS_l (n : Nat) (a : Int) (ha : 0 ≤ a) (ha' : a ≤ 1152921504606846976) (hn : n ≤ 1152921504606846976) : ∀ (d k i : Nat), i + d = n → d < k →
    laws_heldIntS.l0 k (marks n a) (a + (i : Int)) (i : Int) = some (a + (n : Int)) := by
  intro d
  induction d with
  | zero =>
    intro k i hi hk
    obtain ⟨k, rfl⟩ := k_succ (by omega : 0 < k)
    simp only [laws_heldIntS.l0, marks_length]
    rw [if_neg (by omega), show i = n by omega]
  | succ d ih =>
    intro k i hi hk
    obtain ⟨k, rfl⟩ := k_succ (by omega : 0 < k)
    simp only [laws_heldIntS.l0, marks_length]
    rw [if_pos (by omega), if_pos (by omega), marks_rd (by omega), if_pos rfl, w64_succ (by omega), w64 (by omega) (by omega), show a + (i : Int) + 1 = a + ((i + 1 : Nat) : Int) by omega]
    exact ih k (i + 1) (by omega) (by omega)
theorem laws_heldIntS_v (n : Nat) (a : Int) (ha : 0 ≤ a) (ha' : a ≤ 1152921504606846976) (hn : n ≤ 1048576) {k : Nat} (hk : 1048576 < k) : laws_heldIntS.f k (marks n a) a = some (a + (n : Int)) := by
  unfold laws_heldIntS.f
  have := laws_heldIntS_l n a ha ha' (by omega) n k 0 (by omega) (by omega)
  simpa using this
theorem laws_markModel_v (X Y Z : Int) (t g r : List Int) (h3 : t.length ≤ 1048576) (h4 : g.length ≤ 1048576) (h5 : r.length ≤ 1048576) {k : Nat} (hk : 1048576 < k) :
    laws_markModel.f k X Y Z t g r 1 = some (1 + (t.length : Int) + (g.length : Int) + (r.length : Int), marks t.length 1, marks g.length (1 + (t.length : Int)), marks r.length (1 + (t.length : Int) + (g.length : Int))) := by
  unfold laws_markModel.f
  rw [laws_markIntS_v t 1 (by omega) (by omega) h3 hk, Option.bind_some, laws_markIntS_v g _ (by omega) (by omega) h4 hk, Option.bind_some, laws_markIntS_v r _ (by omega) (by omega) h5 hk]
  rfl
theorem laws_heldModel_v (X Y Z : Int) (a b c : Nat) (h3 : a ≤ 1048576) (h4 : b ≤ 1048576) (h5 : c ≤ 1048576) {k : Nat} (hk : 1048576 < k) :
    laws_heldModel.f k X Y Z (marks a 1) (marks b (1 + (a : Int))) (marks c (1 + (a : Int) + (b : Int))) 1 = some (1 + (a : Int) + (b : Int) + (c : Int)) := by
  unfold laws_heldModel.f
  rw [laws_heldIntS_v a 1 (by omega) (by omega) h3 hk, Option.bind_some, if_neg (by omega), laws_heldIntS_v b _ (by omega) (by omega) h4 hk, Option.bind_some, if_neg (by omega), laws_heldIntS_v c _ (by omega) (by omega) h5 hk, Option.bind_some, if_neg (by omega)]
def risF (n : Int) : Int → List Int → Bool
  | _, [] => true
  | p, x :: xs => decide (0 ≤ x ∧ x < n ∧ p < x) && risF n x xs
def risB (n : Int) (l : List Int) : Bool := risF n (-1) l
theorem risF_cons (n p x : Int) (xs : List Int) : risF n p (x :: xs) = (decide (0 ≤ x ∧ x < n ∧ p < x) && risF n x xs) := rfl
theorem risF_mem {n : Int} : ∀ {p : Int} {l : List Int}, risF n p l = true → ∀ x ∈ l, 0 ≤ x ∧ x < n
  | _, [], _, x, hx => by cases hx
  | p, y :: l, h, x, hx => by
    unfold risF at h
    rw [Bool.and_eq_true, decide_eq_true_eq] at h
    rcases List.mem_cons.1 hx with rfl | hx
    · exact ⟨h.1.1, h.1.2.1⟩
    · exact risF_mem h.2 x hx
theorem risF_len {n : Int} : ∀ {p : Int} {l : List Int}, -1 ≤ p → p < n → risF n p l = true → (l.length : Int) + p < n
  | p, [], h0, h1, _ => by simp; omega
  | p, x :: l, h0, h1, h => by
    unfold risF at h
    rw [Bool.and_eq_true, decide_eq_true_eq] at h
    have := risF_len (by omega) h.1.2.1 h.2
    simp only [List.length_cons]
    omega
theorem risB_mem {n : Int} {l : List Int} (h : risB n l = true) : ∀ x ∈ l, 0 ≤ x ∧ x < n := risF_mem h
theorem risB_len {n : Int} {l : List Int} (hn : 0 ≤ n) (h : risB n l = true) : (l.length : Int) ≤ n := by have := risF_len (by omega) (by omega) h; omega
def sumT (t l : List Int) : Int := (l.map (rd t)).sum
def sumM (t g l : List Int) : Int := (l.map fun i => rd t i * rd g i).sum
theorem sum_bd (f : Int → Int) (B : Int) (hB : 0 ≤ B) : ∀ (l : List Int), (∀ x ∈ l, 0 ≤ f x ∧ f x ≤ B) → 0 ≤ (l.map f).sum ∧ (l.map f).sum ≤ B * (l.length : Int)
  | [], _ => by simp
  | x :: l, h => by
    have h1 := h x (by simp)
    have h2 := sum_bd f B hB l (fun y hy => h y (by simp [hy]))
    simp only [List.map_cons, List.sum_cons, List.length_cons]
    have e : B * ((l.length + 1 : Nat) : Int) = B * (l.length : Int) + B := by
      rw [show ((l.length + 1 : Nat) : Int) = (l.length : Int) + 1 by omega, Int.mul_add, Int.mul_one]
    omega
def filtI (p : Int → Bool) : List Int → Nat → List Int
  | [], _ => []
  | x :: l, i => if p x = true then (i : Int) :: filtI p l (i + 1) else filtI p l (i + 1)
theorem filtI_pos {p : Int → Bool} {x : Int} {l : List Int} {i : Nat} (h : p x = true) : filtI p (x :: l) i = (i : Int) :: filtI p l (i + 1) := by rw [filtI, if_pos h]
theorem filtI_neg {p : Int → Bool} {x : Int} {l : List Int} {i : Nat} (h : ¬ p x = true) : filtI p (x :: l) i = filtI p l (i + 1) := by rw [filtI, if_neg h]
theorem filtI_len (p : Int → Bool) : ∀ (l : List Int) (i : Nat), (filtI p l i).length ≤ l.length
  | [], _ => by simp [filtI]
  | x :: l, i => by
    have := filtI_len p l (i + 1)
    unfold filtI
    split <;> simp <;> omega
theorem W0 : wrap64 (0 + 1) = 1 := w64 (by decide) (by decide)
theorem W1 : wrap64 (1 + 1) = 2 := w64 (by decide) (by decide)
theorem W2 : wrap64 (2 + 1) = 3 := w64 (by decide) (by decide)
theorem W3 : wrap64 (3 + 1) = 4 := w64 (by decide) (by decide)
theorem spec_l1Num_d {v : Int} (h0 : 0 ≤ v) (h1 : v < 10) (k : Nat) : spec_l1Num.f (k + 1) v = some (strOfNums [48 + v]) := by
  rw [spec_l1Num.f, if_pos h1, w64 (by omega) (by omega), show (48 + v) % 256 = 48 + v by omega]
theorem digit_size {v : Int} (h0 : 0 ≤ v) (h1 : v < 10) : (strOfNums [48 + v]).size = 1 := by
  have : v = 0 ∨ v = 1 ∨ v = 2 ∨ v = 3 ∨ v = 4 ∨ v = 5 ∨ v = 6 ∨ v = 7 ∨ v = 8 ∨ v = 9 := by omega
  rcases this with rfl | rfl | rfl | rfl | rfl | rfl | rfl | rfl | rfl | rfl <;> rfl
def gtextV (X Y Z : Int) : ByteArray := strOfNums [48 + X] ++ (⟨#[120]⟩ : ByteArray) ++ strOfNums [48 + Y] ++ (⟨#[120]⟩ : ByteArray) ++ strOfNums [48 + Z]
theorem spec_grText_v {X Y Z : Int} (h : gridB X Y Z = true) (k : Nat) : spec_grText.f (k + 1) X Y Z = some (gtextV X Y Z) := by
  obtain ⟨h1, h2, h3, h4, h5, h6, h7⟩ := gridB_t h
  have s1 := digit_size (by omega : 0 ≤ X) (by omega)
  have s2 := digit_size (by omega : 0 ≤ Y) (by omega)
  have s3 := digit_size (by omega : 0 ≤ Z) (by omega)
  have s0 : (⟨#[120]⟩ : ByteArray).size = 1 := rfl
  unfold spec_grText.f gtextV
  rw [spec_l1Num_d (by omega) (by omega), Option.bind_some, if_pos (by omega), spec_l1Num_d (by omega) (by omega), Option.bind_some]
  simp only [ByteArray.size_append, s0, s1, s2, s3]
  rw [if_pos (by omega), if_pos (by omega), spec_l1Num_d (by omega) (by omega), Option.bind_some]
  simp only [s3]
  rw [if_pos (by omega)]
def toBA (l : List UInt8) : ByteArray := ⟨l.toArray⟩
theorem toBA_data (s : ByteArray) : toBA s.data.toList = s := by cases s; simp [toBA]
def spl (c : UInt8) : List UInt8 → List UInt8 → List (List UInt8)
  | cur, [] => [cur]
  | cur, x :: xs => if x = c then cur :: spl c [] xs else spl c (cur ++ [x]) xs
theorem spl_ne (c : UInt8) : ∀ (l cur : List UInt8), spl c cur l ≠ []
  | [], cur => by simp [spl]
  | x :: xs, cur => by
    unfold spl
    split
    · simp
    · exact spl_ne c xs _
def joinC (c : UInt8) : List (List UInt8) → List UInt8
  | [] => []
  | [p] => p
  | p :: q :: r => p ++ c :: joinC c (q :: r)
theorem spl_join (c : UInt8) : ∀ (l cur : List UInt8), joinC c (spl c cur l) = cur ++ l
  | [], cur => by simp [spl, joinC]
  | x :: xs, cur => by
    unfold spl
    by_cases h : x = c
    · rw [if_pos h]
      have ih := spl_join c xs []
      obtain ⟨p, r, hp⟩ : ∃ p r, spl c [] xs = p :: r := by
        cases hs : spl c [] xs with
        | nil => exact absurd hs (spl_ne c xs [])
        | cons p r => exact ⟨p, r, rfl⟩
      rw [hp] at ih ⊢
      rw [joinC, ih, h]; rfl
    · rw [if_neg h, spl_join c xs]; simp
theorem bt_list (s : ByteArray) {i : Nat} (h : i < s.data.toList.length) : bt s (i : Int) = ((s.data.toList[i]).toNat : Int) := by
  unfold bt
  simp at h ⊢
  simp [h]
  rfl
theorem extract_toBA (s : ByteArray) (a i : Nat) : s.extract a i = toBA ((s.data.toList.drop a).take (i - a)) := by
  rw [← toBA_data (s.extract a i)]
  congr 1
  rw [ByteArray.data_extract, Array.toList_extract, List.extract_eq_take_drop]
theorem size_list (s : ByteArray) : s.size = s.data.toList.length := by cases s; simp [ByteArray.size]
theorem spec_l1Split_l (s : ByteArray) (hs : s.data.toList.length ≤ 1048576) : ∀ (d k i a : Nat) (acc : List ByteArray), i + d = s.data.toList.length → d < k → a ≤ i → acc.length ≤ i →
    spec_l1Split.l0 k s 44 acc (a : Int) (i : Int) = some (acc ++ (spl 44 ((s.data.toList.drop a).take (i - a)) (s.data.toList.drop i)).map toBA) := by
  have hsz := size_list s
  intro d
  induction d with
  | zero =>
    intro k i a acc hi hk ha hl
    obtain ⟨k, rfl⟩ := k_succ (by omega : 0 < k)
    rw [spec_l1Split.l0, if_neg (by omega), if_pos (by omega), if_pos (by omega), if_pos (by omega), List.drop_eq_nil_of_le (by omega : s.data.toList.length ≤ i)]
    rw [show ((a : Int)).toNat = a by omega, extract_toBA, show s.size = i by omega]
    rfl
  | succ d ih =>
    intro k i a acc hi hk ha hl
    obtain ⟨k, rfl⟩ := k_succ (by omega : 0 < k)
    have hil : i < s.data.toList.length := by omega
    have hd : s.data.toList.drop i = s.data.toList[i] :: s.data.toList.drop (i + 1) := List.drop_eq_getElem_cons hil
    rw [spec_l1Split.l0, if_pos (by omega), if_pos (by omega), bt_list s hil, hd]
    unfold spl
    by_cases h : s.data.toList[i] = 44
    · rw [if_pos h, if_pos (by rw [h]; rfl), if_pos (by omega), if_pos (by omega), if_pos (by omega), if_pos (by omega), w64_succ (by omega), ih k (i + 1) (i + 1) _ (by omega) (by omega) (by omega) (by simp; omega)]
      rw [show ((a : Int)).toNat = a by omega, show ((i : Int)).toNat = i by omega, extract_toBA, Nat.sub_self, List.take_zero, List.map_cons, List.append_assoc]
      rfl
    · rw [if_neg h, if_neg (fun e => h (UInt8.toNat_inj.1 (by show s.data.toList[i].toNat = 44; omega))), w64_succ (by omega), ih k (i + 1) a _ (by omega) (by omega) (by omega) (by omega)]
      congr 3
      rw [show i + 1 - a = (i - a) + 1 by omega, List.take_add_one, List.getElem?_drop, show a + (i - a) = i by omega, List.getElem?_eq_getElem hil]
      rfl
theorem spec_l1Split_v (s : ByteArray) (hs : s.size ≤ 1048576) {k : Nat} (hk : 1048576 < k) : spec_l1Split.f k s 44 = some ((spl 44 [] s.data.toList).map toBA) := by
  have hsz := size_list s
  unfold spec_l1Split.f
  have := spec_l1Split_l s (by omega) s.data.toList.length k 0 0 [] (by omega) (by omega) (by omega) (by simp)
  simpa using this
theorem toBA_list (p : List UInt8) : (toBA p).data.toList = p := by simp [toBA]
theorem toBA_size (p : List UInt8) : (toBA p).size = p.length := by simp [toBA, ByteArray.size]
theorem bt_toBA (p : List UInt8) {i : Nat} (h : i < p.length) : bt (toBA p) (i : Int) = ((p[i]).toNat : Int) := by
  rw [bt_list (toBA p) (by rw [toBA_list]; exact h)]
  simp [toBA_list]
theorem pow10_6 : ∀ i : Nat, i ≤ 6 → (10 : Int) ^ i ≤ 1000000 := by decide
theorem read_l (p : List UInt8) (hp : p.length ≤ 6) : ∀ (d k i : Nat) (n : Int), i + d = p.length → d < k → 0 ≤ n → n < (10 : Int) ^ i →
    ∃ v, spec_l1Read.l0 k (toBA p) n (i : Int) = some v ∧ (v = -1 ∨ n ≤ v) := by
  have hsz := toBA_size p
  intro d
  induction d with
  | zero =>
    intro k i n hi hk h0 h1
    obtain ⟨k, rfl⟩ := k_succ (by omega : 0 < k)
    rw [spec_l1Read.l0, if_neg (by omega)]
    exact ⟨n, rfl, .inr (Int.le_refl _)⟩
  | succ d ih =>
    intro k i n hi hk h0 h1
    obtain ⟨k, rfl⟩ := k_succ (by omega : 0 < k)
    have hb := bt_toBA p (show i < p.length by omega)
    have hpw := pow10_6 i (by omega)
    rw [spec_l1Read.l0, if_pos (by omega), if_pos (by omega), hb]
    by_cases c1 : ((p[i]).toNat : Int) < 48
    · rw [if_pos c1]; exact ⟨-1, rfl, .inl rfl⟩
    · rw [if_neg c1]
      by_cases c2 : ((p[i]).toNat : Int) > 57
      · rw [if_pos c2]; exact ⟨-1, rfl, .inl rfl⟩
      · rw [if_neg c2, w64 (x := 10 * n) (by omega) (by omega), w64 (x := 10 * n + _) (by omega) (by omega), w64_succ (by omega)]
        obtain ⟨v, e, hv⟩ := ih k (i + 1) (10 * n + (((p[i]).toNat : Int) - 48) % 256) (by omega) (by omega) (by omega) (by rw [Int.pow_succ]; omega)
        exact ⟨v, e, by rcases hv with hv | hv <;> omega⟩
theorem read_v (p : List UInt8) (k : Nat) (hk : 20 < k) : ∃ v, spec_l1Read.f k (toBA p) = some v ∧ (v = -1 ∨ 10 ≤ v ∨ ∃ b, p = [b] ∧ 48 ≤ b.toNat ∧ b.toNat ≤ 57 ∧ v = (b.toNat : Int) - 48) := by
  obtain ⟨k, rfl⟩ := k_succ (by omega : 0 < k)
  have hsz := toBA_size p
  unfold spec_l1Read.f
  rw [spec_l1In_v, Option.bind_some]
  by_cases hl : 1 ≤ p.length ∧ p.length ≤ 6
  · rw [if_pos (by rw [decide_eq_true_eq]; omega), if_pos (by omega)]
    match p, hl with
    | [b], _ =>
      have hb := bt_toBA [b] (i := 0) (by simp)
      have hj : spec_l1Read.j0 (k + 1) (toBA [b]) false = spec_l1Read.l0 k (toBA [b]) 0 0 := by rw [spec_l1Read.j0, if_neg (by decide)]
      have hd : decide (((toBA [b]).size : Int) > 1) = false := by rw [decide_eq_false_iff_not, hsz]; simp
      rw [hd, hj, ite_self]
      obtain ⟨k, rfl⟩ : ∃ m, k = m + 2 := ⟨k - 2, by omega⟩
      simp only [List.getElem_cons_zero] at hb
      rw [spec_l1Read.l0, if_pos (by rw [hsz]; simp), if_pos (by omega), show (0 : Int) = ((0 : Nat) : Int) from rfl, hb]
      by_cases c1 : (b.toNat : Int) < 48
      · rw [if_pos c1]; exact ⟨-1, rfl, .inl rfl⟩
      · rw [if_neg c1]
        by_cases c2 : (b.toNat : Int) > 57
        · rw [if_pos c2]; exact ⟨-1, rfl, .inl rfl⟩
        · rw [if_neg c2, spec_l1Read.l0, if_neg (by rw [hsz, w64 (by omega) (by omega)]; simp)]
          refine ⟨_, rfl, .inr (.inr ⟨b, rfl, by omega, by omega, ?_⟩)⟩
          rw [w64 (x := 10 * _) (by omega) (by omega), w64 (by omega) (by omega)]
          omega
    | b :: c :: r, hl =>
      have hb := bt_toBA (b :: c :: r) (i := 0) (by simp)
      have hc := bt_toBA (b :: c :: r) (i := 1) (by simp)
      simp only [List.getElem_cons_zero, List.getElem_cons_succ] at hb hc
      have hlen : (b :: c :: r).length = r.length + 2 := by simp
      by_cases z : bt (toBA (b :: c :: r)) 0 = 48
      · rw [if_pos z, decide_eq_true (by omega), spec_l1Read.j0, if_pos rfl]
        exact ⟨-1, rfl, .inl rfl⟩
      · rw [if_neg z, spec_l1Read.j0, if_neg (by decide)]
        obtain ⟨k, rfl⟩ : ∃ m, k = m + 2 := ⟨k - 2, by omega⟩
        have z' : ¬ ((b.toNat : Int) = 48) := fun e => z (hb.trans e)
        rw [spec_l1Read.l0, if_pos (by omega), if_pos (by omega), show (0 : Int) = ((0 : Nat) : Int) from rfl, hb]
        by_cases c1 : (b.toNat : Int) < 48
        · rw [if_pos c1]; exact ⟨-1, rfl, .inl rfl⟩
        · rw [if_neg c1]
          by_cases c2 : (b.toNat : Int) > 57
          · rw [if_pos c2]; exact ⟨-1, rfl, .inl rfl⟩
          · rw [if_neg c2, w64_succ (by omega), spec_l1Read.l0, if_pos (by omega), if_pos (by omega), hc]
            by_cases c3 : (c.toNat : Int) < 48
            · rw [if_pos c3]; exact ⟨-1, rfl, .inl rfl⟩
            · rw [if_neg c3]
              by_cases c4 : (c.toNat : Int) > 57
              · rw [if_pos c4]; exact ⟨-1, rfl, .inl rfl⟩
              · rw [if_neg c4, w64 (x := 10 * ((0 : Nat) : Int)) (by omega) (by omega), w64 (x := 10 * ((0 : Nat) : Int) + _) (by omega) (by omega), w64 (x := 10 * (10 * ((0 : Nat) : Int) + _)) (by omega) (by omega), w64 (x := 10 * (10 * ((0 : Nat) : Int) + _) + _) (by omega) (by omega), w64_succ (by omega)]
                obtain ⟨v, e, hv⟩ := read_l (b :: c :: r) (by omega) r.length k 2 (10 * (10 * ((0 : Nat) : Int) + ((b.toNat : Int) - 48) % 256) + ((c.toNat : Int) - 48) % 256) (by omega) (by omega) (by omega) (by omega)
                exact ⟨v, e, by rcases hv with hv | hv <;> omega⟩
  · rw [if_neg (by rw [decide_eq_true_eq]; omega), spec_l1Read.j0, if_pos rfl]
    exact ⟨-1, rfl, .inl rfl⟩
def numV (n : Int) : ByteArray := ⟨(Lib.decDigits n.toNat).toArray⟩
theorem decDigits_lt {u : Nat} (h : u < 10) : Lib.decDigits u = [UInt8.ofNat (48 + u)] := by rw [Lib.decDigits, dif_pos h]
theorem decDigits_ge {u : Nat} (h : 10 ≤ u) : Lib.decDigits u = Lib.decDigits (u / 10) ++ [UInt8.ofNat (48 + u % 10)] := by rw [Lib.decDigits, dif_neg (by omega)]
theorem numV_lt {v : Int} (h0 : 0 ≤ v) (h : v < 10) : numV v = strOfNums [48 + v] := by
  unfold numV strOfNums
  rw [decDigits_lt (by omega)]
  congr 3
  simp only [List.map_cons, List.map_nil]
  congr 2
  omega
theorem numV_ge {v : Int} (h : 10 ≤ v) : numV v = numV (v / 10) ++ strOfNums [48 + v % 10] := by
  unfold numV strOfNums
  rw [decDigits_ge (by omega)]
  apply ByteArray.ext
  simp only [ByteArray.data_append, List.map_cons, List.map_nil]
  rw [show (v / 10).toNat = v.toNat / 10 by omega, show (48 + v % 10).toNat = 48 + v.toNat % 10 by omega]
  simp
theorem numV_size {v : Int} (d : Nat) : 0 ≤ v → v < 10 ^ (d + 1) → (numV v).size ≤ d + 1 := by
  induction d generalizing v with
  | zero => intro h0 h; rw [numV_lt h0 (by simpa using h)]; exact Nat.le_refl _
  | succ d ih =>
    intro h0 h
    by_cases c : v < 10
    · rw [numV_lt h0 c]; show 1 ≤ _; omega
    · rw [numV_ge (by omega), ByteArray.size_append]
      have := ih (v := v / 10) (by omega) (by rw [Int.pow_succ] at h; omega)
      show _ + 1 ≤ _
      omega
theorem numV_size7 {v : Int} (h0 : 0 ≤ v) (h1 : v ≤ 1000000) : (numV v).size ≤ 7 := numV_size 6 h0 (by omega)
theorem spec_l1Num_u (d : Nat) : ∀ (v : Int) (k : Nat), 0 ≤ v → v < 10 ^ (d + 1) → v ≤ 1000000 → spec_l1Num.f (k + d + 1) v = some (numV v) := by
  induction d with
  | zero =>
    intro v k h0 h h1
    have h : v < 10 := by simpa using h
    rw [numV_lt h0 h]
    exact spec_l1Num_d h0 h k
  | succ d ih =>
    intro v k h0 h h1
    by_cases c : v < 10
    · rw [numV_lt h0 c]
      exact spec_l1Num_d h0 c (k + d + 1)
    · have e1 : Int.tdiv v 10 = v / 10 := Int.tdiv_eq_ediv_of_nonneg h0
      have e2 : Int.tmod v 10 = v % 10 := Int.tmod_eq_emod_of_nonneg h0
      have hs := numV_size7 (v := v / 10) (by omega) (by omega)
      rw [show k + (d + 1) + 1 = (k + d + 1) + 1 by omega, spec_l1Num.f, if_neg c, e1, w64 (by omega) (by omega), ih (v / 10) k (by omega) (by rw [Int.pow_succ] at h; omega) (by omega), Option.bind_some, Option.bind_some, e2, w64 (by omega) (by omega), show (48 + v % 10) % 256 = 48 + v % 10 by omega, if_pos (by have : (strOfNums [48 + v % 10]).size = 1 := rfl; omega), ← numV_ge (by omega)]
theorem spec_l1Num_v {v : Int} (h0 : 0 ≤ v) (h1 : v ≤ 1000000) {k : Nat} (hk : 7 ≤ k) : spec_l1Num.f k v = some (numV v) := by
  obtain ⟨j, rfl⟩ : ∃ j, k = j + 6 + 1 := ⟨k - 7, by omega⟩
  exact spec_l1Num_u 6 v j h0 (by omega) h1
def tripV (a b c : Int) : ByteArray := (((numV a ++ (⟨#[32]⟩ : ByteArray)) ++ numV b) ++ (⟨#[32]⟩ : ByteArray)) ++ numV c
theorem tripV_size {a b c : Int} (a0 : 0 ≤ a) (a1 : a ≤ 1000000) (b0 : 0 ≤ b) (b1 : b ≤ 1000000) (c0 : 0 ≤ c) (c1 : c ≤ 1000000) : (tripV a b c).size ≤ 23 := by
  have h1 := numV_size7 a0 a1
  have h2 := numV_size7 b0 b1
  have h3 := numV_size7 c0 c1
  have s0 : (⟨#[32]⟩ : ByteArray).size = 1 := rfl
  unfold tripV
  simp only [ByteArray.size_append, s0]
  omega
def moV (t g r : List Int) : Nat → Nat → ByteArray → ByteArray
  | 0, _, x => x
  | d + 1, i, x => moV t g r d (i + 1) (x ++ (tripV (rd t (i : Int)) (rd g (i : Int)) (rd r (i : Int)) ++ (⟨#[10]⟩ : ByteArray)))
theorem spec_moText_l {X Y Z : Int} {t g r : List Int} (hm : IsMod X Y Z t g r) (hn : t.length ≤ 1000) : ∀ (d i k : Nat) (x : ByteArray), i + d = t.length → d + 10 < k → x.size + 30 * d ≤ 1000000 →
    spec_moText.l0 k x t (t.length : Int) (i : Int) X Y Z t g r = some (moV t g r d i x) := by
  intro d
  induction d with
  | zero =>
    intro i k x hi hk hx
    obtain ⟨k, rfl⟩ := k_succ (by omega : 0 < k)
    simp only [spec_moText.l0]
    rw [if_neg (by omega)]
    rfl
  | succ d ih =>
    intro i k x hi hk hx
    obtain ⟨k, rfl⟩ := k_succ (by omega : 0 < k)
    have q1 := hm.rt (i := (i : Int)) (by omega) (by omega)
    have q2 := hm.rg (i := (i : Int)) (by omega) (by omega)
    have q3 := hm.rr (i := (i : Int)) (by omega) (by omega)
    have l1 := hm.lg
    have l2 := hm.lr
    have z1 := numV_size7 q1.1 (by omega)
    have z2 := numV_size7 q2.1 (by omega)
    have z3 := numV_size7 q3.1 (by omega)
    have s0 : (⟨#[10]⟩ : ByteArray).size = 1 := rfl
    have s1 : (⟨#[32]⟩ : ByteArray).size = 1 := rfl
    have ht := ih (i + 1) k (x ++ (tripV (rd t (i : Int)) (rd g (i : Int)) (rd r (i : Int)) ++ (⟨#[10]⟩ : ByteArray))) (by omega) (by omega) (by unfold tripV; simp only [ByteArray.size_append, s0, s1]; omega)
    unfold tripV at ht
    simp only [spec_moText.l0]
    rw [if_pos (by omega), if_pos (by omega), if_pos (by omega), spec_l1Num_v q1.1 (by omega) (by omega), Option.bind_some, if_pos (by omega), if_pos (by omega), spec_l1Num_v q2.1 (by omega) (by omega), Option.bind_some,
      if_pos (by simp only [ByteArray.size_append, s1]; omega), if_pos (by simp only [ByteArray.size_append, s1]; omega), if_pos (by omega), spec_l1Num_v q3.1 (by omega) (by omega), Option.bind_some,
      if_pos (by simp only [ByteArray.size_append, s1]; omega), if_pos (by simp only [ByteArray.size_append, s1]; omega), if_pos (by simp only [ByteArray.size_append, s0, s1]; omega), w64_succ (by omega), ht]
    rfl
def mtextV (X Y Z : Int) (t g r : List Int) : ByteArray := moV t g r t.length 0 (((⟨#[109, 111, 100, 101, 108, 32]⟩ : ByteArray) ++ gtextV X Y Z) ++ (⟨#[10]⟩ : ByteArray))
def mtextR (X Y Z : Int) (t g r : List Int) : ByteArray × Bool := if modelB X Y Z t g r = true then (mtextV X Y Z t g r, true) else (⟨#[]⟩, false)
theorem gtextV_size {X Y Z : Int} (h : gridB X Y Z = true) : (gtextV X Y Z).size = 5 := by
  obtain ⟨h1, h2, h3, h4, h5, h6, h7⟩ := gridB_t h
  have s1 := digit_size (by omega : 0 ≤ X) (by omega)
  have s2 := digit_size (by omega : 0 ≤ Y) (by omega)
  have s3 := digit_size (by omega : 0 ≤ Z) (by omega)
  have s0 : (⟨#[120]⟩ : ByteArray).size = 1 := rfl
  unfold gtextV
  simp only [ByteArray.size_append, s0, s1, s2, s3]
theorem IsMod.len {X Y Z : Int} {t g r : List Int} (h : modelB X Y Z t g r = true) : gridB X Y Z = true ∧ t.length ≤ 120 := by
  unfold modelB at h
  simp only [Bool.and_eq_true, decide_eq_true_eq] at h
  have hg := h.1.1
  obtain ⟨h1, h2, h3, h4, h5, h6, h7⟩ := gridB_t hg
  exact ⟨hg, by omega⟩
theorem spec_moText_v {X Y Z : Int} {t g r : List Int} (h : modelB X Y Z t g r = true) {k : Nat} (hk : 200 < k) : spec_moText.f k X Y Z t g r = some (mtextV X Y Z t g r) := by
  obtain ⟨hg, hl⟩ := IsMod.len h
  have sg := gtextV_size hg
  have s0 : (⟨#[109, 111, 100, 101, 108, 32]⟩ : ByteArray).size = 6 := rfl
  have s1 : (⟨#[10]⟩ : ByteArray).size = 1 := rfl
  obtain ⟨j, rfl⟩ := k_succ (by omega : 0 < k)
  unfold spec_moText.f
  rw [spec_grText_v hg, Option.bind_some, if_pos (by omega), if_pos (by rw [ByteArray.size_append, s0]; omega)]
  exact spec_moText_l (modelB_t h) (by omega) t.length 0 (j + 1) _ (by omega) (by omega) (by rw [ByteArray.size_append, ByteArray.size_append, s0, s1]; omega)
theorem spec_l1Split_g (c : UInt8) (s : ByteArray) (hs : s.data.toList.length ≤ 1048576) : ∀ (d k i a : Nat) (acc : List ByteArray), i + d = s.data.toList.length → d < k → a ≤ i → acc.length ≤ i →
    spec_l1Split.l0 k s (c.toNat : Int) acc (a : Int) (i : Int) = some (acc ++ (spl c ((s.data.toList.drop a).take (i - a)) (s.data.toList.drop i)).map toBA) := by
  have hsz := size_list s
  intro d
  induction d with
  | zero =>
    intro k i a acc hi hk ha hl
    obtain ⟨k, rfl⟩ := k_succ (by omega : 0 < k)
    rw [spec_l1Split.l0, if_neg (by omega), if_pos (by omega), if_pos (by omega), if_pos (by omega), List.drop_eq_nil_of_le (by omega : s.data.toList.length ≤ i)]
    rw [show ((a : Int)).toNat = a by omega, extract_toBA, show s.size = i by omega]
    rfl
  | succ d ih =>
    intro k i a acc hi hk ha hl
    obtain ⟨k, rfl⟩ := k_succ (by omega : 0 < k)
    have hil : i < s.data.toList.length := by omega
    have hd : s.data.toList.drop i = s.data.toList[i] :: s.data.toList.drop (i + 1) := List.drop_eq_getElem_cons hil
    rw [spec_l1Split.l0, if_pos (by omega), if_pos (by omega), bt_list s hil, hd]
    unfold spl
    by_cases h : s.data.toList[i] = c
    · rw [if_pos h, if_pos (by rw [h]), if_pos (by omega), if_pos (by omega), if_pos (by omega), if_pos (by omega), w64_succ (by omega), ih k (i + 1) (i + 1) _ (by omega) (by omega) (by omega) (by simp; omega)]
      rw [show ((a : Int)).toNat = a by omega, show ((i : Int)).toNat = i by omega, extract_toBA, Nat.sub_self, List.take_zero, List.map_cons, List.append_assoc]
      rfl
    · rw [if_neg h, if_neg (fun e => h (UInt8.toNat_inj.1 (by omega))), w64_succ (by omega), ih k (i + 1) a _ (by omega) (by omega) (by omega) (by omega)]
      congr 3
      rw [show i + 1 - a = (i - a) + 1 by omega, List.take_add_one, List.getElem?_drop, show a + (i - a) = i by omega, List.getElem?_eq_getElem hil]
      rfl
theorem l1Split_v (c : UInt8) (p : List UInt8) (hs : p.length ≤ 1048576) {k : Nat} (hk : 1048576 < k) : spec_l1Split.f k (toBA p) (c.toNat : Int) = some ((spl c [] p).map toBA) := by
  unfold spec_l1Split.f
  have := spec_l1Split_g c (toBA p) (by rw [toBA_list]; exact hs) p.length k 0 0 [] (by rw [toBA_list]; omega) (by omega) (by omega) (by simp)
  simpa [toBA_list] using this
/-- A number's digits, read. -/
def rdL : List UInt8 → Nat → Option Nat
  | [], n => some n
  | b :: t, n => if 48 ≤ b.toNat ∧ b.toNat ≤ 57 then rdL t (10 * n + (b.toNat - 48)) else none
theorem rdL_app : ∀ (p q : List UInt8) (n : Nat), rdL (p ++ q) n = (rdL p n).bind (rdL q)
  | [], q, n => rfl
  | b :: t, q, n => by
    rw [List.cons_append, rdL, rdL]
    by_cases h : 48 ≤ b.toNat ∧ b.toNat ≤ 57
    · rw [if_pos h, if_pos h, rdL_app t q]
    · rw [if_neg h, if_neg h]; rfl
theorem digit_byte {u : Nat} (h : u < 10) : (UInt8.ofNat (48 + u)).toNat = 48 + u := by simp; omega
theorem rdL_dec (n : Nat) : rdL (Lib.decDigits n) 0 = some n := by
  induction n using Nat.strongRecOn with
  | ind n ih =>
    by_cases h : n < 10
    · rw [decDigits_lt h, rdL, digit_byte h, if_pos (by omega), rdL]; congr 1; omega
    · rw [decDigits_ge (by omega), rdL_app, ih (n / 10) (by omega), Option.bind_some, rdL, digit_byte (by omega), if_pos (by omega), rdL]; congr 1; omega
theorem dec_ne (n : Nat) : Lib.decDigits n ≠ [] := by
  rw [Lib.decDigits]; split <;> simp
theorem dec_len (d : Nat) : ∀ n : Nat, n < 10 ^ (d + 1) → (Lib.decDigits n).length ≤ d + 1 := by
  induction d with
  | zero => intro n h; rw [decDigits_lt (by simpa using h)]; simp
  | succ d ih =>
    intro n h
    by_cases c : n < 10
    · rw [decDigits_lt c]; simp
    · rw [decDigits_ge (by omega), List.length_append]
      have := ih (n / 10) (by rw [Nat.pow_succ] at h; omega)
      simp only [List.length_cons, List.length_nil]; omega
theorem dec_mem (n : Nat) : ∀ b ∈ Lib.decDigits n, 48 ≤ b.toNat ∧ b.toNat ≤ 57 := by
  induction n using Nat.strongRecOn with
  | ind n ih =>
    intro b hb
    by_cases h : n < 10
    · rw [decDigits_lt h] at hb
      obtain rfl := List.mem_singleton.1 hb
      rw [digit_byte h]; omega
    · rw [decDigits_ge (by omega)] at hb
      rcases List.mem_append.1 hb with hb | hb
      · exact ih (n / 10) (by omega) b hb
      · obtain rfl := List.mem_singleton.1 hb
        rw [digit_byte (by omega)]; omega
theorem dec_head (n : Nat) : n ≠ 0 → (Lib.decDigits n).head? ≠ some 48 := by
  induction n using Nat.strongRecOn with
  | ind n ih =>
    intro h0
    by_cases h : n < 10
    · rw [decDigits_lt h]
      intro e
      have e := Option.some.inj e
      have := digit_byte h
      rw [e] at this
      have : (48 : Nat) = 48 + n := this
      omega
    · rw [decDigits_ge (by omega), List.head?_append]
      have := ih (n / 10) (by omega) (by omega)
      cases hh : (Lib.decDigits (n / 10)).head? with
      | none => exact absurd (List.head?_eq_none_iff.1 hh) (dec_ne _)
      | some x => rw [hh] at this; simpa using this
/-- A canonical number of at most 15 digits. -/
def decR (p : List UInt8) : Option Nat := if p = [] ∨ 15 < p.length ∨ (p.head? = some 48 ∧ 1 < p.length) then none else rdL p 0
theorem decR_dec {n : Nat} (h : n < 1000000000000000) : decR (Lib.decDigits n) = some n := by
  unfold decR
  have h1 := dec_len 14 n (by simpa using h)
  rw [if_neg, rdL_dec]
  rintro (e | e | ⟨e, f⟩)
  · exact dec_ne n e
  · omega
  · by_cases z : n = 0
    · rw [z, decDigits_lt (by omega)] at f; simp at f
    · exact dec_head n z e
theorem rdL_canon (p : List UInt8) : ∀ n, p ≠ [] → ¬ (p.head? = some 48 ∧ 1 < p.length) → rdL p 0 = some n → p = Lib.decDigits n := by
  induction hl : p.length using Nat.strongRecOn generalizing p with
  | ind l ih =>
    intro n h0 h1 h2
    subst hl
    rcases List.eq_nil_or_concat p with e | ⟨q, b, e⟩
    · exact absurd e h0
    · rw [List.concat_eq_append] at e
      subst e
      rw [rdL_app] at h2
      obtain ⟨m, hm, h3⟩ := Option.bind_eq_some_iff.1 h2
      rw [rdL] at h3
      by_cases hb : 48 ≤ b.toNat ∧ b.toNat ≤ 57
      · rw [if_pos hb, rdL] at h3
        have h3 := Option.some.inj h3
        have hbb : b = UInt8.ofNat (48 + (b.toNat - 48)) := UInt8.toNat_inj.1 (by rw [digit_byte (by omega)]; omega)
        cases q with
        | nil =>
          rw [rdL] at hm
          have hm := Option.some.inj hm
          rw [← h3, ← hm, decDigits_lt (by omega), List.nil_append]
          congr 1
          rw [show 10 * 0 + (b.toNat - 48) = b.toNat - 48 by omega]
          exact hbb
        | cons x q =>
          have hx : ¬ x = 48 := fun e => h1 ⟨by rw [e]; rfl, by simp⟩
          have hq := ih (x :: q).length (by simp) (x :: q) rfl m (by simp) (fun e => hx (by simpa using e.1)) hm
          have hmz : m ≠ 0 := by
            intro e
            rw [e, decDigits_lt (by omega)] at hq
            have := (List.cons.inj hq).1
            exact hx this
          rw [← h3, decDigits_ge (by omega), show (10 * m + (b.toNat - 48)) / 10 = m by omega, show (10 * m + (b.toNat - 48)) % 10 = b.toNat - 48 by omega, ← hq, ← hbb]
      · rw [if_neg hb] at h3; cases h3
theorem of_decR {p : List UInt8} {n : Nat} (h : decR p = some n) : p = Lib.decDigits n := by
  unfold decR at h
  by_cases c : p = [] ∨ 15 < p.length ∨ (p.head? = some 48 ∧ 1 < p.length)
  · rw [if_pos c] at h; cases h
  · rw [if_neg c] at h
    exact rdL_canon p n (fun e => c (.inl e)) (fun e => c (.inr (.inr e))) h
theorem spl_skip (c : UInt8) : ∀ (p cur r : List UInt8), c ∉ p → spl c cur (p ++ r) = spl c (cur ++ p) r
  | [], cur, r, _ => by simp
  | x :: p, cur, r, h => by
    rw [List.cons_append, spl, if_neg (fun e => h (by rw [e]; simp)), spl_skip c p _ r (fun e => h (List.mem_cons_of_mem _ e))]
    simp
theorem spl_cut (c : UInt8) (p r : List UInt8) (h : c ∉ p) : spl c [] (p ++ c :: r) = p :: spl c [] r := by
  rw [spl_skip c p [] _ h, spl, if_pos rfl]; rfl
theorem spl_end (c : UInt8) (p : List UInt8) (h : c ∉ p) : spl c [] p = [p] := by
  have := spl_skip c p [] [] h
  rw [List.append_nil] at this
  rw [this, spl]; rfl
theorem dec_no (n : Nat) {c : UInt8} (hc : c.toNat < 48 ∨ 57 < c.toNat) : c ∉ Lib.decDigits n := fun h => by have := dec_mem n c h; omega
def tripL (x : Nat × Nat × Nat) : List UInt8 := Lib.decDigits x.1 ++ 32 :: (Lib.decDigits x.2.1 ++ 32 :: Lib.decDigits x.2.2)
def trip3 (p : List UInt8) : Option (Nat × Nat × Nat) := match spl 32 [] p with
  | [a, b, c] => (decR a).bind fun x => (decR b).bind fun y => (decR c).bind fun z => some (x, y, z)
  | _ => none
theorem spl_trip (x : Nat × Nat × Nat) : spl 32 [] (tripL x) = [Lib.decDigits x.1, Lib.decDigits x.2.1, Lib.decDigits x.2.2] := by
  have h32 : ∀ n, (32 : UInt8) ∉ Lib.decDigits n := fun n => dec_no n (.inl (by decide))
  unfold tripL
  rw [spl_cut 32 _ _ (h32 _), spl_cut 32 _ _ (h32 _), spl_end 32 _ (h32 _)]
theorem trip3_of {x : Nat × Nat × Nat} (h1 : x.1 < 1000000000000000) (h2 : x.2.1 < 1000000000000000) (h3 : x.2.2 < 1000000000000000) : trip3 (tripL x) = some x := by
  unfold trip3
  rw [spl_trip]
  simp only [decR_dec h1, decR_dec h2, decR_dec h3, Option.bind_some]
theorem of_trip3 {p : List UInt8} {x : Nat × Nat × Nat} (h : trip3 p = some x) : p = tripL x := by
  have hj := spl_join 32 p []
  unfold trip3 at h
  split at h
  · rename_i a b c e
    rw [e] at hj
    obtain ⟨x1, h1, h⟩ := Option.bind_eq_some_iff.1 h
    obtain ⟨x2, h2, h⟩ := Option.bind_eq_some_iff.1 h
    obtain ⟨x3, h3, h⟩ := Option.bind_eq_some_iff.1 h
    obtain rfl := Option.some.inj h
    rw [of_decR h1, of_decR h2, of_decR h3] at hj
    simpa [joinC, tripL] using hj.symm
  · cases h
theorem no10_trip (x : Nat × Nat × Nat) : (10 : UInt8) ∉ tripL x := by
  have h10 : ∀ n, (10 : UInt8) ∉ Lib.decDigits n := fun n => dec_no n (.inl (by decide))
  unfold tripL
  simp [h10]
def allT : List (List UInt8) → Option (List (Nat × Nat × Nat))
  | [] => some []
  | p :: ps => (trip3 p).bind fun x => (allT ps).bind fun l => some (x :: l)
theorem of_allT : ∀ {ps : List (List UInt8)} {l : List (Nat × Nat × Nat)}, allT ps = some l → ps = l.map tripL
  | [], l, h => by obtain rfl := Option.some.inj h; rfl
  | p :: ps, l, h => by
    rw [allT] at h
    obtain ⟨x, h1, h⟩ := Option.bind_eq_some_iff.1 h
    obtain ⟨m, h2, h⟩ := Option.bind_eq_some_iff.1 h
    obtain rfl := Option.some.inj h
    rw [of_trip3 h1, of_allT h2]; rfl
theorem allT_of : ∀ {l : List (Nat × Nat × Nat)}, (∀ x ∈ l, x.1 < 1000000000000000 ∧ x.2.1 < 1000000000000000 ∧ x.2.2 < 1000000000000000) → allT (l.map tripL) = some l
  | [], _ => rfl
  | x :: l, h => by
    have h0 := h x (by simp)
    rw [List.map_cons, allT, trip3_of h0.1 h0.2.1 h0.2.2, Option.bind_some, allT_of (fun y hy => h y (List.mem_cons_of_mem _ hy)), Option.bind_some]
/-- Lines, each with its newline. -/
def flatL (ls : List (List UInt8)) : List UInt8 := ls.flatMap (· ++ [10])
theorem spl_flat : ∀ (ls : List (List UInt8)), (∀ p ∈ ls, (10 : UInt8) ∉ p) → spl 10 [] (flatL ls) = ls ++ [[]]
  | [], _ => rfl
  | p :: ls, h => by
    have : flatL (p :: ls) = p ++ 10 :: flatL ls := by simp [flatL]
    rw [this, spl_cut 10 _ _ (h p (by simp)), spl_flat ls (fun q hq => h q (List.mem_cons_of_mem _ hq))]; rfl
theorem flat_join : ∀ (ls : List (List UInt8)), ls ≠ [] → flatL ls = joinC 10 ls ++ [10]
  | [], h => absurd rfl h
  | [p], _ => by simp [flatL, joinC]
  | p :: q :: r, _ => by
    have := flat_join (q :: r) (by simp)
    have e : flatL (p :: q :: r) = p ++ 10 :: flatL (q :: r) := by simp [flatL]
    rw [e, this, joinC]; simp
theorem spl_joinC : ∀ (ls : List (List UInt8)), ls ≠ [] → (∀ p ∈ ls, (10 : UInt8) ∉ p) → spl 10 [] (joinC 10 ls) = ls
  | [], h, _ => absurd rfl h
  | [p], _, h => by rw [joinC, spl_end 10 p (h p (by simp))]
  | p :: q :: r, _, h => by
    rw [joinC, spl_cut 10 _ _ (h p (by simp)), spl_joinC (q :: r) (by simp) (fun x hx => h x (List.mem_cons_of_mem _ hx))]
/-- The head line. -/
def modelW : List UInt8 := [109, 111, 100, 101, 108, 32]
def x2s (b : UInt8) : UInt8 := if b = 120 then 32 else b
def headL (x : Nat × Nat × Nat) : List UInt8 := modelW ++ (Lib.decDigits x.1 ++ 120 :: (Lib.decDigits x.2.1 ++ 120 :: Lib.decDigits x.2.2))
def headR (p : List UInt8) : Option (Nat × Nat × Nat) := if modelW.isPrefixOf p = true then (if (32 : UInt8) ∈ p.drop 6 then none else trip3 ((p.drop 6).map x2s)) else none
theorem map_dec (f : UInt8 → UInt8) (hf : ∀ b : UInt8, 48 ≤ b.toNat → b.toNat ≤ 57 → f b = b) (n : Nat) : (Lib.decDigits n).map f = Lib.decDigits n := by
  rw [List.map_congr_left (g := id) (fun b hb => hf b (dec_mem n b hb).1 (dec_mem n b hb).2), List.map_id]
theorem x2s_dec (n : Nat) : (Lib.decDigits n).map x2s = Lib.decDigits n := map_dec x2s (fun b h1 h2 => by unfold x2s; rw [if_neg]; intro e; rw [e] at h2; exact absurd h2 (by decide)) n
theorem headR_of {x : Nat × Nat × Nat} (h1 : x.1 < 1000000000000000) (h2 : x.2.1 < 1000000000000000) (h3 : x.2.2 < 1000000000000000) : headR (headL x) = some x := by
  unfold headR headL
  have h32 : ∀ n, (32 : UInt8) ∉ Lib.decDigits n := fun n => dec_no n (.inl (by decide))
  have hp : modelW.isPrefixOf (modelW ++ (Lib.decDigits x.1 ++ 120 :: (Lib.decDigits x.2.1 ++ 120 :: Lib.decDigits x.2.2))) = true := by rw [List.isPrefixOf_iff_prefix]; exact List.prefix_append _ _
  have hd : (modelW ++ (Lib.decDigits x.1 ++ 120 :: (Lib.decDigits x.2.1 ++ 120 :: Lib.decDigits x.2.2))).drop 6 = Lib.decDigits x.1 ++ 120 :: (Lib.decDigits x.2.1 ++ 120 :: Lib.decDigits x.2.2) := rfl
  rw [if_pos hp, hd, if_neg (by simp [h32])]
  rw [List.map_append, List.map_cons, List.map_append, List.map_cons, x2s_dec, x2s_dec, x2s_dec]
  exact trip3_of h1 h2 h3
def s2x (b : UInt8) : UInt8 := if b = 32 then 120 else b
theorem s2x_x2s {b : UInt8} (h : b ≠ 32) : s2x (x2s b) = b := by
  by_cases c : b = 120
  · rw [c]; rfl
  · have e : x2s b = b := if_neg c
    rw [e]; exact if_neg h
theorem s2x_dec (n : Nat) : (Lib.decDigits n).map s2x = Lib.decDigits n := map_dec s2x (fun b h1 h2 => by unfold s2x; rw [if_neg]; intro e; rw [e] at h1; exact absurd h1 (by decide)) n
theorem of_headR {p : List UInt8} {x : Nat × Nat × Nat} (h : headR p = some x) : p = headL x := by
  unfold headR at h
  by_cases h1 : modelW.isPrefixOf p = true
  · rw [if_pos h1] at h
    by_cases h2 : (32 : UInt8) ∈ p.drop 6
    · rw [if_pos h2] at h; cases h
    · rw [if_neg h2] at h
      have e := of_trip3 h
      obtain ⟨q, rfl⟩ := List.isPrefixOf_iff_prefix.1 h1
      have hd : (modelW ++ q).drop 6 = q := rfl
      rw [hd] at e h2
      have hb : (q.map x2s).map s2x = q := by
        rw [List.map_map]
        conv => rhs; rw [← List.map_id q]
        refine List.map_congr_left fun b hb => ?_
        exact s2x_x2s (fun e => h2 (e ▸ hb))
      rw [e] at hb
      unfold tripL at hb
      rw [List.map_append, List.map_cons, List.map_append, List.map_cons, s2x_dec, s2x_dec, s2x_dec] at hb
      unfold headL
      rw [← hb]; rfl
  · rw [if_neg h1] at h; cases h
theorem pow10_15 : ∀ i : Nat, i ≤ 15 → 10 ^ i ≤ 1000000000000000 := by decide
def decOut (o : Option Nat) : Int × Bool := match o with
  | none => (0, false)
  | some m => ((m : Int), true)
theorem impl_decimal_l (p : List UInt8) (hp : p.length ≤ 15) : ∀ (d k i n : Nat), i + d = p.length → d < k → n < 10 ^ i →
    impl_decimal.l0 k (toBA p) (n : Int) (i : Int) = some (decOut (rdL (p.drop i) n)) := by
  have hsz := toBA_size p
  intro d
  induction d with
  | zero =>
    intro k i n hi hk h1
    obtain ⟨k, rfl⟩ := k_succ (by omega : 0 < k)
    rw [impl_decimal.l0, if_neg (by omega), List.drop_eq_nil_of_le (by omega)]; rfl
  | succ d ih =>
    intro k i n hi hk h1
    obtain ⟨k, rfl⟩ := k_succ (by omega : 0 < k)
    have hil : i < p.length := by omega
    have hb := bt_toBA p hil
    have hpw := pow10_15 i (by omega)
    have hd : p.drop i = p[i] :: p.drop (i + 1) := List.drop_eq_getElem_cons hil
    have hbl : (p[i]).toNat < 256 := UInt8.toNat_lt _
    rw [impl_decimal.l0, if_pos (by omega), if_pos (by omega), hb, hd, rdL]
    by_cases c1 : ((p[i]).toNat : Int) < 48
    · rw [if_pos c1, if_neg (by omega)]; rfl
    · rw [if_neg c1]
      by_cases c2 : ((p[i]).toNat : Int) > 57
      · rw [if_pos c2, if_neg (by omega)]; rfl
      · rw [if_neg c2, if_pos (by omega), w64 (x := 10 * (n : Int)) (by omega) (by omega), w64 (x := 10 * (n : Int) + _) (by omega) (by omega), w64_succ (by omega),
          show 10 * (n : Int) + (((p[i]).toNat : Int) - 48) % 256 = ((10 * n + ((p[i]).toNat - 48) : Nat) : Int) by omega]
        exact ih k (i + 1) _ (by omega) (by omega) (by rw [Nat.pow_succ]; omega)
theorem impl_decimal_v (p : List UInt8) {k : Nat} (hk : 20 < k) : impl_decimal.f k (toBA p) = some (decOut (decR p)) := by
  obtain ⟨k, rfl⟩ := k_succ (by omega : 0 < k)
  have hsz := toBA_size p
  have hl : (toBA p).toList = p := by rw [ByteArray.toList_eq]; exact toBA_list p
  unfold impl_decimal.f decR
  rw [hl]
  by_cases h0 : p = []
  · rw [if_pos h0, if_pos (.inl h0), impl_decimal.j0, if_pos rfl]; rfl
  · rw [if_neg h0]
    by_cases h1 : p.length > 15
    · rw [if_pos (by omega), if_pos (.inr (.inl h1)), impl_decimal.j0, if_pos rfl]; rfl
    · rw [if_neg (by omega)]
      have hpos : 0 < p.length := List.length_pos_iff.2 h0
      have hb := bt_toBA p hpos
      rw [if_pos (by omega), show (0 : Int) = ((0 : Nat) : Int) from rfl, hb]
      have hrun : impl_decimal.j0 (k + 1) (toBA p) false = some (decOut (rdL p 0)) := by
        rw [impl_decimal.j0, if_neg (by decide)]
        have := impl_decimal_l p (by omega) p.length k 0 0 (by omega) (by omega) (by omega)
        simpa using this
      have hh : p.head? = some p[0] := by rw [List.head?_eq_getElem?, List.getElem?_eq_getElem hpos]
      by_cases z : p[0] = 48
      · rw [if_pos (by rw [z]; rfl)]
        by_cases h2 : 1 < p.length
        · rw [decide_eq_true (by omega), if_pos (.inr (.inr ⟨by rw [hh, z], h2⟩)), impl_decimal.j0, if_pos rfl]; rfl
        · rw [decide_eq_false (by omega), hrun, if_neg]
          rintro (e | e | ⟨_, e⟩)
          · exact h0 e
          · exact h1 e
          · exact h2 e
      · rw [if_neg (fun e => z (UInt8.toNat_inj.1 (by show p[0].toNat = 48; omega))), hrun, if_neg]
        rintro (e | e | ⟨e, _⟩)
        · exact h0 e
        · exact h1 e
        · rw [hh] at e; exact z (Option.some.inj e)
theorem index_one_cons (b c : UInt8) (l : List UInt8) : Lib.index (b :: l) [c] = if b = c then 0 else if Lib.index l [c] = -1 then -1 else Lib.index l [c] + 1 := by
  rw [Lib.index]
  by_cases h : b = c
  · rw [if_pos h, if_pos (by simp [h])]
  · rw [if_neg h, if_neg (by simp; exact fun e => h e.symm)]
    by_cases h2 : Lib.index l [c] = -1
    · rw [if_pos h2, if_pos (beq_iff_eq.2 h2)]
    · rw [if_neg h2, if_neg (fun e => h2 (beq_iff_eq.1 e))]
theorem count_one_cons (b c : UInt8) (l : List UInt8) : Lib.count (b :: l) [c] = (if b = c then 1 else 0) + Lib.count l [c] := by
  rw [Lib.count_one, Lib.count_one, List.count_cons]
  by_cases h : b = c
  · simp [h]; omega
  · simp [h]
theorem splitK_spl (c : UInt8) : ∀ (l cur : List UInt8), (match Lib.splitK [c] 0 (Lib.count l [c]) l with | [] => [] | p :: ps => (cur ++ p) :: ps) = spl c cur l
  | [], cur => by
    have : Lib.count [] [c] = 0 := by rw [Lib.count_one]; rfl
    rw [this]; simp [Lib.splitK, spl]
  | b :: l, cur => by
    rw [spl, count_one_cons]
    by_cases h : b = c
    · rw [if_pos h, if_pos h, show 1 + Lib.count l [c] = Lib.count l [c] + 1 by omega, Lib.splitK, index_one_cons, if_pos h, if_neg (by decide), ← splitK_spl c l []]
      simp only [Int.toNat_zero, Nat.zero_add, List.take_zero, List.append_nil, List.length_cons, List.length_nil, List.drop_succ_cons, List.drop_zero]
      congr 1
      cases Lib.splitK [c] 0 (Lib.count l [c]) l <;> simp
    · rw [if_neg h, if_neg h, Nat.zero_add, ← splitK_spl c l (cur ++ [b])]
      cases hc : Lib.count l [c] with
      | zero => simp [Lib.splitK]
      | succ m =>
        have hne : Lib.index l [c] ≠ -1 := by
          intro e
          have h0 : Lib.count l [c] = 0 := by
            rw [Lib.index_one] at e
            rw [Lib.count_one, List.count_eq_zero]
            intro hm
            obtain ⟨k, hk, hk2⟩ := List.getElem_of_mem hm
            exact Lib.indexByte_none e k (by rw [List.getElem?_eq_getElem hk, hk2])
          omega
        have hge := Lib.index_ge l [c]
        rw [Lib.splitK, Lib.splitK, index_one_cons, if_neg h, if_neg hne, if_neg (fun e => by have := beq_iff_eq.1 e; omega), if_neg (fun e => hne (beq_iff_eq.1 e))]
        simp only [Nat.add_zero]
        rw [show (Lib.index l [c] + 1).toNat = (Lib.index l [c]).toNat + 1 by omega]
        simp only [List.take_succ_cons, List.append_assoc, List.cons_append, List.nil_append, List.length_cons, List.length_nil, Nat.zero_add, List.drop_succ_cons]
theorem strings_Split_v (c : UInt8) (p : List UInt8) (hp : p.length ≤ 4294967280) : strings_Split.f (toBA p) (⟨#[c]⟩ : ByteArray) = some ((spl c [] p).map toBA) := by
  unfold strings_Split.f
  rw [if_pos (by rw [toBA_size]; omega), if_pos (show 1 ≤ (⟨#[c]⟩ : ByteArray).size from Nat.le_refl 1)]
  congr 1
  have h1 := Lib.splitB_data (⟨#[c]⟩ : ByteArray) 0 (Lib.countB (toBA p) (⟨#[c]⟩ : ByteArray)) (toBA p)
  have hc : Lib.countB (toBA p) (⟨#[c]⟩ : ByteArray) = Lib.count p [c] := by unfold Lib.countB; rw [toBA_list]
  rw [hc, toBA_list] at h1
  have h2 := splitK_spl c p []
  have h3 : Lib.splitK [c] 0 (Lib.count p [c]) p = spl c [] p := by
    rw [← h2]; cases Lib.splitK [c] 0 (Lib.count p [c]) p <;> simp
  rw [← h3, show [c] = (⟨#[c]⟩ : ByteArray).data.toList from rfl, ← h1, hc, List.map_map]
  conv => lhs; rw [← List.map_id (Lib.splitB _ _ _ _)]
  exact List.map_congr_left fun s _ => (toBA_data s).symm
theorem replaceK_x (c d : UInt8) : ∀ (l : List UInt8), Lib.replaceK [c] [d] (Lib.count l [c]) l = l.map (fun b => if b = c then d else b)
  | [] => by
    have : Lib.count [] [c] = 0 := by rw [Lib.count_one]; rfl
    rw [this]; rfl
  | b :: l => by
    rw [count_one_cons, List.map_cons]
    by_cases h : b = c
    · rw [if_pos h, if_pos h, show 1 + Lib.count l [c] = Lib.count l [c] + 1 by omega, Lib.replaceK, index_one_cons, if_pos h, if_neg (by decide), ← replaceK_x c d l]
      simp
    · rw [if_neg h, if_neg h, Nat.zero_add, ← replaceK_x c d l]
      cases hc : Lib.count l [c] with
      | zero => simp [Lib.replaceK]
      | succ m =>
        have hne : Lib.index l [c] ≠ -1 := by
          intro e
          have h0 : Lib.count l [c] = 0 := by
            rw [Lib.index_one] at e
            rw [Lib.count_one, List.count_eq_zero]
            intro hm
            obtain ⟨k, hk, hk2⟩ := List.getElem_of_mem hm
            exact Lib.indexByte_none e k (by rw [List.getElem?_eq_getElem hk, hk2])
          omega
        have hge := Lib.index_ge l [c]
        rw [Lib.replaceK, Lib.replaceK, index_one_cons, if_neg h, if_neg hne, if_neg (fun e => by have := beq_iff_eq.1 e; omega), if_neg (fun e => hne (beq_iff_eq.1 e))]
        rw [show (Lib.index l [c] + 1).toNat = (Lib.index l [c]).toNat + 1 by omega]
        simp
theorem strings_ReplaceAll_v (p : List UInt8) (hp : p.length ≤ 4294967280) : strings_ReplaceAll.f (toBA p) (⟨#[120]⟩ : ByteArray) (⟨#[32]⟩ : ByteArray) = some (toBA (p.map x2s)) := by
  unfold strings_ReplaceAll.f
  rw [if_pos (by rw [toBA_size]; omega), if_pos (show 1 ≤ (⟨#[120]⟩ : ByteArray).size from Nat.le_refl 1), if_pos (show (⟨#[32]⟩ : ByteArray).size ≤ 1 from Nat.le_refl 1), toBA_list]
  congr 1
  unfold Lib.replaceAll Lib.replace Lib.replaceNum
  rw [if_neg (by decide), if_pos (.inl (by decide))]
  show toBA (Lib.replaceK [120] [32] (Lib.count p [120]) p) = _
  rw [replaceK_x]; rfl
theorem strings_Contains_v (p : List UInt8) : strings_Contains.f (toBA p) (⟨#[32]⟩ : ByteArray) = some (decide ((32 : UInt8) ∈ p)) := by
  unfold strings_Contains.f
  rw [if_pos (show (⟨#[32]⟩ : ByteArray).size = 1 from rfl), toBA_list]
  congr 1
  rw [decide_eq_decide]
  show 0 ≤ Lib.indexByte p 32 ↔ _
  constructor
  · intro h
    obtain ⟨o, ho⟩ := Int.eq_ofNat_of_zero_le h
    exact List.mem_of_getElem? (Lib.indexByte_some ho).1
  · intro h
    have hge := Lib.indexByte_ge p 32
    rcases Int.lt_or_le (Lib.indexByte p 32) 0 with h1 | h1
    · obtain ⟨k, hk, hk2⟩ := List.getElem_of_mem h
      exact absurd (by rw [List.getElem?_eq_getElem hk, hk2]) (Lib.indexByte_none (by omega : Lib.indexByte p 32 = -1) k)
    · exact h1
theorem toL (s : ByteArray) : s.toList = s.data.toList := ByteArray.toList_eq s
theorem extract_pre (p : List UInt8) (n : Nat) : (toBA p).extract 0 n = toBA (p.take n) := by
  rw [extract_toBA, toBA_list]; simp
theorem extract_suf (p : List UInt8) (n : Nat) : (toBA p).extract n (toBA p).size = toBA (p.drop n) := by
  rw [extract_toBA, toBA_list, toBA_size, List.take_of_length_le (by simp)]
theorem strings_CutPrefix_v (p : List UInt8) (hp : p.length ≤ 1048576) : strings_CutPrefix.f (toBA p) (⟨#[109, 111, 100, 101, 108, 32]⟩ : ByteArray) = some (if modelW.isPrefixOf p = true then (toBA (p.drop 6), true) else (toBA p, false)) := by
  have hsz := toBA_size p
  have h6 : (⟨#[109, 111, 100, 101, 108, 32]⟩ : ByteArray).size = 6 := rfl
  have hw : (⟨#[109, 111, 100, 101, 108, 32]⟩ : ByteArray).toList = modelW := by rw [toL]; rfl
  unfold strings_CutPrefix.f stringslite_CutPrefix.f stringslite_HasPrefix.f
  rw [h6]
  by_cases hl : (6 : Int) ≤ p.length
  · rw [if_pos (by omega), if_pos (by omega), if_pos (by omega), Option.bind_some, hw, show ((6 : Nat) : Int).toNat = 6 from rfl, extract_pre, toL, toBA_list, extract_suf, if_pos (show (0 : Int) ≤ ((6 : Nat) : Int) by omega), if_pos (show ((6 : Nat) : Int) ≤ ((toBA p).size : Int) by omega)]
    by_cases h : modelW.isPrefixOf p = true
    · have hb : (p.take 6 == modelW) = true := by
        obtain ⟨q, rfl⟩ := List.isPrefixOf_iff_prefix.1 h
        rfl
      rw [hb, if_pos rfl, if_pos h]; rfl
    · have hb : (p.take 6 == modelW) = false := by
        rw [beq_eq_false_iff_ne]
        intro e
        exact h (List.isPrefixOf_iff_prefix.2 ⟨p.drop 6, by rw [← e, List.take_append_drop]⟩)
      rw [hb, if_neg (by decide), if_neg h]; rfl
  · rw [if_neg (by omega), Option.bind_some, if_neg (by decide), if_neg]
    · rfl
    · intro h
      have := (List.isPrefixOf_iff_prefix.1 h).length_le
      have : 6 ≤ p.length := this
      omega
abbrev ModOut := Int × Int × Int × List Int × List Int × List Int × Bool
def zeroM : ModOut := (0, 0, 0, [], [], [], false)
def tripOut (o : Option (Nat × Nat × Nat)) : List Int × Bool := match o with
  | none => ([], false)
  | some x => ([(x.1 : Int), (x.2.1 : Int), (x.2.2 : Int)], true)
theorem rdOf_cons0 (a : ByteArray) (l : List ByteArray) : rdOf ByteArray.empty (a :: l) 0 = a := rfl
theorem rdOf_map (ys : List (List UInt8)) {i : Nat} (h : i < ys.length) : rdOf ByteArray.empty (ys.map toBA) (i : Int) = toBA ys[i] := by
  unfold rdOf
  rw [show ((i : Int)).toNat = i by omega, List.getD_eq_getElem?_getD, List.getElem?_map, List.getElem?_eq_getElem h]; rfl
theorem impl_decimals_v (p : List UInt8) (hp : p.length ≤ 1048576) {k : Nat} (hk : 40 < k) : impl_decimals.f k (toBA p) 3 = some (tripOut (trip3 p)) := by
  unfold impl_decimals.f
  rw [strings_Split_v 32 p (by omega), Option.bind_some, List.length_map]
  unfold trip3
  by_cases h3 : (spl 32 [] p).length = 3
  · obtain ⟨a, b, c, e⟩ : ∃ a b c, spl 32 [] p = [a, b, c] := by
      match hh : spl 32 [] p, h3 with
      | [a, b, c], _ => exact ⟨a, b, c, rfl⟩
    rw [e]
    obtain ⟨j, rfl⟩ : ∃ j, k = j + 4 := ⟨k - 4, by omega⟩
    have hj : ∀ m, m ≤ 3 → 20 < j + m := fun m _ => by omega
    rw [if_pos (by simp)]
    have r0 : rdOf ByteArray.empty [toBA a, toBA b, toBA c] 0 = toBA a := rfl
    have r1 : rdOf ByteArray.empty [toBA a, toBA b, toBA c] 1 = toBA b := rfl
    have r2 : rdOf ByteArray.empty [toBA a, toBA b, toBA c] 2 = toBA c := rfl
    have w0 : wrap64 (0 + 1) = 1 := w64 (by omega) (by omega)
    have w1 : wrap64 (1 + 1) = 2 := w64 (by omega) (by omega)
    have w2 : wrap64 (2 + 1) = 3 := w64 (by omega) (by omega)
    simp only [List.map_cons, List.map_nil, List.length_cons, List.length_nil]
    rw [impl_decimals.l0]
    simp (decide := true) only [r0, if_true, List.length_cons, List.length_nil, impl_decimal_v a (k := j + 3) (by omega), Option.bind_some, w0]
    cases ha : decR a with
    | none => simp [decOut, tripOut]
    | some x =>
      simp (decide := true) only [decOut, if_true, List.nil_append, Option.bind_some]
      rw [impl_decimals.l0]
      simp (decide := true) only [r1, if_true, List.length_cons, List.length_nil, impl_decimal_v b (k := j + 2) (by omega), Option.bind_some, w1]
      cases hb : decR b with
      | none => simp [decOut, tripOut]
      | some y =>
        simp (decide := true) only [decOut, if_true, List.cons_append, List.nil_append, Option.bind_some]
        rw [impl_decimals.l0]
        simp (decide := true) only [r2, if_true, List.length_cons, List.length_nil, impl_decimal_v c (k := j + 1) (by omega), Option.bind_some, w2]
        cases hc : decR c with
        | none => simp [decOut, tripOut]
        | some z =>
          simp (decide := true) only [decOut, if_true, List.cons_append, List.nil_append, Option.bind_some]
          rw [impl_decimals.l0]
          simp (decide := true) only [if_false, tripOut]
  · rw [if_neg (by omega)]
    split
    · rename_i a b c e; rw [e] at h3; exact absurd rfl h3
    · rfl
def finM (X Y Z : Int) (t g r : List Int) : ModOut := if modelB X Y Z t g r = true then (X, Y, Z, t, g, r, true) else zeroM
def colA (l : List (Nat × Nat × Nat)) : List Int := l.map fun x => (x.1 : Int)
def colB (l : List (Nat × Nat × Nat)) : List Int := l.map fun x => (x.2.1 : Int)
def colC (l : List (Nat × Nat × Nat)) : List Int := l.map fun x => (x.2.2 : Int)
def bodyOut (X Y Z : Int) (t g r : List Int) (o : Option (List (Nat × Nat × Nat))) : ModOut := match o with
  | none => zeroM
  | some l => finM X Y Z (t ++ colA l) (g ++ colB l) (r ++ colC l)
theorem impl_ParseModel_l (X Y Z : Int) (ys : List (List UInt8)) (hn : ys.length ≤ 1048576) (hy : ∀ p ∈ ys, p.length ≤ 1048576) : ∀ (d k i : Nat) (t g r : List Int), i + d = ys.length → d + 200 < k → t.length = i → g.length = i → r.length = i →
    impl_ParseModel.l0 k (ys.map toBA) (ys.length : Int) (i : Int) X Y Z t g r = some (bodyOut X Y Z t g r (allT (ys.drop i))) := by
  intro d
  induction d with
  | zero =>
    intro k i t g r hi hk ht hg hr
    obtain ⟨k, rfl⟩ := k_succ (by omega : 0 < k)
    rw [impl_ParseModel.l0, if_neg (by omega), List.drop_eq_nil_of_le (by omega), impl_IsModel_v _ _ _ _ _ _ (by omega), Option.bind_some]
    simp only [allT, bodyOut, colA, colB, colC, List.map_nil, List.append_nil, finM]
    by_cases h : modelB X Y Z t g r = true
    · rw [if_pos h, if_pos h]
    · rw [if_neg h, if_neg h]; rfl
  | succ d ih =>
    intro k i t g r hi hk ht hg hr
    obtain ⟨k, rfl⟩ := k_succ (by omega : 0 < k)
    have hil : i < ys.length := by omega
    have hd : ys.drop i = ys[i] :: ys.drop (i + 1) := List.drop_eq_getElem_cons hil
    rw [impl_ParseModel.l0, if_pos (by omega), if_pos (by omega), if_pos (by rw [List.length_map]; omega), rdOf_map ys hil, impl_decimals_v _ (hy _ (List.getElem_mem hil)) (by omega), Option.bind_some, hd, allT]
    cases hx : trip3 ys[i] with
    | none => rfl
    | some x =>
      have ho : tripOut (some x) = ([(x.1 : Int), (x.2.1 : Int), (x.2.2 : Int)], true) := rfl
      rw [ho]
      dsimp only
      rw [if_pos rfl, if_pos (by simp), if_pos (by omega), if_pos (by simp), if_pos (by omega), if_pos (by simp), if_pos (by omega), w64_succ (by omega), Option.bind_some]
      have r0 : rd [(x.1 : Int), (x.2.1 : Int), (x.2.2 : Int)] 0 = x.1 := rfl
      have r1 : rd [(x.1 : Int), (x.2.1 : Int), (x.2.2 : Int)] 1 = x.2.1 := rfl
      have r2 : rd [(x.1 : Int), (x.2.1 : Int), (x.2.2 : Int)] 2 = x.2.2 := rfl
      rw [r0, r1, r2, ih k (i + 1) _ _ _ (by omega) (by omega) (by simp; omega) (by simp; omega) (by simp; omega)]
      cases allT (ys.drop (i + 1)) with
      | none => rfl
      | some l => simp [bodyOut, colA, colB, colC, List.append_assoc]
/-- What the program's ParseModel returns, over the text's bytes. -/
def implR (L : List UInt8) : ModOut := if [10].isSuffixOf L = true then (match spl 10 [] L.dropLast with
    | p :: q :: ps => (match headR p with
      | some x => bodyOut x.1 x.2.1 x.2.2 [] [] [] (allT (q :: ps))
      | none => zeroM)
    | _ => zeroM) else zeroM
theorem spl_len (c : UInt8) : ∀ (l cur : List UInt8), (spl c cur l).length ≤ l.length + 1
  | [], cur => by simp [spl]
  | x :: xs, cur => by
    rw [spl]
    split
    · have := spl_len c xs []; simp; omega
    · have := spl_len c xs (cur ++ [x]); simp; omega
theorem spl_part (c : UInt8) : ∀ (l cur : List UInt8), ∀ p ∈ spl c cur l, p.length ≤ cur.length + l.length
  | [], cur, p, h => by
    rw [spl] at h; obtain rfl := List.mem_singleton.1 h; simp
  | x :: xs, cur, p, h => by
    rw [spl] at h
    split at h
    · rcases List.mem_cons.1 h with e | h
      · rw [e]; omega
      · have := spl_part c xs [] p h; simp at this ⊢; omega
    · have := spl_part c xs (cur ++ [x]) p h; simp at this ⊢; omega
theorem impl_linesOf_v (L : List UInt8) (hL : L.length ≤ 1048576) : impl_linesOf.f (toBA L) = some (if L = [] then ([], true) else if [10].isSuffixOf L = true then ((spl 10 [] L.dropLast).map toBA, true) else ([], false)) := by
  have hsz := toBA_size L
  have h10 : (⟨#[10]⟩ : ByteArray).size = 1 := rfl
  unfold impl_linesOf.f strings_HasSuffix.f stringslite_HasSuffix.f
  rw [toL, toBA_list]
  by_cases h0 : L = []
  · rw [if_pos h0, if_pos h0]
  · have hpos : 0 < L.length := List.length_pos_iff.2 h0
    rw [if_neg h0, if_neg h0, h10, w64 (by omega) (by omega), if_pos (by omega), if_pos (by omega), if_pos (by omega), Option.bind_some, Option.bind_some, show (((toBA L).size : Int) - ((1 : Nat) : Int)).toNat = L.length - 1 by omega, extract_suf, toL, toL, toBA_list]
    have hsuf : (L.drop (L.length - 1) == (⟨#[10]⟩ : ByteArray).data.toList) = [10].isSuffixOf L := by
      rw [Bool.eq_iff_iff, beq_iff_eq, List.isSuffixOf_iff_suffix]
      constructor
      · intro e; exact ⟨L.take (L.length - 1), by rw [show ([10] : List UInt8) = (⟨#[10]⟩ : ByteArray).data.toList from rfl, ← e, List.take_append_drop]⟩
      · rintro ⟨q, rfl⟩; simp
    rw [hsuf]
    by_cases h : [10].isSuffixOf L = true
    · rw [if_pos h, if_pos h, w64 (by omega) (by omega), if_pos (by omega), if_pos (by omega), show (((toBA L).size : Int) - 1).toNat = L.length - 1 by omega, extract_pre, strings_Split_v 10 _ (by simp; omega), Option.bind_some, List.dropLast_eq_take]
    · rw [if_neg h, if_neg h]
theorem impl_ParseModel_v (L : List UInt8) (hL : L.length ≤ 1048576) {k : Nat} (hk : 1049000 < k) : impl_ParseModel.f k (toBA L) = some (implR L) := by
  obtain ⟨k, rfl⟩ : ∃ m, k = m + 2 := ⟨k - 2, by omega⟩
  unfold impl_ParseModel.f implR
  rw [impl_linesOf_v L hL, Option.bind_some]
  have hz : ∀ xs, impl_ParseModel.j0 (k + 2) xs true = some zeroM := fun xs => by rw [impl_ParseModel.j0, if_pos rfl]; rfl
  by_cases h0 : L = []
  · rw [if_pos h0, if_pos rfl, h0]
    exact hz _
  · rw [if_neg h0]
    by_cases h : [10].isSuffixOf L = true
    · rw [if_pos h, if_pos h, if_pos rfl]
      have hlen := spl_len 10 L.dropLast []
      have hpart := spl_part 10 L.dropLast []
      have hdl : L.dropLast.length ≤ 1048575 := by simp; omega
      match hs : spl 10 [] L.dropLast with
      | [] => exact hz _
      | [p] => exact hz _
      | p :: q :: ps =>
        rw [hs] at hlen hpart
        have hp1 : p.length ≤ 1048576 := by have := hpart p (by simp); simp at this; omega
        have hdec : decide ((((p :: q :: ps).map toBA).length : Int) < 2) = false := by rw [decide_eq_false_iff_not]; simp; omega
        have hz1 : ∀ xs ns, impl_ParseModel.j1 (k + 1) xs ns true = some zeroM := fun xs ns => by rw [impl_ParseModel.j1, if_pos rfl]; rfl
        dsimp only
        rw [hdec, impl_ParseModel.j0, if_neg (by decide), if_pos (by simp; omega), List.map_cons, rdOf_cons0, strings_CutPrefix_v p hp1, Option.bind_some]
        unfold headR
        by_cases c1 : modelW.isPrefixOf p = true
        · rw [if_pos c1, if_pos c1]
          dsimp only
          rw [strings_ReplaceAll_v _ (by simp; omega), Option.bind_some, impl_decimals_v _ (by simp; omega) (by omega), Option.bind_some, if_pos rfl, strings_Contains_v]
          cases ht : trip3 ((p.drop 6).map x2s) with
          | none =>
            simp only [tripOut, Bool.false_eq_true, if_false, hz1, ite_self]
          | some x =>
            simp only [tripOut, if_true, Option.bind_some]
            by_cases c2 : (32 : UInt8) ∈ p.drop 6
            · rw [if_pos c2, decide_eq_true c2, hz1]
            · rw [if_neg c2, decide_eq_false c2, impl_ParseModel.j1, if_neg (by decide)]
              simp only [List.length_cons, List.length_nil]
              rw [if_pos (by omega), if_pos (by omega), if_pos (by omega), if_pos (by omega), Option.bind_some]
              have r0 : rd [(x.1 : Int), (x.2.1 : Int), (x.2.2 : Int)] 0 = x.1 := rfl
              have r1 : rd [(x.1 : Int), (x.2.1 : Int), (x.2.2 : Int)] 1 = x.2.1 := rfl
              have r2 : rd [(x.1 : Int), (x.2.1 : Int), (x.2.2 : Int)] 2 = x.2.2 := rfl
              have := impl_ParseModel_l x.1 x.2.1 x.2.2 (q :: ps) (by simp at hlen ⊢; omega) (fun y hy => by have := hpart y (List.mem_cons_of_mem _ hy); simp at this; omega) (q :: ps).length k 0 [] [] [] (by omega) (by simp at hlen ⊢; omega) rfl rfl rfl
              rw [r0, r1, r2, show List.drop 1 (toBA p :: (q :: ps).map toBA) = (q :: ps).map toBA from rfl, List.length_map]
              exact this
        · rw [if_neg c1, if_neg c1]
          dsimp only
          rw [strings_ReplaceAll_v _ (by omega), Option.bind_some, impl_decimals_v _ (by simp; omega) (by omega), Option.bind_some, if_neg (by decide), hz1]
    · rw [if_neg h, if_neg h, if_neg (by decide)]
      exact hz _
theorem ba_app (a b : List UInt8) : toBA a ++ toBA b = toBA (a ++ b) := by
  apply ByteArray.ext; simp [toBA]
theorem numV_ba (v : Int) : numV v = toBA (Lib.decDigits v.toNat) := rfl
theorem tripV_ba (a b c : Int) : tripV a b c = toBA (tripL (a.toNat, b.toNat, c.toNat)) := by
  unfold tripV tripL
  rw [numV_ba, numV_ba, numV_ba, show (⟨#[32]⟩ : ByteArray) = toBA [32] from rfl]
  simp only [ba_app]
  simp
def trips (t g r : List Int) : List (Nat × Nat × Nat) := (List.range t.length).map fun (i : Nat) => ((rd t (i : Int)).toNat, (rd g (i : Int)).toNat, (rd r (i : Int)).toNat)
theorem trips_len (t g r : List Int) : (trips t g r).length = t.length := by simp [trips]
theorem trips_drop (t g r : List Int) {i : Nat} (h : i < t.length) : (trips t g r).drop i = ((rd t (i : Int)).toNat, (rd g (i : Int)).toNat, (rd r (i : Int)).toNat) :: (trips t g r).drop (i + 1) := by
  rw [List.drop_eq_getElem_cons (by rw [trips_len]; exact h)]
  congr 1
  simp [trips]
theorem moV_ba (t g r : List Int) : ∀ (d i : Nat) (x : List UInt8), i + d = t.length → moV t g r d i (toBA x) = toBA (x ++ flatL (((trips t g r).drop i).map tripL)) := by
  intro d
  induction d with
  | zero => intro i x hi; rw [moV, List.drop_eq_nil_of_le (by rw [trips_len]; omega)]; simp [flatL]
  | succ d ih =>
    intro i x hi
    rw [moV, tripV_ba, show (⟨#[10]⟩ : ByteArray) = toBA [10] from rfl, ba_app, ba_app, ih (i + 1) _ (by omega), trips_drop t g r (by omega : i < t.length)]
    congr 1
    simp [flatL, List.append_assoc]
theorem gtextV_ba {X Y Z : Int} (h : gridB X Y Z = true) : gtextV X Y Z = toBA (Lib.decDigits X.toNat ++ 120 :: (Lib.decDigits Y.toNat ++ 120 :: Lib.decDigits Z.toNat)) := by
  obtain ⟨h1, h2, h3, h4, h5, h6, h7⟩ := gridB_t h
  unfold gtextV
  rw [← numV_lt (by omega : 0 ≤ X) (by omega), ← numV_lt (by omega : 0 ≤ Y) (by omega), ← numV_lt (by omega : 0 ≤ Z) (by omega), numV_ba, numV_ba, numV_ba, show (⟨#[120]⟩ : ByteArray) = toBA [120] from rfl]
  simp only [ba_app]
  simp
def linesM (X Y Z : Int) (t g r : List Int) : List (List UInt8) := headL (X.toNat, Y.toNat, Z.toNat) :: (trips t g r).map tripL
theorem mtextV_ba {X Y Z : Int} {t g r : List Int} (h : gridB X Y Z = true) : mtextV X Y Z t g r = toBA (flatL (linesM X Y Z t g r)) := by
  unfold mtextV linesM
  rw [gtextV_ba h, show (⟨#[109, 111, 100, 101, 108, 32]⟩ : ByteArray) = toBA modelW from rfl, show (⟨#[10]⟩ : ByteArray) = toBA [10] from rfl, ba_app, ba_app, moV_ba t g r t.length 0 _ (by omega), List.drop_zero]
  simp [flatL, headL, List.append_assoc]
theorem colA_trips {X Y Z : Int} {t g r : List Int} (h : IsMod X Y Z t g r) : colA (trips t g r) = t ∧ colB (trips t g r) = g ∧ colC (trips t g r) = r := by
  have l1 := h.lg
  have l2 := h.lr
  refine ⟨List.ext_getElem (by simp [colA, trips]) fun i h1 h2 => ?_, List.ext_getElem (by simp [colB, trips]; omega) fun i h1 h2 => ?_, List.ext_getElem (by simp [colC, trips]; omega) fun i h1 h2 => ?_⟩
  · have q := h.rt (i := (i : Int)) (by omega) (by omega)
    simp only [colA, trips, List.getElem_map, List.getElem_range, List.map_map]
    simp only [Function.comp, List.getElem_map, List.getElem_range]
    rw [rd_get h2] at q ⊢
    omega
  · have q := h.rg (i := (i : Int)) (by omega) (by omega)
    simp only [colB, trips, List.getElem_map, List.getElem_range, List.map_map]
    simp only [Function.comp, List.getElem_map, List.getElem_range]
    rw [rd_get h2] at q ⊢
    omega
  · have q := h.rr (i := (i : Int)) (by omega) (by omega)
    simp only [colC, trips, List.getElem_map, List.getElem_range, List.map_map]
    simp only [Function.comp, List.getElem_map, List.getElem_range]
    rw [rd_get h2] at q ⊢
    omega
theorem trips_col (l : List (Nat × Nat × Nat)) : trips (colA l) (colB l) (colC l) = l := by
  refine List.ext_getElem (by simp [colA, trips]) fun i h1 h2 => ?_
  have ha : i < (colA l).length := by simp [colA]; exact h2
  have hb : i < (colB l).length := by simp [colB]; exact h2
  have hc : i < (colC l).length := by simp [colC]; exact h2
  simp only [trips, List.getElem_map, List.getElem_range]
  rw [rd_get ha, rd_get hb, rd_get hc]
  simp [colA, colB, colC]
theorem trips_small {X Y Z : Int} {t g r : List Int} (h : IsMod X Y Z t g r) : ∀ x ∈ trips t g r, x.1 ≤ 10000 ∧ x.2.1 ≤ 1000 ∧ x.2.2 ≤ 4 := by
  intro x hx
  obtain ⟨i, hi, rfl⟩ := List.mem_map.1 hx
  have hi := List.mem_range.1 hi
  have q1 := h.rt (i := (i : Int)) (by omega) (by omega)
  have q2 := h.rg (i := (i : Int)) (by omega) (by omega)
  have q3 := h.rr (i := (i : Int)) (by omega) (by omega)
  exact ⟨by dsimp only; omega, by dsimp only; omega, by dsimp only; omega⟩
theorem no10_head (x : Nat × Nat × Nat) : (10 : UInt8) ∉ headL x := by
  have h10 : ∀ n, (10 : UInt8) ∉ Lib.decDigits n := fun n => dec_no n (.inl (by decide))
  unfold headL modelW
  simp [h10]
theorem lines_no10 (X Y Z : Int) (t g r : List Int) : ∀ p ∈ linesM X Y Z t g r, (10 : UInt8) ∉ p := by
  intro p hp
  rcases List.mem_cons.1 hp with e | hp
  · rw [e]; exact no10_head _
  · obtain ⟨x, _, rfl⟩ := List.mem_map.1 hp
    exact no10_trip x
theorem model_pos {X Y Z : Int} {t g r : List Int} (h : modelB X Y Z t g r = true) : gridB X Y Z = true ∧ 0 < t.length ∧ t.length ≤ 120 ∧ 1 ≤ X ∧ X ≤ 8 ∧ 1 ≤ Y ∧ Y ≤ 6 ∧ 1 ≤ Z ∧ Z ≤ 5 := by
  obtain ⟨hg, hl⟩ := IsMod.len h
  obtain ⟨h1, h2, h3, h4, h5, h6, h7⟩ := gridB_t hg
  unfold modelB at h
  simp only [Bool.and_eq_true, decide_eq_true_eq] at h
  have := h.1.2.1
  have hp : 0 < X * Y * Z := Int.mul_pos (Int.mul_pos (by omega) (by omega)) (by omega)
  exact ⟨hg, by omega, hl, h1, h2, h3, h4, h5, h6⟩
theorem implR_of {X Y Z : Int} {t g r : List Int} (h : modelB X Y Z t g r = true) : implR (flatL (linesM X Y Z t g r)) = (X, Y, Z, t, g, r, true) := by
  obtain ⟨hg, hp, hl, h1, h2, h3, h4, h5, h6⟩ := model_pos h
  have hm := modelB_t h
  have hne : linesM X Y Z t g r ≠ [] := by simp [linesM]
  unfold implR
  rw [flat_join _ hne, if_pos (List.isSuffixOf_iff_suffix.2 (List.suffix_append _ _)), List.dropLast_concat, spl_joinC _ hne (lines_no10 X Y Z t g r)]
  have hs := trips_small hm
  have hall : allT ((trips t g r).map tripL) = some (trips t g r) := allT_of fun x hx => by have := hs x hx; omega
  obtain ⟨c1, c2, c3⟩ := colA_trips hm
  unfold linesM
  cases ht : trips t g r with
  | nil => have := trips_len t g r; rw [ht] at this; simp at this; omega
  | cons y ys =>
    rw [ht] at hall c1 c2 c3
    simp only [List.map_cons] at hall ⊢
    have hh : headR (headL (X.toNat, Y.toNat, Z.toNat)) = some (X.toNat, Y.toNat, Z.toNat) := headR_of (by dsimp only; omega) (by dsimp only; omega) (by dsimp only; omega)
    rw [hh]
    dsimp only
    rw [hall]
    simp only [bodyOut, List.nil_append, c1, c2, c3]
    rw [show ((X.toNat : Nat) : Int) = X by omega, show ((Y.toNat : Nat) : Int) = Y by omega, show ((Z.toNat : Nat) : Int) = Z by omega]
    unfold finM
    rw [if_pos h]
theorem implR_is (L : List UInt8) : implR L = zeroM ∨ ∃ X Y Z t g r, modelB X Y Z t g r = true ∧ L = flatL (linesM X Y Z t g r) := by
  unfold implR
  by_cases hs : [10].isSuffixOf L = true
  · rw [if_pos hs]
    have hj := spl_join 10 L.dropLast []
    have hL : L = L.dropLast ++ [10] := by
      obtain ⟨q, rfl⟩ := List.isSuffixOf_iff_suffix.1 hs
      rw [List.dropLast_concat]
    split
    · rename_i p q ps e
      rw [e] at hj
      cases hh : headR p with
      | none => exact .inl rfl
      | some x =>
        dsimp only
        cases ha : allT (q :: ps) with
        | none => exact .inl rfl
        | some l =>
          simp only [bodyOut, List.nil_append, finM]
          by_cases hm : modelB x.1 x.2.1 x.2.2 (colA l) (colB l) (colC l) = true
          · right
            refine ⟨_, _, _, _, _, _, hm, ?_⟩
            have e1 := of_headR hh
            have e2 := of_allT ha
            rw [hL, ← List.nil_append L.dropLast, ← hj, ← flat_join _ (by simp), e2, e1]
            unfold linesM
            rw [trips_col]; rfl
          · left; rw [if_neg hm]
    · exact .inl rfl
  · rw [if_neg hs]; exact .inl rfl
theorem l1Read_l (p : List UInt8) (hp : p.length ≤ 6) : ∀ (d k i n m : Nat), i + d = p.length → d < k → n < 10 ^ i → rdL (p.drop i) n = some m →
    spec_l1Read.l0 k (toBA p) (n : Int) (i : Int) = some (m : Int) := by
  have hsz := toBA_size p
  intro d
  induction d with
  | zero =>
    intro k i n m hi hk h1 hr
    obtain ⟨k, rfl⟩ := k_succ (by omega : 0 < k)
    rw [List.drop_eq_nil_of_le (by omega), rdL] at hr
    rw [spec_l1Read.l0, if_neg (by omega), Option.some.inj hr]
  | succ d ih =>
    intro k i n m hi hk h1 hr
    obtain ⟨k, rfl⟩ := k_succ (by omega : 0 < k)
    have hil : i < p.length := by omega
    have hb := bt_toBA p hil
    have hpw := pow10_15 i (by omega)
    rw [List.drop_eq_getElem_cons hil, rdL] at hr
    by_cases c : 48 ≤ (p[i]).toNat ∧ (p[i]).toNat ≤ 57
    · rw [if_pos c] at hr
      rw [spec_l1Read.l0, if_pos (by omega), if_pos (by omega), hb, if_neg (by omega), if_neg (by omega), w64 (x := 10 * (n : Int)) (by omega) (by omega), w64 (x := 10 * (n : Int) + _) (by omega) (by omega), w64_succ (by omega),
        show 10 * (n : Int) + (((p[i]).toNat : Int) - 48) % 256 = ((10 * n + ((p[i]).toNat - 48) : Nat) : Int) by omega]
      exact ih k (i + 1) _ m (by omega) (by omega) (by rw [Nat.pow_succ]; omega) hr
    · rw [if_neg c] at hr; cases hr
theorem l1Read_dec {n : Nat} (h : n < 1000000) {k : Nat} (hk : 20 < k) : spec_l1Read.f k (toBA (Lib.decDigits n)) = some (n : Int) := by
  obtain ⟨k, rfl⟩ := k_succ (by omega : 0 < k)
  have hsz := toBA_size (Lib.decDigits n)
  have h1 := dec_len 5 n (by simpa using h)
  have hpos : 0 < (Lib.decDigits n).length := List.length_pos_iff.2 (dec_ne n)
  have hb := bt_toBA (Lib.decDigits n) hpos
  have hrun : spec_l1Read.j0 (k + 1) (toBA (Lib.decDigits n)) false = some (n : Int) := by
    rw [spec_l1Read.j0, if_neg (by decide)]
    have := l1Read_l (Lib.decDigits n) (by omega) (Lib.decDigits n).length k 0 0 n (by omega) (by omega) (by omega) (by rw [List.drop_zero]; exact rdL_dec n)
    simpa using this
  have hh : (Lib.decDigits n).head? = some (Lib.decDigits n)[0] := by rw [List.head?_eq_getElem?, List.getElem?_eq_getElem hpos]
  unfold spec_l1Read.f
  rw [spec_l1In_v, Option.bind_some, if_pos (by rw [decide_eq_true_eq]; omega), if_pos (by omega), show (0 : Int) = ((0 : Nat) : Int) from rfl, hb]
  by_cases z : (Lib.decDigits n)[0] = 48
  · have hz : n = 0 := Classical.byContradiction fun e => dec_head n e (by rw [hh, z])
    rw [if_pos (by rw [z]; rfl), decide_eq_false, hrun]
    rw [hsz, hz, decDigits_lt (by omega)]; decide
  · rw [if_neg (fun e => z (UInt8.toNat_inj.1 (by show (Lib.decDigits n)[0].toNat = 48; omega))), hrun]
def finS (s : ByteArray) (X Y Z : Int) (t g r : List Int) : ModOut := if modelB X Y Z t g r = true then (if (mtextV X Y Z t g r).toList = s.toList then (X, Y, Z, t, g, r, true) else zeroM) else zeroM
theorem spec_fin (s : ByteArray) (X Y Z : Int) (t g r : List Int) (ys : List ByteArray) (i : Int) {k : Nat} (hk : 200 < k) (hi : ¬ i < (ys.length : Int)) : spec_ParseModel.l0 (k + 1) s ys (ys.length : Int) i X Y Z t g r = some (finS s X Y Z t g r) := by
  rw [spec_ParseModel.l0, if_neg hi, spec_moGood_v _ _ _ _ _ _ (by omega), Option.bind_some]
  unfold finS
  by_cases h : modelB X Y Z t g r = true
  · rw [if_pos h, if_pos h, spec_moText_v h hk, Option.bind_some]
    by_cases c : (mtextV X Y Z t g r).toList = s.toList
    · rw [if_pos c, if_pos c]
    · rw [if_neg c, if_neg c]; rfl
  · rw [if_neg h, if_neg h]; rfl
theorem finS_is (s : ByteArray) (X Y Z : Int) (t g r : List Int) : finS s X Y Z t g r = zeroM ∨ (modelB X Y Z t g r = true ∧ s = mtextV X Y Z t g r) := by
  unfold finS
  by_cases h : modelB X Y Z t g r = true
  · rw [if_pos h]
    by_cases c : (mtextV X Y Z t g r).toList = s.toList
    · right
      refine ⟨h, ?_⟩
      rw [toL, toL] at c
      rw [← toBA_data s, ← c, toBA_data]
    · left; rw [if_neg c]
  · left; rw [if_neg h]
def SpecOk (s : ByteArray) (R : ModOut) : Prop := R = zeroM ∨ ∃ X Y Z t g r, modelB X Y Z t g r = true ∧ s = mtextV X Y Z t g r
theorem finS_ok (s : ByteArray) (X Y Z : Int) (t g r : List Int) : SpecOk s (finS s X Y Z t g r) := by
  rcases finS_is s X Y Z t g r with h | h
  · exact .inl h
  · exact .inr ⟨_, _, _, _, _, _, h⟩
theorem spec_loop (s : ByteArray) (X Y Z : Int) (ys : List (List UInt8)) (hn : ys.length ≤ 1048576) (hy : ∀ p ∈ ys, p.length ≤ 1048576) : ∀ (d k i : Nat) (t g r : List Int), i + d = ys.length → d + 1049000 < k → t.length ≤ i → g.length ≤ i → r.length ≤ i →
    ∃ R, spec_ParseModel.l0 k s (ys.map toBA) (ys.length : Int) (i : Int) X Y Z t g r = some R ∧ SpecOk s R := by
  intro d
  induction d with
  | zero =>
    intro k i t g r hi hk ht hg hr
    obtain ⟨k, rfl⟩ := k_succ (by omega : 0 < k)
    have := spec_fin s X Y Z t g r (ys.map toBA) (i : Int) (k := k) (by omega) (by rw [List.length_map]; omega)
    rw [List.length_map] at this
    exact ⟨_, this, finS_ok _ _ _ _ _ _ _⟩
  | succ d ih =>
    intro k i t g r hi hk ht hg hr
    obtain ⟨k, rfl⟩ := k_succ (by omega : 0 < k)
    have hil : i < ys.length := by omega
    rw [spec_ParseModel.l0, if_pos (by omega), if_pos (by omega), if_pos (by rw [List.length_map]; omega), rdOf_map ys hil, show (32 : Int) = ((32 : UInt8).toNat : Int) from rfl, l1Split_v 32 _ (hy _ (List.getElem_mem hil)) (by omega), Option.bind_some, List.length_map]
    by_cases h3 : (spl 32 [] ys[i]).length = 3
    · obtain ⟨a, b, c, e⟩ : ∃ a b c, spl 32 [] ys[i] = [a, b, c] := by
        match hh : spl 32 [] ys[i], h3 with
        | [a, b, c], _ => exact ⟨a, b, c, rfl⟩
      rw [e]
      obtain ⟨va, ha, _⟩ := read_v a k (by omega)
      obtain ⟨vb, hb, _⟩ := read_v b k (by omega)
      obtain ⟨vc, hc, _⟩ := read_v c k (by omega)
      have r0 : rdOf ByteArray.empty ([a, b, c].map toBA) 0 = toBA a := rfl
      have r1 : rdOf ByteArray.empty ([a, b, c].map toBA) 1 = toBA b := rfl
      have r2 : rdOf ByteArray.empty ([a, b, c].map toBA) 2 = toBA c := rfl
      rw [if_pos (by simp), if_pos (by simp), r0, ha, Option.bind_some, if_pos (by omega), if_pos (by simp), r1, hb, Option.bind_some, if_pos (by omega), if_pos (by simp), r2, hc, Option.bind_some, if_pos (by omega), w64_succ (by omega)]
      exact ih k (i + 1) _ _ _ (by omega) (by omega) (by simp; omega) (by simp; omega) (by simp; omega)
    · rw [if_neg (by omega), w64_succ (by omega)]
      exact ih k (i + 1) _ _ _ (by omega) (by omega) (by omega) (by omega) (by omega)
theorem spec_loop_of (s : ByteArray) (X Y Z : Int) (ys : List (List UInt8)) (hn : ys.length ≤ 1000) : ∀ (l : List (Nat × Nat × Nat)) (k i : Nat) (t g r : List Int), ys.drop i = l.map tripL ++ [[]] → i + l.length + 1 = ys.length → l.length + 1049000 < k → t.length ≤ i → g.length ≤ i → r.length ≤ i → (∀ x ∈ l, x.1 ≤ 10000 ∧ x.2.1 ≤ 1000 ∧ x.2.2 ≤ 4) →
    spec_ParseModel.l0 k s (ys.map toBA) (ys.length : Int) (i : Int) X Y Z t g r = some (finS s X Y Z (t ++ colA l) (g ++ colB l) (r ++ colC l)) := by
  intro l
  induction l with
  | nil =>
    intro k i t g r hd hi hk ht hg hr hx
    simp only [List.map_nil, List.nil_append, List.length_nil] at hd hi
    obtain ⟨k, rfl⟩ : ∃ m, k = m + 2 := ⟨k - 2, by omega⟩
    have hil : i < ys.length := by omega
    have he : ys[i] = [] := by
      have := List.drop_eq_getElem_cons hil
      rw [hd] at this
      exact (List.cons.inj this).1.symm
    rw [spec_ParseModel.l0, if_pos (by omega), if_pos (by omega), if_pos (by rw [List.length_map]; omega), rdOf_map ys hil, he, show (32 : Int) = ((32 : UInt8).toNat : Int) from rfl, l1Split_v 32 _ (by simp) (by omega), Option.bind_some, List.length_map,
      if_neg (by simp [spl]), w64_succ (by omega)]
    have := spec_fin s X Y Z t g r (ys.map toBA) ((i + 1 : Nat) : Int) (k := k) (by omega) (by rw [List.length_map]; omega)
    rw [List.length_map] at this
    rw [this]
    simp [colA, colB, colC]
  | cons x l ih =>
    intro k i t g r hd hi hk ht hg hr hx
    simp only [List.map_cons, List.cons_append, List.length_cons] at hd hi hk
    obtain ⟨k, rfl⟩ := k_succ (by omega : 0 < k)
    have hil : i < ys.length := by omega
    have hdd := List.drop_eq_getElem_cons hil
    rw [hd] at hdd
    have he : ys[i] = tripL x := (List.cons.inj hdd).1.symm
    have hr' := (List.cons.inj hdd).2.symm
    have hxx := hx x (by simp)
    have len : ∀ n, n ≤ 10000 → (Lib.decDigits n).length ≤ 6 := fun n h => dec_len 5 n (by simp; omega)
    have l1 := len x.1 (by omega)
    have l2 := len x.2.1 (by omega)
    have l3 := len x.2.2 (by omega)
    have hlen : (tripL x).length ≤ 1048576 := by unfold tripL; simp only [List.length_append, List.length_cons]; omega
    rw [spec_ParseModel.l0, if_pos (by omega), if_pos (by omega), if_pos (by rw [List.length_map]; omega), rdOf_map ys hil, he, show (32 : Int) = ((32 : UInt8).toNat : Int) from rfl, l1Split_v 32 _ hlen (by omega), Option.bind_some, List.length_map, spl_trip]
    have r0 : rdOf ByteArray.empty ([Lib.decDigits x.1, Lib.decDigits x.2.1, Lib.decDigits x.2.2].map toBA) 0 = toBA (Lib.decDigits x.1) := rfl
    have r1 : rdOf ByteArray.empty ([Lib.decDigits x.1, Lib.decDigits x.2.1, Lib.decDigits x.2.2].map toBA) 1 = toBA (Lib.decDigits x.2.1) := rfl
    have r2 : rdOf ByteArray.empty ([Lib.decDigits x.1, Lib.decDigits x.2.1, Lib.decDigits x.2.2].map toBA) 2 = toBA (Lib.decDigits x.2.2) := rfl
    rw [if_pos (by simp), if_pos (by simp), r0, l1Read_dec (by omega) (by omega), Option.bind_some, if_pos (by omega), if_pos (by simp), r1, l1Read_dec (by omega) (by omega), Option.bind_some, if_pos (by omega), if_pos (by simp), r2, l1Read_dec (by omega) (by omega), Option.bind_some, if_pos (by omega), w64_succ (by omega),
      ih k (i + 1) _ _ _ hr' (by omega) (by omega) (by simp; omega) (by simp; omega) (by simp; omega) (fun y hy => hx y (List.mem_cons_of_mem _ hy))]
    simp [colA, colB, colC]
theorem spec_j0_ok (s : ByteArray) (ls ws : List (List UInt8)) (hn : ls.length ≤ 1048577) (hl0 : ls ≠ []) (hl : ∀ p ∈ ls, p.length ≤ 1048576) (hw : ∀ p ∈ ws, p.length ≤ 1048576) (b : Bool) (hb : b = false → ws.length = 2) {k : Nat} (hk : 3000000 < k) :
    ∃ R, spec_ParseModel.j0 k s (ls.map toBA) (ws.map toBA) b = some R ∧ SpecOk s R := by
  obtain ⟨k, rfl⟩ := k_succ (by omega : 0 < k)
  rw [spec_ParseModel.j0]
  by_cases hb1 : b = true
  · rw [if_pos hb1]; exact ⟨_, rfl, .inl rfl⟩
  · have hw2 := hb (by simpa using hb1)
    rw [if_neg hb1, List.length_map, if_pos (by omega), show (1 : Int) = ((1 : Nat) : Int) from rfl, rdOf_map ws (by omega), show (120 : Int) = ((120 : UInt8).toNat : Int) from rfl, l1Split_v 120 _ (hw _ (List.getElem_mem _)) (by omega), Option.bind_some, List.length_map]
    by_cases h3 : (spl 120 [] ws[1]).length = 3
    · obtain ⟨a, b, c, e⟩ : ∃ a b c, spl 120 [] ws[1] = [a, b, c] := by
        match hh : spl 120 [] ws[1], h3 with
        | [a, b, c], _ => exact ⟨a, b, c, rfl⟩
      rw [e]
      obtain ⟨va, ha, _⟩ := read_v a k (by omega)
      obtain ⟨vb, hb, _⟩ := read_v b k (by omega)
      obtain ⟨vc, hc, _⟩ := read_v c k (by omega)
      have r0 : rdOf ByteArray.empty ([a, b, c].map toBA) 0 = toBA a := rfl
      have r1 : rdOf ByteArray.empty ([a, b, c].map toBA) ((1 : Nat) : Int) = toBA b := rfl
      have r2 : rdOf ByteArray.empty ([a, b, c].map toBA) 2 = toBA c := rfl
      have hlp : 0 < ls.length := List.length_pos_iff.2 hl0
      rw [if_pos (by simp), if_pos (by simp), r0, ha, Option.bind_some, if_pos (by simp), r1, hb, Option.bind_some, if_pos (by simp), r2, hc, Option.bind_some, if_pos (by rw [List.length_map]; omega), Option.bind_some, ← List.map_drop, List.length_map]
      exact spec_loop s va vb vc (ls.drop 1) (by simp; omega) (fun p hp => hl p (List.mem_of_mem_drop hp)) (ls.drop 1).length k 0 [] [] [] (by omega) (by simp; omega) (by simp) (by simp) (by simp)
    · rw [if_neg (by omega)]; exact ⟨_, rfl, .inl rfl⟩
theorem spec_ParseModel_ok (L : List UInt8) (hL : L.length ≤ 1048576) {k : Nat} (hk : 3000000 < k) : ∃ R, spec_ParseModel.f k (toBA L) = some R ∧ SpecOk (toBA L) R := by
  unfold spec_ParseModel.f
  have hne := spl_ne 10 L []
  have hlen := spl_len 10 L []
  have hpart := spl_part 10 L []
  rw [show (10 : Int) = ((10 : UInt8).toNat : Int) from rfl, l1Split_v 10 L hL (by omega), Option.bind_some, List.length_map]
  have hpos : 0 < (spl 10 [] L).length := List.length_pos_iff.2 hne
  have hp0 : ∀ p ∈ spl 10 [] L, p.length ≤ 1048576 := fun p hp => by have := hpart p hp; simp at this; omega
  rw [if_pos (by omega), show (0 : Int) = ((0 : Nat) : Int) from rfl, rdOf_map _ hpos, show (32 : Int) = ((32 : UInt8).toNat : Int) from rfl, l1Split_v 32 _ (hp0 _ (List.getElem_mem _)) (by omega), Option.bind_some, List.length_map]
  have hw : ∀ p ∈ spl 32 [] (spl 10 [] L)[0], p.length ≤ 1048576 := fun p hp => by
    have h1 := spl_part 32 _ [] p hp
    have h2 := hp0 _ (List.getElem_mem hpos)
    simp at h1; omega
  by_cases c : (((spl 10 [] L).length : Nat) : Int) > 122
  · rw [if_pos c]
    exact spec_j0_ok _ _ _ (by omega) hne hp0 hw true (fun e => by cases e) hk
  · rw [if_neg c]
    exact spec_j0_ok _ _ _ (by omega) hne hp0 hw _ (fun e => by
      have := (bne_eq_false_iff_eq).1 e; omega) hk
theorem spec_ParseModel_of {X Y Z : Int} {t g r : List Int} (h : modelB X Y Z t g r = true) (hL : (flatL (linesM X Y Z t g r)).length ≤ 1048576) {k : Nat} (hk : 3000000 < k) :
    spec_ParseModel.f k (toBA (flatL (linesM X Y Z t g r))) = some (X, Y, Z, t, g, r, true) := by
  obtain ⟨hg, hp, hl, h1, h2, h3, h4, h5, h6⟩ := model_pos h
  have hm := modelB_t h
  obtain ⟨k, rfl⟩ := k_succ (by omega : 0 < k)
  have hs := spl_flat (linesM X Y Z t g r) (lines_no10 X Y Z t g r)
  have hlen : (linesM X Y Z t g r).length = t.length + 1 := by simp [linesM, trips_len]
  have h32 : ∀ n, (32 : UInt8) ∉ Lib.decDigits n := fun n => dec_no n (.inl (by decide))
  have h120 : ∀ n, (120 : UInt8) ∉ Lib.decDigits n := fun n => dec_no n (.inr (by decide))
  have hhead : spl 32 [] (headL (X.toNat, Y.toNat, Z.toNat)) = [[109, 111, 100, 101, 108], Lib.decDigits X.toNat ++ 120 :: (Lib.decDigits Y.toNat ++ 120 :: Lib.decDigits Z.toNat)] := by
    have e : headL (X.toNat, Y.toNat, Z.toNat) = [109, 111, 100, 101, 108] ++ 32 :: (Lib.decDigits X.toNat ++ 120 :: (Lib.decDigits Y.toNat ++ 120 :: Lib.decDigits Z.toNat)) := rfl
    rw [e, spl_cut 32 _ _ (by decide), spl_end 32 _ (by simp [h32])]
  have hgrid : spl 120 [] (Lib.decDigits X.toNat ++ 120 :: (Lib.decDigits Y.toNat ++ 120 :: Lib.decDigits Z.toNat)) = [Lib.decDigits X.toNat, Lib.decDigits Y.toNat, Lib.decDigits Z.toNat] := by
    rw [spl_cut 120 _ _ (h120 _), spl_cut 120 _ _ (h120 _), spl_end 120 _ (h120 _)]
  have lenD : ∀ n, n < 100 → (Lib.decDigits n).length ≤ 2 := fun n h => dec_len 1 n (by simpa using h)
  have hX := lenD X.toNat (by omega)
  have hY := lenD Y.toNat (by omega)
  have hZ := lenD Z.toNat (by omega)
  have r0 : rdOf ByteArray.empty ((linesM X Y Z t g r ++ [[]]).map toBA) 0 = toBA (headL (X.toNat, Y.toNat, Z.toNat)) := rfl
  unfold spec_ParseModel.f
  rw [show (10 : Int) = ((10 : UInt8).toNat : Int) from rfl, l1Split_v 10 _ hL (by omega), hs, Option.bind_some, List.length_map, List.length_append, hlen, if_pos (by simp; omega), r0, show (32 : Int) = ((32 : UInt8).toNat : Int) from rfl, l1Split_v 32 _ (by unfold headL modelW; simp only [List.length_append, List.length_cons, List.length_nil]; omega) (by omega), hhead, Option.bind_some]
  rw [if_neg (by simp; omega)]
  have hbne : (((List.map toBA [[109, 111, 100, 101, 108], Lib.decDigits X.toNat ++ 120 :: (Lib.decDigits Y.toNat ++ 120 :: Lib.decDigits Z.toNat)]).length : Int) != 2) = false := by simp
  rw [hbne, spec_ParseModel.j0, if_neg (by decide)]
  have r1 : rdOf ByteArray.empty (List.map toBA [[109, 111, 100, 101, 108], Lib.decDigits X.toNat ++ 120 :: (Lib.decDigits Y.toNat ++ 120 :: Lib.decDigits Z.toNat)]) 1 = toBA (Lib.decDigits X.toNat ++ 120 :: (Lib.decDigits Y.toNat ++ 120 :: Lib.decDigits Z.toNat)) := rfl
  have g0 : rdOf ByteArray.empty ([Lib.decDigits X.toNat, Lib.decDigits Y.toNat, Lib.decDigits Z.toNat].map toBA) 0 = toBA (Lib.decDigits X.toNat) := rfl
  have g1 : rdOf ByteArray.empty ([Lib.decDigits X.toNat, Lib.decDigits Y.toNat, Lib.decDigits Z.toNat].map toBA) 1 = toBA (Lib.decDigits Y.toNat) := rfl
  have g2 : rdOf ByteArray.empty ([Lib.decDigits X.toNat, Lib.decDigits Y.toNat, Lib.decDigits Z.toNat].map toBA) 2 = toBA (Lib.decDigits Z.toNat) := rfl
  rw [if_pos (by simp), r1, show (120 : Int) = ((120 : UInt8).toNat : Int) from rfl, l1Split_v 120 _ (by simp only [List.length_append, List.length_cons]; omega) (by omega), hgrid, Option.bind_some]
  rw [if_pos (by simp), if_pos (by simp), g0, l1Read_dec (by omega) (by omega), Option.bind_some, if_pos (by simp), g1, l1Read_dec (by omega) (by omega), Option.bind_some, if_pos (by simp), g2, l1Read_dec (by omega) (by omega), Option.bind_some, if_pos (by rw [List.length_map, List.length_append, hlen]; simp; omega), Option.bind_some]
  have hd : List.drop 1 (List.map toBA (linesM X Y Z t g r ++ [[]])) = List.map toBA ((trips t g r).map tripL ++ [[]]) := rfl
  have hyl : ((trips t g r).map tripL ++ [[]]).length = t.length + 1 := by simp [trips_len]
  rw [hd, List.length_map]
  obtain ⟨c1, c2, c3⟩ := colA_trips hm
  have := spec_loop_of (toBA (flatL (linesM X Y Z t g r))) X.toNat Y.toNat Z.toNat ((trips t g r).map tripL ++ [[]]) (by omega) (trips t g r) k 0 [] [] [] (by simp) (by rw [trips_len]; omega) (by rw [trips_len]; omega) (by simp) (by simp) (by simp) (trips_small hm)
  rw [show (0 : Int) = ((0 : Nat) : Int) from rfl, this]
  simp only [List.nil_append, c1, c2, c3]
  rw [show ((X.toNat : Nat) : Int) = X by omega, show ((Y.toNat : Nat) : Int) = Y by omega, show ((Z.toNat : Nat) : Int) = Z by omega]
  unfold finS
  rw [if_pos h, mtextV_ba hg, if_pos rfl]
theorem parse_same (s : ByteArray) (hs : s.size ≤ 1048576) : ∃ X Y Z t g r b, (∀ k, 3000000 < k → spec_ParseModel.f k s = some (X, Y, Z, t, g, r, b) ∧ impl_ParseModel.f k s = some (X, Y, Z, t, g, r, b)) ∧ t.length ≤ 120 ∧ g.length ≤ 120 ∧ r.length ≤ 120 := by
  obtain ⟨L, rfl⟩ : ∃ L, s = toBA L := ⟨_, (toBA_data s).symm⟩
  have hL : L.length ≤ 1048576 := by rw [toBA_size] at hs; exact hs
  by_cases hx : ∃ X Y Z t g r, modelB X Y Z t g r = true ∧ L = flatL (linesM X Y Z t g r)
  · obtain ⟨X, Y, Z, t, g, r, h, rfl⟩ := hx
    obtain ⟨hg, hp, hl, _⟩ := model_pos h
    have hm := modelB_t h
    have l1 := hm.lg
    have l2 := hm.lr
    exact ⟨X, Y, Z, t, g, r, true, fun k hk => ⟨spec_ParseModel_of h hL hk, by rw [impl_ParseModel_v _ hL (by omega), implR_of h]⟩, hl, by omega, by omega⟩
  · refine ⟨0, 0, 0, [], [], [], false, fun k hk => ?_, by simp, by simp, by simp⟩
    obtain ⟨R, e, ok⟩ := spec_ParseModel_ok L hL hk
    have h1 : R = zeroM := by
      rcases ok with h | ⟨X, Y, Z, t, g, r, h, e⟩
      · exact h
      · refine absurd ⟨X, Y, Z, t, g, r, h, ?_⟩ hx
        rw [mtextV_ba (model_pos h).1] at e
        have := congrArg (fun s : ByteArray => s.data.toList) e
        simpa [toBA_list] using this
    have h2 : implR L = zeroM := by
      rcases implR_is L with h | h
      · exact h
      · exact absurd h hx
    rw [impl_ParseModel_v _ hL (by omega), e, h1, h2]
    exact ⟨rfl, rfl⟩
theorem pure_FnExactParseModel (s : ByteArray) : ∃ k, laws_FnExactParseModel.f k s = some true := by
  obtain ⟨K, hK⟩ : ∃ K : Nat, 3000000 < K := ⟨_, Nat.lt_succ_self _⟩
  refine ⟨K + 4, ?_⟩
  unfold laws_FnExactParseModel.f
  by_cases h : (s.size : Int) > 1048576
  · rw [if_pos h]
  · obtain ⟨X, Y, Z, t, g, r, b, e, l3, l4, l5⟩ := parse_same s (by omega)
    rw [if_neg h, (e (K + 4) (by omega)).1, Option.bind_some, (e (K + 4) (by omega)).2, Option.bind_some]
    simp (disch := omega) only [laws_eqModel_v, Option.bind_some, if_true, bne_self_eq_false]
    rw [laws_FnExactParseModel.j0, if_neg (by decide)]
    simp (disch := omega) only [laws_markModel_v, laws_heldModel_v, Option.bind_some, if_true]
    rw [if_neg (by omega), (e (K + 3) (by omega)).2, Option.bind_some]
    simp (disch := omega) only [laws_eqModel_v, Option.bind_some, if_true, bne_self_eq_false]
    rw [laws_FnExactParseModel.j1, if_neg (by decide)]
    simp (disch := omega) only [laws_heldModel_v, Option.bind_some, if_true]
    rw [if_neg (by omega)]

end Go.Proofs.YtjchafcodnilmaaDoor.Pure
