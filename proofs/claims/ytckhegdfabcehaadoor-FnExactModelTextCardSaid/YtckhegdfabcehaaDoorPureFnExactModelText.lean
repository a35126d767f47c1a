/- What the printed Lean functions behind FnExactModelText come to, and from that the pure statement of FnExactModelText: it answers true. No condition beyond those that the given statement itself has. -/
import Derived.Test.YtckhegdfabcehaaDoorPFnExactModelTextx7
import Derived.Lib.SmallJoins
namespace Go.Proofs.YtckhegdfabcehaaDoor.Pure
open Go.RowKit Go.Proofs.YtckhegdfabcehaaDoor.PFnExactModelText Go.Proofs.YtckhegdfabcehaaDoorW.PrintWords Go.Proofs.YtckhegdfabcehaaDoorW.PrintLast Go.Proofs.YtckhegdfabcehaaDoorW.PrintMore
set_option linter.unusedVariables false
set_option linter.unusedSimpArgs false

theorem w64 {x : Int} (h1 : -9223372036854775808 ≤ x) (h2 : x ≤ 9223372036854775807) : wrap64 x = x := by unfold wrap64; omega
theorem wf_i64 {x : Int} (h : (Lit.int .i64 x).wf = true) : -9223372036854775808 ≤ x ∧ x ≤ 9223372036854775807 := Go.Joins.in64_of_wf h
theorem mul_bd {a b A B : Int} (ha : 0 ≤ a) (hA : a ≤ A) (hb : 0 ≤ b) (hB : b ≤ B) : 0 ≤ a * b ∧ a * b ≤ A * B :=
  ⟨Int.mul_nonneg ha hb, Int.mul_le_mul hA hB hb (by omega)⟩
theorem rd_nat (l : List Int) (i : Nat) : rd l (i : Int) = l.getD i 0 := by simp [rd]
theorem rd_get {l : List Int} {i : Nat} (h : i < l.length) : rd l (i : Int) = l[i] := by rw [rd_nat, List.getD_eq_getElem?_getD, List.getElem?_eq_getElem h]; rfl
theorem rd_set {l : List Int} {i : Nat} {v : Int} (j : Int) (h0 : 0 ≤ j) (hi : i < l.length) : rd (l.set i v) j = if j = (i : Int) then v else rd l j := by
  unfold rd
  rw [List.getD_eq_getElem?_getD, List.getD_eq_getElem?_getD]
  by_cases h : j = (i : Int)
  · rw [if_pos h, show j.toNat = i by omega, List.getElem?_set_self hi]; rfl
  · rw [if_neg h, List.getElem?_set_ne (by omega)]
theorem drop_rd {l : List Int} {i : Nat} (h : i < l.length) : l.drop i = rd l (i : Int) :: l.drop (i + 1) := by
  rw [rd_get h]; exact List.drop_eq_getElem_cons h
theorem w64_succ {i : Nat} (h : i < 9223372036854775807) : wrap64 ((i : Int) + 1) = ((i + 1 : Nat) : Int) := by rw [w64 (by omega) (by omega)]; omega
theorem k_succ {k : Nat} (h : 0 < k) : ∃ m, k = m + 1 := ⟨k - 1, by omega⟩
/-- from some number of rounds on -/
theorem Ev.use {α : Type} {g : Nat → Option α} {r : α} (h : Ev g r) : ∃ K, ∀ k, K ≤ k → g k = some r := h
theorem laws_toIntS_l (l : List Int) (hn : l.length ≤ 1152921504606846976) : ∀ (d k i : Nat) (y : List Int), i + d = l.length → d < k → y.length = l.length → (∀ j, j < i → y[j]? = l[j]?) →
    laws_toIntS.l0 k l y (i : Int) = some l := by
  intro d
  induction d with
  | zero =>
    intro k i y hi hk hy hj
    obtain ⟨k, rfl⟩ := k_succ (by omega : 0 < k)
    simp only [laws_toIntS.l0]
    rw [if_neg (by omega)]
    congr 1
    refine List.ext_getElem? fun j => ?_
    by_cases h : j < i
    · exact hj j h
    · rw [List.getElem?_eq_none (by omega), List.getElem?_eq_none (by omega)]
  | succ d ih =>
    intro k i y hi hk hy hj
    obtain ⟨k, rfl⟩ := k_succ (by omega : 0 < k)
    simp only [laws_toIntS.l0]
    rw [if_pos (by omega), if_pos (by omega), if_pos (by omega), w64_succ (by omega)]
    refine ih k (i + 1) _ (by omega) (by omega) (by simpa using hy) (fun j hj' => ?_)
    rw [show ((i : Int) : Int).toNat = i by omega]
    by_cases h : j = i
    · subst h
      rw [List.getElem?_set_self (by omega), rd_get (by omega), List.getElem?_eq_getElem (by omega)]
    · rw [List.getElem?_set_ne (by omega)]
      exact hj j (by omega)
theorem laws_toIntS_v (l : List Int) (hn : l.length ≤ 35184372088832) {k : Nat} (hk : l.length < k) : laws_toIntS.f k l = some l := by
  unfold laws_toIntS.f
  rw [if_pos (by omega), if_pos (by omega)]
  exact laws_toIntS_l l (by omega) l.length k 0 _ (by omega) hk (by simp) (fun j hj => by omega)
theorem laws_eqIntS_l (l m : List Int) (hn : l.length ≤ 1152921504606846976) (hm : m.length = l.length) : ∀ (d k i : Nat), i + d = l.length → d < k →
    laws_eqIntS.l0 k l m (i : Int) = some (decide (l.drop i = m.drop i)) := by
  intro d
  induction d with
  | zero =>
    intro k i hi hk
    obtain ⟨k, rfl⟩ := k_succ (by omega : 0 < k)
    simp only [laws_eqIntS.l0]
    rw [if_neg (by omega), List.drop_eq_nil_of_le (by omega), List.drop_eq_nil_of_le (by omega)]
    simp
  | succ d ih =>
    intro k i hi hk
    obtain ⟨k, rfl⟩ := k_succ (by omega : 0 < k)
    simp only [laws_eqIntS.l0]
    rw [if_pos (by omega), if_pos (by omega), if_pos (by omega), w64_succ (by omega), drop_rd (by omega : i < l.length), drop_rd (by omega : i < m.length), ih k (i + 1) (by omega) (by omega)]
    by_cases h : rd l (i : Int) = rd m (i : Int)
    · rw [if_pos h]; simp [h]
    · rw [if_neg h]; simp [h]
theorem laws_eqIntS_v (l m : List Int) (hn : l.length ≤ 1152921504606846976) {k : Nat} (hk : l.length < k) : laws_eqIntS.f k l m = some (decide (l = m)) := by
  unfold laws_eqIntS.f
  by_cases h : l.length = m.length
  · rw [if_pos (by omega)]
    have := laws_eqIntS_l l m hn h.symm l.length k 0 (by omega) hk
    simpa using this
  · rw [if_neg (by omega)]
    congr 1; symm
    rw [decide_eq_false_iff_not]
    intro e; rw [e] at h; exact h rfl
theorem spec_l1In_v (a lo hi : Int) : spec_l1In.f a lo hi = some (decide (lo ≤ a ∧ a ≤ hi)) := by
  unfold spec_l1In.f
  split
  · congr 1; rw [decide_eq_decide]; omega
  · congr 1; symm; rw [decide_eq_false_iff_not]; omega
theorem spec_l1All_l (lo hi : Int) (l : List Int) (hn : l.length ≤ 1152921504606846976) : ∀ (d k i : Nat), i + d = l.length → d < k →
    spec_l1All.l0 k lo hi l (l.length : Int) (i : Int) = some ((l.drop i).all fun x => decide (lo ≤ x ∧ x ≤ hi)) := by
  intro d
  induction d with
  | zero =>
    intro k i hi' hk
    obtain ⟨k, rfl⟩ := k_succ (by omega : 0 < k)
    simp only [spec_l1All.l0]
    rw [if_neg (by omega), List.drop_eq_nil_of_le (by omega)]
    rfl
  | succ d ih =>
    intro k i hi' hk
    obtain ⟨k, rfl⟩ := k_succ (by omega : 0 < k)
    simp only [spec_l1All.l0]
    rw [if_pos (by omega), if_pos (by omega), if_pos (by omega), w64_succ (by omega), drop_rd (by omega : i < l.length), ih k (i + 1) (by omega) (by omega), spec_l1In_v, List.all_cons]
    simp only [Option.bind_some, decide_eq_true_eq]
    by_cases h : lo ≤ rd l (i : Int) ∧ rd l (i : Int) ≤ hi
    · rw [if_pos h, decide_eq_true h, Bool.true_and]
    · rw [if_neg h, decide_eq_false h, Bool.false_and]
theorem spec_l1All_v (lo hi : Int) (l : List Int) (hn : l.length ≤ 1152921504606846976) {k : Nat} (hk : l.length < k) : spec_l1All.f k l lo hi = some (l.all fun x => decide (lo ≤ x ∧ x ≤ hi)) := by
  unfold spec_l1All.f
  simpa using spec_l1All_l lo hi l hn l.length k 0 (by omega) hk
def gridB (X Y Z : Int) : Bool := decide (1 ≤ X ∧ X ≤ 8 ∧ 1 ≤ Y ∧ Y ≤ 6 ∧ 1 ≤ Z ∧ Z ≤ 5 ∧ X * Y * Z ≤ 120)
theorem gridB_t {X Y Z : Int} (h : gridB X Y Z = true) : 1 ≤ X ∧ X ≤ 8 ∧ 1 ≤ Y ∧ Y ≤ 6 ∧ 1 ≤ Z ∧ Z ≤ 5 ∧ X * Y * Z ≤ 120 := of_decide_eq_true h
theorem wrapXYZ {X Y Z : Int} (h1 : 1 ≤ X) (h2 : X ≤ 8) (h3 : 1 ≤ Y) (h4 : Y ≤ 6) (h5 : 1 ≤ Z) (h6 : Z ≤ 5) : wrap64 (wrap64 (X * Y) * Z) = X * Y * Z := by
  have a := mul_bd (by omega : 0 ≤ X) h2 (by omega : 0 ≤ Y) h4
  have b := mul_bd a.1 a.2 (by omega : 0 ≤ Z) h6
  rw [w64 (by omega) (by omega) (x := X * Y), w64 (by omega) (by omega)]
theorem grid_pos {X Y Z : Int} (h : gridB X Y Z = true) : 1 ≤ X * Y * Z ∧ X * Y * Z ≤ 120 := by
  obtain ⟨h1, h2, h3, h4, h5, h6, h7⟩ := gridB_t h
  have a : 0 < X * Y := Int.mul_pos (by omega) (by omega)
  have b : 0 < X * Y * Z := Int.mul_pos a (by omega)
  omega
theorem impl_IsGrid_v (X Y Z : Int) : impl_IsGrid.f X Y Z = some (gridB X Y Z) := by
  unfold impl_IsGrid.f gridB
  repeat' split
  all_goals first
    | (rw [wrapXYZ (by omega) (by omega) (by omega) (by omega) (by omega) (by omega)]; congr 1; rw [decide_eq_decide]; omega)
    | (congr 1; symm; rw [decide_eq_false_iff_not]; omega)
theorem spec_grGood_v (X Y Z : Int) : spec_grGood.f X Y Z = some (gridB X Y Z) := by
  unfold spec_grGood.f gridB
  simp only [spec_l1In_v, Option.bind_some, decide_eq_true_eq]
  repeat' split
  all_goals first
    | (rw [wrapXYZ (by omega) (by omega) (by omega) (by omega) (by omega) (by omega)]; congr 1; rw [decide_eq_decide]; omega)
    | (congr 1; symm; rw [decide_eq_false_iff_not]; omega)
theorem spec_grCount_v {X Y Z : Int} (h : gridB X Y Z = true) : spec_grCount.f X Y Z = some (X * Y * Z) := by
  obtain ⟨h1, h2, h3, h4, h5, h6, h7⟩ := gridB_t h
  simp only [spec_grCount.f, wrapXYZ h1 h2 h3 h4 h5 h6]
theorem impl_blocksOf_v {X Y Z : Int} (h : gridB X Y Z = true) : impl_blocksOf.f X Y Z = some (X * Y * Z) := by
  obtain ⟨h1, h2, h3, h4, h5, h6, h7⟩ := gridB_t h
  simp only [impl_blocksOf.f, wrapXYZ h1 h2 h3 h4 h5 h6]
def hasB (X Y Z i : Int) : Bool := gridB X Y Z && decide (0 ≤ i ∧ i < X * Y * Z)
theorem hasB_t {X Y Z i : Int} (h : hasB X Y Z i = true) : gridB X Y Z = true ∧ 0 ≤ i ∧ i < X * Y * Z := by
  unfold hasB at h; rw [Bool.and_eq_true, decide_eq_true_eq] at h; exact h
theorem at_w {X Y x y z : Int} (hX : 0 ≤ X) (hX' : X ≤ 8) (hY : 0 ≤ Y) (hY' : Y ≤ 6) (hx : 0 ≤ x) (hx' : x ≤ 8) (hy : 0 ≤ y) (hy' : y ≤ 6) (hz : 0 ≤ z) (hz' : z ≤ 5) :
    wrap64 (wrap64 (wrap64 (wrap64 (z * Y) + y) * X) + x) = (z * Y + y) * X + x ∧ 0 ≤ (z * Y + y) * X + x := by
  have a := mul_bd hz hz' hY hY'
  have b := mul_bd (by omega : 0 ≤ z * Y + y) (by omega : z * Y + y ≤ 36) hX hX'
  rw [w64 (by omega) (by omega) (x := z * Y), w64 (by omega) (by omega) (x := z * Y + y), w64 (by omega) (by omega) (x := (z * Y + y) * X), w64 (by omega) (by omega)]
  exact ⟨rfl, by omega⟩
def inB (X Y Z x y z : Int) : Bool := decide (0 ≤ x ∧ x < X ∧ 0 ≤ y ∧ y < Y ∧ 0 ≤ z ∧ z < Z)
theorem tdiv_nn {a b : Int} (h : 0 ≤ a) : Int.tdiv a b = a / b := Int.tdiv_eq_ediv_of_nonneg h
theorem tmod_nn {a b : Int} (h : 0 ≤ a) : Int.tmod a b = a % b := Int.tmod_eq_emod_of_nonneg h
theorem place_bd {X Y Z i : Int} (h : hasB X Y Z i = true) : (0 ≤ i % X ∧ i % X < X) ∧ (0 ≤ i / X % Y ∧ i / X % Y < Y) ∧ (0 ≤ i / X / Y ∧ i / X / Y < Z) ∧ 0 ≤ i / X ∧ i / X ≤ i := by
  obtain ⟨hg, hi, hi'⟩ := hasB_t h
  obtain ⟨h1, h2, h3, h4, h5, h6, h7⟩ := gridB_t hg
  have a : 0 ≤ i / X := Int.ediv_nonneg hi (by omega)
  refine ⟨⟨Int.emod_nonneg _ (by omega), Int.emod_lt_of_pos _ (by omega)⟩, ⟨Int.emod_nonneg _ (by omega), Int.emod_lt_of_pos _ (by omega)⟩, ⟨Int.ediv_nonneg a (by omega), ?_⟩, a, Int.ediv_le_self _ hi⟩
  rw [Int.ediv_ediv_of_nonneg (by omega)]
  refine Int.ediv_lt_of_lt_mul (Int.mul_pos (by omega) (by omega)) ?_
  rw [Int.mul_comm Z]
  exact hi'
def coarseV (X Y i : Int) : Int := (i / X / Y * ((Y + 1) / 2) + i / X % Y / 2) * ((X + 1) / 2) + i % X / 2
def absI (n : Int) : Int := if n < 0 then -n else n
theorem absI_sub (a b : Int) : absI (a - b) = absI (b - a) := by unfold absI; repeat' split <;> omega
theorem absI_bd {a : Int} {B : Int} (h : -B ≤ a) (h' : a ≤ B) : 0 ≤ absI a ∧ absI a ≤ B := by unfold absI; split <;> omega
def stepsV (X Y i k : Int) : Int := absI (i % X - k % X) + absI (i / X % Y - k / X % Y) + absI (i / X / Y - k / X / Y)
theorem stepsV_comm (X Y i k : Int) : stepsV X Y i k = stepsV X Y k i := by
  unfold stepsV
  rw [absI_sub (i % X), absI_sub (i / X % Y), absI_sub (i / X / Y)]
theorem steps_bd {X Y Z i k : Int} (h : hasB X Y Z i = true) (h' : hasB X Y Z k = true) : (0 ≤ absI (i % X - k % X) ∧ absI (i % X - k % X) ≤ 8) ∧ (0 ≤ absI (i / X % Y - k / X % Y) ∧ absI (i / X % Y - k / X % Y) ≤ 8) ∧ (0 ≤ absI (i / X / Y - k / X / Y) ∧ absI (i / X / Y - k / X / Y) ≤ 8) := by
  obtain ⟨h1, h2, h3, h4, h5, h6, h7⟩ := gridB_t (hasB_t h).1
  have a := place_bd h
  have b := place_bd h'
  exact ⟨absI_bd (by omega) (by omega), absI_bd (by omega) (by omega), absI_bd (by omega) (by omega)⟩
def filtN (p : Int → Bool) : Nat → Nat → List Int
  | _, 0 => []
  | i, d + 1 => if p (i : Int) = true then (i : Int) :: filtN p (i + 1) d else filtN p (i + 1) d
theorem filtN_pos {p : Int → Bool} {i d : Nat} (h : p (i : Int) = true) : filtN p i (d + 1) = (i : Int) :: filtN p (i + 1) d := by rw [filtN, if_pos h]
theorem filtN_neg {p : Int → Bool} {i d : Nat} (h : ¬ p (i : Int) = true) : filtN p i (d + 1) = filtN p (i + 1) d := by rw [filtN, if_neg h]
theorem filtN_len (p : Int → Bool) : ∀ (d i : Nat), (filtN p i d).length ≤ d
  | 0, i => by simp [filtN]
  | d + 1, i => by
    have := filtN_len p d (i + 1)
    unfold filtN
    split <;> simp <;> omega
theorem filtN_mem (p : Int → Bool) : ∀ (d i : Nat) (x : Int), x ∈ filtN p i d ↔ (i : Int) ≤ x ∧ x < ((i + d : Nat) : Int) ∧ p x = true
  | 0, i, x => by simp [filtN]; omega
  | d + 1, i, x => by
    have ih := filtN_mem p d (i + 1) x
    by_cases h : p (i : Int) = true
    · rw [filtN_pos h, List.mem_cons, ih]
      constructor
      · rintro (rfl | ⟨h1, h2, h3⟩)
        · exact ⟨by omega, by omega, h⟩
        · exact ⟨by omega, by omega, h3⟩
      · rintro ⟨h1, h2, h3⟩
        by_cases e : x = (i : Int)
        · exact .inl e
        · exact .inr ⟨by omega, by omega, h3⟩
    · rw [filtN_neg h, ih]
      constructor
      · rintro ⟨h1, h2, h3⟩; exact ⟨by omega, by omega, h3⟩
      · rintro ⟨h1, h2, h3⟩
        refine ⟨?_, by omega, h3⟩
        by_cases e : x = (i : Int)
        · subst e; exact absurd h3 h
        · omega
theorem hasB_of {X Y Z i : Int} (h : gridB X Y Z = true) (h0 : 0 ≤ i) (h1 : i < X * Y * Z) : hasB X Y Z i = true := by
  unfold hasB; rw [h, Bool.true_and]; exact decide_eq_true ⟨h0, h1⟩
def nearB (X Y i r k : Int) : Bool := decide (absI (i % X - k % X) ≤ r ∧ absI (i / X % Y - k / X % Y) ≤ r ∧ absI (i / X / Y - k / X / Y) ≤ r)
def pieceB (T M R : Int) : Bool := decide (0 ≤ T ∧ T ≤ 10000 ∧ 0 ≤ M ∧ M ≤ 1000 * T ∧ 0 ≤ R ∧ R ≤ 4)
theorem pieceB_t {T M R : Int} (h : pieceB T M R = true) : 0 ≤ T ∧ T ≤ 10000 ∧ 0 ≤ M ∧ M ≤ 1000 * T ∧ 0 ≤ R ∧ R ≤ 4 := of_decide_eq_true h
def gcdI (x y : Int) : Int := (Nat.gcd x.toNat y.toNat : Nat)
theorem gcdI_step {x y : Int} (hx : 0 ≤ x) (hy : 0 ≤ y) : gcdI y (x % y) = gcdI x y := by
  unfold gcdI
  rw [Int.toNat_emod hx hy, Nat.gcd_comm, ← Nat.gcd_rec, Nat.gcd_comm]
theorem gcdI_zero {x : Int} (hx : 0 ≤ x) : gcdI x 0 = x := by
  unfold gcdI
  simp; omega
def modelB (X Y Z : Int) (t g r : List Int) : Bool := gridB X Y Z && decide ((t.length : Int) = X * Y * Z ∧ (g.length : Int) = X * Y * Z ∧ (r.length : Int) = X * Y * Z) && ((t.all fun x => decide (0 ≤ x ∧ x ≤ 10000)) && ((g.all fun x => decide (0 ≤ x ∧ x ≤ 1000)) && (r.all fun x => decide (0 ≤ x ∧ x ≤ 4))))
structure IsMod (X Y Z : Int) (t g r : List Int) : Prop where
  grid : gridB X Y Z = true
  lt : (t.length : Int) = X * Y * Z
  lg : g.length = t.length
  lr : r.length = t.length
  ht : ∀ x ∈ t, 0 ≤ x ∧ x ≤ 10000
  hg : ∀ x ∈ g, 0 ≤ x ∧ x ≤ 1000
  hr : ∀ x ∈ r, 0 ≤ x ∧ x ≤ 4
  pos : 1 ≤ t.length
  le : t.length ≤ 120
theorem modelB_iff {X Y Z : Int} {t g r : List Int} : modelB X Y Z t g r = true ↔ IsMod X Y Z t g r := by
  unfold modelB
  simp only [Bool.and_eq_true, decide_eq_true_eq, List.all_eq_true]
  constructor
  · rintro ⟨⟨h1, h2, h3, h4⟩, h5, h6, h7⟩
    have := grid_pos h1
    exact ⟨h1, h2, by omega, by omega, h5, h6, h7, by omega, by omega⟩
  · intro h
    have h1 := h.lt; have h2 := h.lg; have h3 := h.lr
    exact ⟨⟨h.grid, h1, by omega, by omega⟩, h.ht, h.hg, h.hr⟩
theorem modelB_t {X Y Z : Int} {t g r : List Int} (h : modelB X Y Z t g r = true) : IsMod X Y Z t g r := modelB_iff.1 h
theorem modelB_f {X Y Z : Int} {t g r : List Int} (h : ¬ modelB X Y Z t g r = true) : modelB X Y Z t g r = false := by simpa using h
theorem rd_mem {l : List Int} {i : Int} (h0 : 0 ≤ i) (h : i < (l.length : Int)) : rd l i ∈ l := by
  unfold rd
  rw [List.getD_eq_getElem?_getD, List.getElem?_eq_getElem (by omega)]
  exact List.getElem_mem _
theorem rd_of_getElem? {l : List Int} {i : Nat} {x : Int} (h : l[i]? = some x) : rd l (i : Int) = x := by
  rw [rd_nat, List.getD_eq_getElem?_getD, h]; rfl
theorem IsMod.rt {X Y Z : Int} {t g r : List Int} (h : IsMod X Y Z t g r) {i : Int} (h0 : 0 ≤ i) (h1 : i < (t.length : Int)) : 0 ≤ rd t i ∧ rd t i ≤ 10000 := h.ht _ (rd_mem h0 h1)
theorem IsMod.rg {X Y Z : Int} {t g r : List Int} (h : IsMod X Y Z t g r) {i : Int} (h0 : 0 ≤ i) (h1 : i < (t.length : Int)) : 0 ≤ rd g i ∧ rd g i ≤ 1000 := h.hg _ (rd_mem h0 (by have := h.lg; omega))
theorem IsMod.rr {X Y Z : Int} {t g r : List Int} (h : IsMod X Y Z t g r) {i : Int} (h0 : 0 ≤ i) (h1 : i < (t.length : Int)) : 0 ≤ rd r i ∧ rd r i ≤ 4 := h.hr _ (rd_mem h0 (by have := h.lr; omega))
theorem IsMod.rm {X Y Z : Int} {t g r : List Int} (h : IsMod X Y Z t g r) {i : Int} (h0 : 0 ≤ i) (h1 : i < (t.length : Int)) : 0 ≤ rd t i * rd g i ∧ rd t i * rd g i ≤ 10000000 :=
  mul_bd (h.rt h0 h1).1 (h.rt h0 h1).2 (h.rg h0 h1).1 (h.rg h0 h1).2
theorem impl_IsModel_l (X Y Z : Int) (t g r : List Int) (hn : t.length ≤ 1152921504606846976) (hg : g.length = t.length) (hr : r.length = t.length) : ∀ (d k i : Nat), i + d = t.length → d < k →
    impl_IsModel.l0 k (t.length : Int) (i : Int) X Y Z t g r = some (((t.drop i).all fun x => decide (0 ≤ x ∧ x ≤ 10000)) && (((g.drop i).all fun x => decide (0 ≤ x ∧ x ≤ 1000)) && ((r.drop i).all fun x => decide (0 ≤ x ∧ x ≤ 4)))) := by
  intro d
  induction d with
  | zero =>
    intro k i hi hk
    obtain ⟨k, rfl⟩ := k_succ (by omega : 0 < k)
    simp only [impl_IsModel.l0]
    rw [if_neg (by omega), List.drop_eq_nil_of_le (by omega), List.drop_eq_nil_of_le (by omega), List.drop_eq_nil_of_le (by omega)]
    rfl
  | succ d ih =>
    intro k i hi hk
    obtain ⟨k, rfl⟩ := k_succ (by omega : 0 < k)
    simp only [impl_IsModel.l0]
    rw [if_pos (by omega), if_pos (by omega), if_pos (by omega), drop_rd (by omega : i < t.length), drop_rd (by omega : i < g.length), drop_rd (by omega : i < r.length), w64_succ (by omega), ih k (i + 1) (by omega) (by omega)]
    simp only [List.all_cons]
    by_cases h1 : 0 ≤ rd t (i : Int) ∧ rd t (i : Int) ≤ 10000
    · rw [if_neg (by omega), if_neg (by omega), if_pos (by omega), decide_eq_true h1]
      by_cases h2 : 0 ≤ rd g (i : Int) ∧ rd g (i : Int) ≤ 1000
      · rw [if_neg (by omega), if_neg (by omega), if_pos (by omega), decide_eq_true h2]
        by_cases h3 : 0 ≤ rd r (i : Int) ∧ rd r (i : Int) ≤ 4
        · rw [if_neg (by omega), if_neg (by omega), decide_eq_true h3]
          simp only [Bool.true_and]
        · rw [decide_eq_false h3]
          simp only [Bool.true_and, Bool.false_and, Bool.and_false]
          split
          · rfl
          · rw [if_pos (by omega)]
      · rw [decide_eq_false h2]
        simp only [Bool.true_and, Bool.false_and, Bool.and_false]
        split
        · rfl
        · rw [if_pos (by omega)]
    · rw [decide_eq_false h1]
      simp only [Bool.false_and]
      split
      · rfl
      · rw [if_pos (by omega)]
theorem impl_IsModel_v (X Y Z : Int) (t g r : List Int) {k : Nat} (hk : 122 < k) : impl_IsModel.f k X Y Z t g r = some (modelB X Y Z t g r) := by
  obtain ⟨k, rfl⟩ := k_succ (by omega : 0 < k)
  unfold impl_IsModel.f modelB
  rw [impl_IsGrid_v]
  cases h : gridB X Y Z with
  | false => simp
  | true =>
    have := grid_pos h
    simp only [Option.bind_some, if_true, impl_blocksOf_v h, Bool.true_and, impl_IsModel.j0]
    by_cases h1 : (t.length : Int) = X * Y * Z
    · rw [if_pos h1]
      by_cases h2 : (g.length : Int) = X * Y * Z
      · rw [if_pos h2]
        by_cases h3 : (r.length : Int) = X * Y * Z
        · rw [if_neg (by simp [h3]), decide_eq_true (by omega), Bool.true_and, ← h1]
          have := impl_IsModel_l X Y Z t g r (by omega) (by omega) (by omega) t.length k 0 (by omega) (by omega)
          simpa using this
        · rw [if_pos (by simp [h3]), decide_eq_false (by omega), Bool.false_and]
      · rw [if_neg h2, decide_eq_false (by omega), Bool.false_and]
    · rw [if_neg h1, decide_eq_false (by omega), Bool.false_and]
theorem spec_moGood_v (X Y Z : Int) (t g r : List Int) {k : Nat} (hk : 122 < k) : spec_moGood.f k X Y Z t g r = some (modelB X Y Z t g r) := by
  unfold spec_moGood.f modelB
  rw [spec_grGood_v]
  cases h : gridB X Y Z with
  | false => simp
  | true =>
    have := grid_pos h
    simp only [Option.bind_some, if_true, spec_grCount_v h, Bool.true_and]
    by_cases h1 : (t.length : Int) = X * Y * Z
    · rw [if_pos h1]
      by_cases h2 : (g.length : Int) = X * Y * Z
      · rw [if_pos h2]
        by_cases h3 : (r.length : Int) = X * Y * Z
        · rw [if_pos h3, decide_eq_true (by omega), Bool.true_and, spec_l1All_v _ _ t (by omega) (by omega), spec_l1All_v _ _ g (by omega) (by omega), spec_l1All_v _ _ r (by omega) (by omega)]
          simp only [Option.bind_some]
          cases (t.all fun x => decide (0 ≤ x ∧ x ≤ 10000)) <;> cases (g.all fun x => decide (0 ≤ x ∧ x ≤ 1000)) <;> simp
        · rw [if_neg h3, decide_eq_false (by omega), Bool.false_and]
      · rw [if_neg h2, decide_eq_false (by omega), Bool.false_and]
    · rw [if_neg h1, decide_eq_false (by omega), Bool.false_and]
theorem laws_szIntS_v (l : List Int) (a : Int) (hm : l.length ≤ maxLen) (h0 : 0 ≤ a) (h1 : a ≤ 1048576) : laws_szIntS.f l a = some (if a < (l.length : Int) then -1 else a - (l.length : Int)) := by
  unfold maxLen at hm
  unfold laws_szIntS.f
  rw [w64 (by omega) (by omega)]
  by_cases h : a < (l.length : Int)
  · rw [if_pos (by omega), if_pos h]
  · rw [if_neg (by omega), if_neg h]
theorem laws_szModel_v (X Y Z : Int) (t g r : List Int) (h3 : t.length ≤ maxLen) (h4 : g.length ≤ maxLen) (h5 : r.length ≤ maxLen) :
    (∃ s, laws_szModel.f X Y Z t g r 1048576 = some s ∧ s < 0) ∨ (∃ s, laws_szModel.f X Y Z t g r 1048576 = some s ∧ ¬ s < 0 ∧ t.length ≤ 1048576 ∧ g.length ≤ 1048576 ∧ r.length ≤ 1048576) := by
  unfold laws_szModel.f
  rw [laws_szIntS_v t _ h3 (by omega) (by omega), Option.bind_some]
  by_cases a : (1048576 : Int) < (t.length : Int)
  · rw [if_pos a]; exact .inl ⟨-1, by simp, by omega⟩
  · rw [if_neg a, if_neg (by omega), laws_szIntS_v g _ h4 (by omega) (by omega), Option.bind_some]
    by_cases b : (1048576 - (t.length : Int)) < (g.length : Int)
    · rw [if_pos b]; exact .inl ⟨-1, by simp, by omega⟩
    · rw [if_neg b, if_neg (by omega), laws_szIntS_v r _ h5 (by omega) (by omega), Option.bind_some]
      by_cases c : (1048576 - (t.length : Int) - (g.length : Int)) < (r.length : Int)
      · rw [if_pos c]; exact .inl ⟨-1, by simp, by omega⟩
      · rw [if_neg c, if_neg (by omega)]; exact .inr ⟨_, rfl, by omega, by omega, by omega, by omega⟩
theorem laws_toModel_v (X Y Z : Int) (t g r : List Int) (h3 : t.length ≤ 1048576) (h4 : g.length ≤ 1048576) (h5 : r.length ≤ 1048576) {k : Nat} (hk : 1048576 < k) : laws_toModel.f k X Y Z t g r = some (X, Y, Z, t, g, r) := by
  unfold laws_toModel.f
  rw [laws_toIntS_v t (by omega) (by omega), laws_toIntS_v g (by omega) (by omega), laws_toIntS_v r (by omega) (by omega)]
  rfl
theorem laws_eqModel_v (X Y Z : Int) (t g r : List Int) (h3 : t.length ≤ 1048576) (h4 : g.length ≤ 1048576) (h5 : r.length ≤ 1048576) {k : Nat} (hk : 1048576 < k) : laws_eqModel.f k X Y Z t g r X Y Z t g r = some true := by
  unfold laws_eqModel.f
  rw [laws_eqIntS_v t t (by omega) (by omega), laws_eqIntS_v g g (by omega) (by omega), laws_eqIntS_v r r (by omega) (by omega)]
  simp [laws_eqGrid.f]
def risF (n : Int) : Int → List Int → Bool
  | _, [] => true
  | p, x :: xs => decide (0 ≤ x ∧ x < n ∧ p < x) && risF n x xs
def risB (n : Int) (l : List Int) : Bool := risF n (-1) l
theorem risF_cons (n p x : Int) (xs : List Int) : risF n p (x :: xs) = (decide (0 ≤ x ∧ x < n ∧ p < x) && risF n x xs) := rfl
theorem risF_mem {n : Int} : ∀ {p : Int} {l : List Int}, risF n p l = true → ∀ x ∈ l, 0 ≤ x ∧ x < n
  | _, [], _, x, hx => by cases hx
  | p, y :: l, h, x, hx => by
    unfold risF at h
    rw [Bool.and_eq_true, decide_eq_true_eq] at h
    rcases List.mem_cons.1 hx with rfl | hx
    · exact ⟨h.1.1, h.1.2.1⟩
    · exact risF_mem h.2 x hx
theorem risF_len {n : Int} : ∀ {p : Int} {l : List Int}, -1 ≤ p → p < n → risF n p l = true → (l.length : Int) + p < n
  | p, [], h0, h1, _ => by simp; omega
  | p, x :: l, h0, h1, h => by
    unfold risF at h
    rw [Bool.and_eq_true, decide_eq_true_eq] at h
    have := risF_len (by omega) h.1.2.1 h.2
    simp only [List.length_cons]
    omega
theorem risB_mem {n : Int} {l : List Int} (h : risB n l = true) : ∀ x ∈ l, 0 ≤ x ∧ x < n := risF_mem h
theorem risB_len {n : Int} {l : List Int} (hn : 0 ≤ n) (h : risB n l = true) : (l.length : Int) ≤ n := by have := risF_len (by omega) (by omega) h; omega
def sumT (t l : List Int) : Int := (l.map (rd t)).sum
def sumM (t g l : List Int) : Int := (l.map fun i => rd t i * rd g i).sum
theorem sum_bd (f : Int → Int) (B : Int) (hB : 0 ≤ B) : ∀ (l : List Int), (∀ x ∈ l, 0 ≤ f x ∧ f x ≤ B) → 0 ≤ (l.map f).sum ∧ (l.map f).sum ≤ B * (l.length : Int)
  | [], _ => by simp
  | x :: l, h => by
    have h1 := h x (by simp)
    have h2 := sum_bd f B hB l (fun y hy => h y (by simp [hy]))
    simp only [List.map_cons, List.sum_cons, List.length_cons]
    have e : B * ((l.length + 1 : Nat) : Int) = B * (l.length : Int) + B := by
      rw [show ((l.length + 1 : Nat) : Int) = (l.length : Int) + 1 by omega, Int.mul_add, Int.mul_one]
    omega
def filtI (p : Int → Bool) : List Int → Nat → List Int
  | [], _ => []
  | x :: l, i => if p x = true then (i : Int) :: filtI p l (i + 1) else filtI p l (i + 1)
theorem filtI_pos {p : Int → Bool} {x : Int} {l : List Int} {i : Nat} (h : p x = true) : filtI p (x :: l) i = (i : Int) :: filtI p l (i + 1) := by rw [filtI, if_pos h]
theorem filtI_neg {p : Int → Bool} {x : Int} {l : List Int} {i : Nat} (h : ¬ p x = true) : filtI p (x :: l) i = filtI p l (i + 1) := by rw [filtI, if_neg h]
theorem filtI_len (p : Int → Bool) : ∀ (l : List Int) (i : Nat), (filtI p l i).length ≤ l.length
  | [], _ => by simp [filtI]
  | x :: l, i => by
    have := filtI_len p l (i + 1)
    unfold filtI
    split <;> simp <;> omega
theorem W0 : wrap64 (0 + 1) = 1 := w64 (by decide) (by decide)
theorem W1 : wrap64 (1 + 1) = 2 := w64 (by decide) (by decide)
theorem W2 : wrap64 (2 + 1) = 3 := w64 (by decide) (by decide)
theorem W3 : wrap64 (3 + 1) = 4 := w64 (by decide) (by decide)
theorem spec_l1Num_d {v : Int} (h0 : 0 ≤ v) (h1 : v < 10) (k : Nat) : spec_l1Num.f (k + 1) v = some (strOfNums [48 + v]) := by
  rw [spec_l1Num.f, if_pos h1, w64 (by omega) (by omega), show (48 + v) % 256 = 48 + v by omega]
theorem digit_size {v : Int} (h0 : 0 ≤ v) (h1 : v < 10) : (strOfNums [48 + v]).size = 1 := by
  have : v = 0 ∨ v = 1 ∨ v = 2 ∨ v = 3 ∨ v = 4 ∨ v = 5 ∨ v = 6 ∨ v = 7 ∨ v = 8 ∨ v = 9 := by omega
  rcases this with rfl | rfl | rfl | rfl | rfl | rfl | rfl | rfl | rfl | rfl <;> rfl
theorem strconv_Itoa_d {v : Int} (h0 : 0 ≤ v) (h1 : v < 10) : strconv_Itoa.f v = some (strOfNums [48 + v]) := by
  have : v = 0 ∨ v = 1 ∨ v = 2 ∨ v = 3 ∨ v = 4 ∨ v = 5 ∨ v = 6 ∨ v = 7 ∨ v = 8 ∨ v = 9 := by omega
  rcases this with rfl | rfl | rfl | rfl | rfl | rfl | rfl | rfl | rfl | rfl <;> (rw [strconv_Itoa.f, if_pos (by decide), if_pos (by decide)]; congr 1; kernel_rfl)
def gtextV (X Y Z : Int) : ByteArray := strOfNums [48 + X] ++ (⟨#[120]⟩ : ByteArray) ++ strOfNums [48 + Y] ++ (⟨#[120]⟩ : ByteArray) ++ strOfNums [48 + Z]
theorem spec_grText_v {X Y Z : Int} (h : gridB X Y Z = true) (k : Nat) : spec_grText.f (k + 1) X Y Z = some (gtextV X Y Z) := by
  obtain ⟨h1, h2, h3, h4, h5, h6, h7⟩ := gridB_t h
  have s1 := digit_size (by omega : 0 ≤ X) (by omega)
  have s2 := digit_size (by omega : 0 ≤ Y) (by omega)
  have s3 := digit_size (by omega : 0 ≤ Z) (by omega)
  have s0 : (⟨#[120]⟩ : ByteArray).size = 1 := rfl
  unfold spec_grText.f gtextV
  rw [spec_l1Num_d (by omega) (by omega), Option.bind_some, if_pos (by omega), spec_l1Num_d (by omega) (by omega), Option.bind_some]
  simp only [ByteArray.size_append, s0, s1, s2, s3]
  rw [if_pos (by omega), if_pos (by omega), spec_l1Num_d (by omega) (by omega), Option.bind_some]
  simp only [s3]
  rw [if_pos (by omega)]
def numV (n : Int) : ByteArray := ⟨(Lib.decDigits n.toNat).toArray⟩
theorem decDigits_lt {u : Nat} (h : u < 10) : Lib.decDigits u = [UInt8.ofNat (48 + u)] := by rw [Lib.decDigits, dif_pos h]
theorem decDigits_ge {u : Nat} (h : 10 ≤ u) : Lib.decDigits u = Lib.decDigits (u / 10) ++ [UInt8.ofNat (48 + u % 10)] := by rw [Lib.decDigits, dif_neg (by omega)]
theorem numV_lt {v : Int} (h0 : 0 ≤ v) (h : v < 10) : numV v = strOfNums [48 + v] := by
  unfold numV strOfNums
  rw [decDigits_lt (by omega)]
  congr 3
  simp only [List.map_cons, List.map_nil]
  congr 2
  omega
theorem numV_ge {v : Int} (h : 10 ≤ v) : numV v = numV (v / 10) ++ strOfNums [48 + v % 10] := by
  unfold numV strOfNums
  rw [decDigits_ge (by omega)]
  apply ByteArray.ext
  simp only [ByteArray.data_append, List.map_cons, List.map_nil]
  rw [show (v / 10).toNat = v.toNat / 10 by omega, show (48 + v % 10).toNat = 48 + v.toNat % 10 by omega]
  simp
theorem numV_size {v : Int} (d : Nat) : 0 ≤ v → v < 10 ^ (d + 1) → (numV v).size ≤ d + 1 := by
  induction d generalizing v with
  | zero => intro h0 h; rw [numV_lt h0 (by simpa using h)]; exact Nat.le_refl _
  | succ d ih =>
    intro h0 h
    by_cases c : v < 10
    · rw [numV_lt h0 c]; show 1 ≤ _; omega
    · rw [numV_ge (by omega), ByteArray.size_append]
      have := ih (v := v / 10) (by omega) (by rw [Int.pow_succ] at h; omega)
      show _ + 1 ≤ _
      omega
theorem numV_size7 {v : Int} (h0 : 0 ≤ v) (h1 : v ≤ 1000000) : (numV v).size ≤ 7 := numV_size 6 h0 (by omega)
theorem spec_l1Num_u (d : Nat) : ∀ (v : Int) (k : Nat), 0 ≤ v → v < 10 ^ (d + 1) → v ≤ 1000000 → spec_l1Num.f (k + d + 1) v = some (numV v) := by
  induction d with
  | zero =>
    intro v k h0 h h1
    have h : v < 10 := by simpa using h
    rw [numV_lt h0 h]
    exact spec_l1Num_d h0 h k
  | succ d ih =>
    intro v k h0 h h1
    by_cases c : v < 10
    · rw [numV_lt h0 c]
      exact spec_l1Num_d h0 c (k + d + 1)
    · have e1 : Int.tdiv v 10 = v / 10 := Int.tdiv_eq_ediv_of_nonneg h0
      have e2 : Int.tmod v 10 = v % 10 := Int.tmod_eq_emod_of_nonneg h0
      have hs := numV_size7 (v := v / 10) (by omega) (by omega)
      rw [show k + (d + 1) + 1 = (k + d + 1) + 1 by omega, spec_l1Num.f, if_neg c, e1, w64 (by omega) (by omega), ih (v / 10) k (by omega) (by rw [Int.pow_succ] at h; omega) (by omega), Option.bind_some, Option.bind_some, e2, w64 (by omega) (by omega), show (48 + v % 10) % 256 = 48 + v % 10 by omega, if_pos (by have : (strOfNums [48 + v % 10]).size = 1 := rfl; omega), ← numV_ge (by omega)]
theorem spec_l1Num_v {v : Int} (h0 : 0 ≤ v) (h1 : v ≤ 1000000) {k : Nat} (hk : 7 ≤ k) : spec_l1Num.f k v = some (numV v) := by
  obtain ⟨j, rfl⟩ : ∃ j, k = j + 6 + 1 := ⟨k - 7, by omega⟩
  exact spec_l1Num_u 6 v j h0 (by omega) h1
theorem strconv_Itoa_v {v : Int} (h0 : 0 ≤ v) (h1 : v ≤ 1000000) : strconv_Itoa.f v = some (numV v) := by
  unfold strconv_Itoa.f numV
  rw [if_pos h0, if_pos (by omega)]
def tripV (a b c : Int) : ByteArray := (((numV a ++ (⟨#[32]⟩ : ByteArray)) ++ numV b) ++ (⟨#[32]⟩ : ByteArray)) ++ numV c
theorem tripV_size {a b c : Int} (a0 : 0 ≤ a) (a1 : a ≤ 1000000) (b0 : 0 ≤ b) (b1 : b ≤ 1000000) (c0 : 0 ≤ c) (c1 : c ≤ 1000000) : (tripV a b c).size ≤ 23 := by
  have h1 := numV_size7 a0 a1
  have h2 := numV_size7 b0 b1
  have h3 := numV_size7 c0 c1
  have s0 : (⟨#[32]⟩ : ByteArray).size = 1 := rfl
  unfold tripV
  simp only [ByteArray.size_append, s0]
  omega
theorem join_three (x y z : ByteArray) : (⟨(Lib.join ([x, y, z].map (·.data.toList)) (⟨#[32]⟩ : ByteArray).data.toList).toArray⟩ : ByteArray) = (((x ++ (⟨#[32]⟩ : ByteArray)) ++ y) ++ (⟨#[32]⟩ : ByteArray)) ++ z := by
  apply ByteArray.ext
  simp [Lib.join, List.intercalate, List.intersperse]
theorem impl_numbersText_v {a b c : Int} (a0 : 0 ≤ a) (a1 : a ≤ 1000000) (b0 : 0 ≤ b) (b1 : b ≤ 1000000) (c0 : 0 ≤ c) (c1 : c ≤ 1000000) {k : Nat} (hk : 4 ≤ k) : impl_numbersText.f k [a, b, c] = some (tripV a b c) := by
  obtain ⟨j, rfl⟩ : ∃ j, k = j + 4 := ⟨k - 4, by omega⟩
  have hz := tripV_size a0 a1 b0 b1 c0 c1
  have hj := join_three (numV a) (numV b) (numV c)
  have hl : (Lib.join ([numV a, numV b, numV c].map (·.data.toList)) (⟨#[32]⟩ : ByteArray).data.toList).length = (tripV a b c).size := by
    unfold tripV
    rw [← hj]
    simp [ByteArray.size]
  have r0 : rd [a, b, c] 0 = a := rfl
  have r1 : rd [a, b, c] 1 = b := rfl
  have r2 : rd [a, b, c] 2 = c := rfl
  unfold impl_numbersText.f
  have e3 : strings_Join.f [numV a, numV b, numV c] (⟨#[32]⟩ : ByteArray) = some (tripV a b c, [numV a, numV b, numV c]) := by
    unfold strings_Join.f
    rw [if_pos (show ([numV a, numV b, numV c] : List ByteArray).length ≤ 140737488355328 by simp), if_pos (by rw [hl]; omega), hj]
    rfl
  simp (decide := true) only [impl_numbersText.l0, List.length_cons, List.length_nil, W0, W1, W2, r0, r1, r2, strconv_Itoa_v, a0, a1, b0, b1, c0, c1, Option.bind_some, List.nil_append, List.cons_append, e3, if_true, if_false]
def moV (t g r : List Int) : Nat → Nat → ByteArray → ByteArray
  | 0, _, x => x
  | d + 1, i, x => moV t g r d (i + 1) (x ++ (tripV (rd t (i : Int)) (rd g (i : Int)) (rd r (i : Int)) ++ (⟨#[10]⟩ : ByteArray)))
theorem impl_ModelText_l {X Y Z : Int} {t g r : List Int} (hm : IsMod X Y Z t g r) (hn : t.length ≤ 1000) : ∀ (d i k : Nat) (x : ByteArray), i + d = t.length → d + 10 < k → x.size + 30 * d ≤ 1000000 →
    impl_ModelText.l0 k x (t.length : Int) (i : Int) X Y Z t g r = some (moV t g r d i x, true) := by
  intro d
  induction d with
  | zero =>
    intro i k x hi hk hx
    obtain ⟨k, rfl⟩ := k_succ (by omega : 0 < k)
    simp only [impl_ModelText.l0]
    rw [if_neg (by omega)]
    rfl
  | succ d ih =>
    intro i k x hi hk hx
    obtain ⟨k, rfl⟩ := k_succ (by omega : 0 < k)
    have q1 := hm.rt (i := (i : Int)) (by omega) (by omega)
    have q2 := hm.rg (i := (i : Int)) (by omega) (by omega)
    have q3 := hm.rr (i := (i : Int)) (by omega) (by omega)
    have l1 := hm.lg
    have l2 := hm.lr
    have hz := tripV_size q1.1 (by omega) q2.1 (by omega) q3.1 (by omega)
    have s0 : (⟨#[10]⟩ : ByteArray).size = 1 := rfl
    simp only [impl_ModelText.l0]
    rw [if_pos (by omega), if_pos (by omega), if_pos (by omega), if_pos (by omega), if_pos (by omega), impl_numbersText_v q1.1 (by omega) q2.1 (by omega) q3.1 (by omega) (by omega), Option.bind_some, if_pos (by omega), if_pos (by rw [ByteArray.size_append, s0]; omega), w64_succ (by omega),
      ih (i + 1) k _ (by omega) (by omega) (by rw [ByteArray.size_append, ByteArray.size_append, s0]; omega)]
    rfl
theorem spec_moText_l {X Y Z : Int} {t g r : List Int} (hm : IsMod X Y Z t g r) (hn : t.length ≤ 1000) : ∀ (d i k : Nat) (x : ByteArray), i + d = t.length → d + 10 < k → x.size + 30 * d ≤ 1000000 →
    spec_moText.l0 k x t (t.length : Int) (i : Int) X Y Z t g r = some (moV t g r d i x) := by
  intro d
  induction d with
  | zero =>
    intro i k x hi hk hx
    obtain ⟨k, rfl⟩ := k_succ (by omega : 0 < k)
    simp only [spec_moText.l0]
    rw [if_neg (by omega)]
    rfl
  | succ d ih =>
    intro i k x hi hk hx
    obtain ⟨k, rfl⟩ := k_succ (by omega : 0 < k)
    have q1 := hm.rt (i := (i : Int)) (by omega) (by omega)
    have q2 := hm.rg (i := (i : Int)) (by omega) (by omega)
    have q3 := hm.rr (i := (i : Int)) (by omega) (by omega)
    have l1 := hm.lg
    have l2 := hm.lr
    have z1 := numV_size7 q1.1 (by omega)
    have z2 := numV_size7 q2.1 (by omega)
    have z3 := numV_size7 q3.1 (by omega)
    have s0 : (⟨#[10]⟩ : ByteArray).size = 1 := rfl
    have s1 : (⟨#[32]⟩ : ByteArray).size = 1 := rfl
    have ht := ih (i + 1) k (x ++ (tripV (rd t (i : Int)) (rd g (i : Int)) (rd r (i : Int)) ++ (⟨#[10]⟩ : ByteArray))) (by omega) (by omega) (by unfold tripV; simp only [ByteArray.size_append, s0, s1]; omega)
    unfold tripV at ht
    simp only [spec_moText.l0]
    rw [if_pos (by omega), if_pos (by omega), if_pos (by omega), spec_l1Num_v q1.1 (by omega) (by omega), Option.bind_some, if_pos (by omega), if_pos (by omega), spec_l1Num_v q2.1 (by omega) (by omega), Option.bind_some,
      if_pos (by simp only [ByteArray.size_append, s1]; omega), if_pos (by simp only [ByteArray.size_append, s1]; omega), if_pos (by omega), spec_l1Num_v q3.1 (by omega) (by omega), Option.bind_some,
      if_pos (by simp only [ByteArray.size_append, s1]; omega), if_pos (by simp only [ByteArray.size_append, s1]; omega), if_pos (by simp only [ByteArray.size_append, s0, s1]; omega), w64_succ (by omega), ht]
    rfl
def mtextV (X Y Z : Int) (t g r : List Int) : ByteArray := moV t g r t.length 0 (((⟨#[109, 111, 100, 101, 108, 32]⟩ : ByteArray) ++ gtextV X Y Z) ++ (⟨#[10]⟩ : ByteArray))
def mtextR (X Y Z : Int) (t g r : List Int) : ByteArray × Bool := if modelB X Y Z t g r = true then (mtextV X Y Z t g r, true) else (⟨#[]⟩, false)
theorem gtextV_size {X Y Z : Int} (h : gridB X Y Z = true) : (gtextV X Y Z).size = 5 := by
  obtain ⟨h1, h2, h3, h4, h5, h6, h7⟩ := gridB_t h
  have s1 := digit_size (by omega : 0 ≤ X) (by omega)
  have s2 := digit_size (by omega : 0 ≤ Y) (by omega)
  have s3 := digit_size (by omega : 0 ≤ Z) (by omega)
  have s0 : (⟨#[120]⟩ : ByteArray).size = 1 := rfl
  unfold gtextV
  simp only [ByteArray.size_append, s0, s1, s2, s3]
theorem impl_GridText_g {X Y Z : Int} (h : gridB X Y Z = true) : impl_GridText.f X Y Z = some (gtextV X Y Z, true) := by
  obtain ⟨h1, h2, h3, h4, h5, h6, h7⟩ := gridB_t h
  have s1 := digit_size (by omega : 0 ≤ X) (by omega)
  have s2 := digit_size (by omega : 0 ≤ Y) (by omega)
  have s3 := digit_size (by omega : 0 ≤ Z) (by omega)
  have s0 : (⟨#[120]⟩ : ByteArray).size = 1 := rfl
  unfold impl_GridText.f gtextV
  rw [impl_IsGrid_v, Option.bind_some, if_pos h, strconv_Itoa_d (by omega) (by omega), Option.bind_some, if_pos (by omega), strconv_Itoa_d (by omega) (by omega), Option.bind_some]
  simp only [ByteArray.size_append, s0, s1, s2, s3]
  rw [if_pos (by omega), if_pos (by omega), strconv_Itoa_d (by omega) (by omega), Option.bind_some]
  simp only [s3]
  rw [if_pos (by omega)]
theorem IsMod.len {X Y Z : Int} {t g r : List Int} (h : modelB X Y Z t g r = true) : gridB X Y Z = true ∧ t.length ≤ 120 := by
  unfold modelB at h
  simp only [Bool.and_eq_true, decide_eq_true_eq] at h
  have hg := h.1.1
  obtain ⟨h1, h2, h3, h4, h5, h6, h7⟩ := gridB_t hg
  exact ⟨hg, by omega⟩
theorem impl_ModelText_v (X Y Z : Int) (t g r : List Int) {k : Nat} (hk : 200 < k) : impl_ModelText.f k X Y Z t g r = some (mtextR X Y Z t g r) := by
  unfold impl_ModelText.f mtextR
  rw [impl_IsModel_v _ _ _ _ _ _ (by omega), Option.bind_some]
  cases h : modelB X Y Z t g r with
  | false => rfl
  | true =>
    obtain ⟨hg, hl⟩ := IsMod.len h
    have sg := gtextV_size hg
    have s0 : (⟨#[109, 111, 100, 101, 108, 32]⟩ : ByteArray).size = 6 := rfl
    have s1 : (⟨#[10]⟩ : ByteArray).size = 1 := rfl
    rw [if_pos rfl, if_pos rfl, impl_GridText_g hg, Option.bind_some]
    dsimp only
    rw [if_pos (by omega), if_pos (by rw [ByteArray.size_append, s0]; omega)]
    exact impl_ModelText_l (modelB_t h) (by omega) t.length 0 k _ (by omega) (by omega) (by rw [ByteArray.size_append, ByteArray.size_append, s0, s1]; omega)
theorem spec_moText_v {X Y Z : Int} {t g r : List Int} (h : modelB X Y Z t g r = true) {k : Nat} (hk : 200 < k) : spec_moText.f k X Y Z t g r = some (mtextV X Y Z t g r) := by
  obtain ⟨hg, hl⟩ := IsMod.len h
  have sg := gtextV_size hg
  have s0 : (⟨#[109, 111, 100, 101, 108, 32]⟩ : ByteArray).size = 6 := rfl
  have s1 : (⟨#[10]⟩ : ByteArray).size = 1 := rfl
  obtain ⟨j, rfl⟩ := k_succ (by omega : 0 < k)
  unfold spec_moText.f
  rw [spec_grText_v hg, Option.bind_some, if_pos (by omega), if_pos (by rw [ByteArray.size_append, s0]; omega)]
  exact spec_moText_l (modelB_t h) (by omega) t.length 0 (j + 1) _ (by omega) (by omega) (by rw [ByteArray.size_append, ByteArray.size_append, s0, s1]; omega)
theorem spec_ModelText_v (X Y Z : Int) (t g r : List Int) {k : Nat} (hk : 200 < k) : spec_ModelText.f k X Y Z t g r = some (mtextR X Y Z t g r) := by
  unfold spec_ModelText.f mtextR
  rw [spec_moGood_v _ _ _ _ _ _ (by omega), Option.bind_some]
  cases h : modelB X Y Z t g r with
  | false => rfl
  | true => rw [if_pos rfl, if_pos rfl, spec_moText_v h hk, Option.bind_some]
theorem pure_FnExactModelText (X Y Z : Int) (t g r : List Int) (w0 : (Lit.int .i64 X).wf = true) (w1 : (Lit.int .i64 Y).wf = true) (w2 : (Lit.int .i64 Z).wf = true) (hm3 : t.length ≤ maxLen) (hw3 : ∀ x ∈ t, (Lit.int .i64 x).wf = true) (hm4 : g.length ≤ maxLen) (hw4 : ∀ x ∈ g, (Lit.int .i64 x).wf = true) (hm5 : r.length ≤ maxLen) (hw5 : ∀ x ∈ r, (Lit.int .i64 x).wf = true) : ∃ k, laws_FnExactModelText.f k X Y Z t g r = some true := by
  obtain ⟨K, hK⟩ : ∃ K : Nat, 1048576 < K := ⟨_, Nat.lt_succ_self _⟩
  refine ⟨K + 4, ?_⟩
  unfold laws_FnExactModelText.f
  rcases laws_szModel_v X Y Z t g r hm3 hm4 hm5 with ⟨s, hs, h⟩ | ⟨s, hs, h, l3, l4, l5⟩
  · rw [hs, Option.bind_some, if_pos h]
  · rw [hs, Option.bind_some, if_neg h]
    simp (disch := omega) only [laws_toModel_v, Option.bind_some, spec_ModelText_v, impl_ModelText_v, laws_FnExactModelText.j0, laws_eqModel_v]
    simp

end Go.Proofs.YtckhegdfabcehaaDoor.Pure
