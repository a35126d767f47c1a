/- What the printed Lean functions behind FnGrades come to, and from that the pure statement of FnGrades: it answers true. No condition beyond those that the given statement itself has. -/
import Derived.Test.YtdfjlelbkkaloaaPFnGradesx19
import Derived.Lib.SmallJoins
namespace Go.Proofs.Ytdfjlelbkkaloaa.Pure
open Go.RowKit Go.Proofs.Ytdfjlelbkkaloaa.PFnGrades Go.Proofs.YtdfjlelbkkaloaaW.PrintWords Go.Proofs.YtdfjlelbkkaloaaW.PrintLast Go.Proofs.YtdfjlelbkkaloaaW.PrintMore
set_option linter.unusedVariables false
set_option linter.unusedSimpArgs false

theorem w64 {x : Int} (h1 : -9223372036854775808 ≤ x) (h2 : x ≤ 9223372036854775807) : wrap64 x = x := by unfold wrap64; omega
theorem wf_i64 {x : Int} (h : (Lit.int .i64 x).wf = true) : -9223372036854775808 ≤ x ∧ x ≤ 9223372036854775807 := Go.Joins.in64_of_wf h
theorem mul_bd {a b A B : Int} (ha : 0 ≤ a) (hA : a ≤ A) (hb : 0 ≤ b) (hB : b ≤ B) : 0 ≤ a * b ∧ a * b ≤ A * B :=
  ⟨Int.mul_nonneg ha hb, Int.mul_le_mul hA hB hb (by omega)⟩
theorem rd_nat (l : List Int) (i : Nat) : rd l (i : Int) = l.getD i 0 := by simp [rd]
theorem rd_get {l : List Int} {i : Nat} (h : i < l.length) : rd l (i : Int) = l[i] := by rw [rd_nat, List.getD_eq_getElem?_getD, List.getElem?_eq_getElem h]; rfl
theorem rd_set {l : List Int} {i : Nat} {v : Int} (j : Int) (h0 : 0 ≤ j) (hi : i < l.length) : rd (l.set i v) j = if j = (i : Int) then v else rd l j := by
  unfold rd
  rw [List.getD_eq_getElem?_getD, List.getD_eq_getElem?_getD]
  by_cases h : j = (i : Int)
  · rw [if_pos h, show j.toNat = i by omega, List.getElem?_set_self hi]; rfl
  · rw [if_neg h, List.getElem?_set_ne (by omega)]
theorem drop_rd {l : List Int} {i : Nat} (h : i < l.length) : l.drop i = rd l (i : Int) :: l.drop (i + 1) := by
  rw [rd_get h]; exact List.drop_eq_getElem_cons h
theorem w64_succ {i : Nat} (h : i < 9223372036854775807) : wrap64 ((i : Int) + 1) = ((i + 1 : Nat) : Int) := by rw [w64 (by omega) (by omega)]; omega
theorem k_succ {k : Nat} (h : 0 < k) : ∃ m, k = m + 1 := ⟨k - 1, by omega⟩
/-- from some number of rounds on -/
theorem Ev.use {α : Type} {g : Nat → Option α} {r : α} (h : Ev g r) : ∃ K, ∀ k, K ≤ k → g k = some r := h
theorem spec_l1In_v (a lo hi : Int) : spec_l1In.f a lo hi = some (decide (lo ≤ a ∧ a ≤ hi)) := by
  unfold spec_l1In.f
  split
  · congr 1; rw [decide_eq_decide]; omega
  · congr 1; symm; rw [decide_eq_false_iff_not]; omega
theorem spec_l1All_l (lo hi : Int) (l : List Int) (hn : l.length ≤ 1152921504606846976) : ∀ (d k i : Nat), i + d = l.length → d < k →
    spec_l1All.l0 k lo hi l (l.length : Int) (i : Int) = some ((l.drop i).all fun x => decide (lo ≤ x ∧ x ≤ hi)) := by
  intro d
  induction d with
  | zero =>
    intro k i hi' hk
    obtain ⟨k, rfl⟩ := k_succ (by omega : 0 < k)
    simp only [spec_l1All.l0]
    rw [if_neg (by omega), List.drop_eq_nil_of_le (by omega)]
    rfl
  | succ d ih =>
    intro k i hi' hk
    obtain ⟨k, rfl⟩ := k_succ (by omega : 0 < k)
    simp only [spec_l1All.l0]
    rw [if_pos (by omega), if_pos (by omega), if_pos (by omega), w64_succ (by omega), drop_rd (by omega : i < l.length), ih k (i + 1) (by omega) (by omega), spec_l1In_v, List.all_cons]
    simp only [Option.bind_some, decide_eq_true_eq]
    by_cases h : lo ≤ rd l (i : Int) ∧ rd l (i : Int) ≤ hi
    · rw [if_pos h, decide_eq_true h, Bool.true_and]
    · rw [if_neg h, decide_eq_false h, Bool.false_and]
theorem spec_l1All_v (lo hi : Int) (l : List Int) (hn : l.length ≤ 1152921504606846976) {k : Nat} (hk : l.length < k) : spec_l1All.f k l lo hi = some (l.all fun x => decide (lo ≤ x ∧ x ≤ hi)) := by
  unfold spec_l1All.f
  simpa using spec_l1All_l lo hi l hn l.length k 0 (by omega) hk
def gridB (X Y Z : Int) : Bool := decide (1 ≤ X ∧ X ≤ 8 ∧ 1 ≤ Y ∧ Y ≤ 6 ∧ 1 ≤ Z ∧ Z ≤ 5 ∧ X * Y * Z ≤ 120)
theorem gridB_t {X Y Z : Int} (h : gridB X Y Z = true) : 1 ≤ X ∧ X ≤ 8 ∧ 1 ≤ Y ∧ Y ≤ 6 ∧ 1 ≤ Z ∧ Z ≤ 5 ∧ X * Y * Z ≤ 120 := of_decide_eq_true h
theorem wrapXYZ {X Y Z : Int} (h1 : 1 ≤ X) (h2 : X ≤ 8) (h3 : 1 ≤ Y) (h4 : Y ≤ 6) (h5 : 1 ≤ Z) (h6 : Z ≤ 5) : wrap64 (wrap64 (X * Y) * Z) = X * Y * Z := by
  have a := mul_bd (by omega : 0 ≤ X) h2 (by omega : 0 ≤ Y) h4
  have b := mul_bd a.1 a.2 (by omega : 0 ≤ Z) h6
  rw [w64 (by omega) (by omega) (x := X * Y), w64 (by omega) (by omega)]
theorem grid_pos {X Y Z : Int} (h : gridB X Y Z = true) : 1 ≤ X * Y * Z ∧ X * Y * Z ≤ 120 := by
  obtain ⟨h1, h2, h3, h4, h5, h6, h7⟩ := gridB_t h
  have a : 0 < X * Y := Int.mul_pos (by omega) (by omega)
  have b : 0 < X * Y * Z := Int.mul_pos a (by omega)
  omega
theorem impl_IsGrid_v (X Y Z : Int) : impl_IsGrid.f X Y Z = some (gridB X Y Z) := by
  unfold impl_IsGrid.f gridB
  repeat' split
  all_goals first
    | (rw [wrapXYZ (by omega) (by omega) (by omega) (by omega) (by omega) (by omega)]; congr 1; rw [decide_eq_decide]; omega)
    | (congr 1; symm; rw [decide_eq_false_iff_not]; omega)
theorem spec_grGood_v (X Y Z : Int) : spec_grGood.f X Y Z = some (gridB X Y Z) := by
  unfold spec_grGood.f gridB
  simp only [spec_l1In_v, Option.bind_some, decide_eq_true_eq]
  repeat' split
  all_goals first
    | (rw [wrapXYZ (by omega) (by omega) (by omega) (by omega) (by omega) (by omega)]; congr 1; rw [decide_eq_decide]; omega)
    | (congr 1; symm; rw [decide_eq_false_iff_not]; omega)
theorem spec_grCount_v {X Y Z : Int} (h : gridB X Y Z = true) : spec_grCount.f X Y Z = some (X * Y * Z) := by
  obtain ⟨h1, h2, h3, h4, h5, h6, h7⟩ := gridB_t h
  simp only [spec_grCount.f, wrapXYZ h1 h2 h3 h4 h5 h6]
theorem impl_blocksOf_v {X Y Z : Int} (h : gridB X Y Z = true) : impl_blocksOf.f X Y Z = some (X * Y * Z) := by
  obtain ⟨h1, h2, h3, h4, h5, h6, h7⟩ := gridB_t h
  simp only [impl_blocksOf.f, wrapXYZ h1 h2 h3 h4 h5 h6]
def hasB (X Y Z i : Int) : Bool := gridB X Y Z && decide (0 ≤ i ∧ i < X * Y * Z)
theorem hasB_t {X Y Z i : Int} (h : hasB X Y Z i = true) : gridB X Y Z = true ∧ 0 ≤ i ∧ i < X * Y * Z := by
  unfold hasB at h; rw [Bool.and_eq_true, decide_eq_true_eq] at h; exact h
theorem at_w {X Y x y z : Int} (hX : 0 ≤ X) (hX' : X ≤ 8) (hY : 0 ≤ Y) (hY' : Y ≤ 6) (hx : 0 ≤ x) (hx' : x ≤ 8) (hy : 0 ≤ y) (hy' : y ≤ 6) (hz : 0 ≤ z) (hz' : z ≤ 5) :
    wrap64 (wrap64 (wrap64 (wrap64 (z * Y) + y) * X) + x) = (z * Y + y) * X + x ∧ 0 ≤ (z * Y + y) * X + x := by
  have a := mul_bd hz hz' hY hY'
  have b := mul_bd (by omega : 0 ≤ z * Y + y) (by omega : z * Y + y ≤ 36) hX hX'
  rw [w64 (by omega) (by omega) (x := z * Y), w64 (by omega) (by omega) (x := z * Y + y), w64 (by omega) (by omega) (x := (z * Y + y) * X), w64 (by omega) (by omega)]
  exact ⟨rfl, by omega⟩
def inB (X Y Z x y z : Int) : Bool := decide (0 ≤ x ∧ x < X ∧ 0 ≤ y ∧ y < Y ∧ 0 ≤ z ∧ z < Z)
theorem tdiv_nn {a b : Int} (h : 0 ≤ a) : Int.tdiv a b = a / b := Int.tdiv_eq_ediv_of_nonneg h
theorem tmod_nn {a b : Int} (h : 0 ≤ a) : Int.tmod a b = a % b := Int.tmod_eq_emod_of_nonneg h
theorem place_bd {X Y Z i : Int} (h : hasB X Y Z i = true) : (0 ≤ i % X ∧ i % X < X) ∧ (0 ≤ i / X % Y ∧ i / X % Y < Y) ∧ (0 ≤ i / X / Y ∧ i / X / Y < Z) ∧ 0 ≤ i / X ∧ i / X ≤ i := by
  obtain ⟨hg, hi, hi'⟩ := hasB_t h
  obtain ⟨h1, h2, h3, h4, h5, h6, h7⟩ := gridB_t hg
  have a : 0 ≤ i / X := Int.ediv_nonneg hi (by omega)
  refine ⟨⟨Int.emod_nonneg _ (by omega), Int.emod_lt_of_pos _ (by omega)⟩, ⟨Int.emod_nonneg _ (by omega), Int.emod_lt_of_pos _ (by omega)⟩, ⟨Int.ediv_nonneg a (by omega), ?_⟩, a, Int.ediv_le_self _ hi⟩
  rw [Int.ediv_ediv_of_nonneg (by omega)]
  refine Int.ediv_lt_of_lt_mul (Int.mul_pos (by omega) (by omega)) ?_
  rw [Int.mul_comm Z]
  exact hi'
def coarseV (X Y i : Int) : Int := (i / X / Y * ((Y + 1) / 2) + i / X % Y / 2) * ((X + 1) / 2) + i % X / 2
def absI (n : Int) : Int := if n < 0 then -n else n
theorem absI_sub (a b : Int) : absI (a - b) = absI (b - a) := by unfold absI; repeat' split <;> omega
theorem absI_bd {a : Int} {B : Int} (h : -B ≤ a) (h' : a ≤ B) : 0 ≤ absI a ∧ absI a ≤ B := by unfold absI; split <;> omega
theorem impl_abs_v {a : Int} (h : -1000000000000 ≤ a) (h' : a ≤ 1000000000000) : impl_abs.f a = some (absI a) := by
  unfold impl_abs.f mx absI
  rw [w64 (by omega) (by omega)]
  congr 1
  repeat' split
  all_goals omega
def stepsV (X Y i k : Int) : Int := absI (i % X - k % X) + absI (i / X % Y - k / X % Y) + absI (i / X / Y - k / X / Y)
theorem stepsV_comm (X Y i k : Int) : stepsV X Y i k = stepsV X Y k i := by
  unfold stepsV
  rw [absI_sub (i % X), absI_sub (i / X % Y), absI_sub (i / X / Y)]
theorem steps_bd {X Y Z i k : Int} (h : hasB X Y Z i = true) (h' : hasB X Y Z k = true) : (0 ≤ absI (i % X - k % X) ∧ absI (i % X - k % X) ≤ 8) ∧ (0 ≤ absI (i / X % Y - k / X % Y) ∧ absI (i / X % Y - k / X % Y) ≤ 8) ∧ (0 ≤ absI (i / X / Y - k / X / Y) ∧ absI (i / X / Y - k / X / Y) ≤ 8) := by
  obtain ⟨h1, h2, h3, h4, h5, h6, h7⟩ := gridB_t (hasB_t h).1
  have a := place_bd h
  have b := place_bd h'
  exact ⟨absI_bd (by omega) (by omega), absI_bd (by omega) (by omega), absI_bd (by omega) (by omega)⟩
def filtN (p : Int → Bool) : Nat → Nat → List Int
  | _, 0 => []
  | i, d + 1 => if p (i : Int) = true then (i : Int) :: filtN p (i + 1) d else filtN p (i + 1) d
theorem filtN_pos {p : Int → Bool} {i d : Nat} (h : p (i : Int) = true) : filtN p i (d + 1) = (i : Int) :: filtN p (i + 1) d := by rw [filtN, if_pos h]
theorem filtN_neg {p : Int → Bool} {i d : Nat} (h : ¬ p (i : Int) = true) : filtN p i (d + 1) = filtN p (i + 1) d := by rw [filtN, if_neg h]
theorem filtN_len (p : Int → Bool) : ∀ (d i : Nat), (filtN p i d).length ≤ d
  | 0, i => by simp [filtN]
  | d + 1, i => by
    have := filtN_len p d (i + 1)
    unfold filtN
    split <;> simp <;> omega
theorem filtN_mem (p : Int → Bool) : ∀ (d i : Nat) (x : Int), x ∈ filtN p i d ↔ (i : Int) ≤ x ∧ x < ((i + d : Nat) : Int) ∧ p x = true
  | 0, i, x => by simp [filtN]; omega
  | d + 1, i, x => by
    have ih := filtN_mem p d (i + 1) x
    by_cases h : p (i : Int) = true
    · rw [filtN_pos h, List.mem_cons, ih]
      constructor
      · rintro (rfl | ⟨h1, h2, h3⟩)
        · exact ⟨by omega, by omega, h⟩
        · exact ⟨by omega, by omega, h3⟩
      · rintro ⟨h1, h2, h3⟩
        by_cases e : x = (i : Int)
        · exact .inl e
        · exact .inr ⟨by omega, by omega, h3⟩
    · rw [filtN_neg h, ih]
      constructor
      · rintro ⟨h1, h2, h3⟩; exact ⟨by omega, by omega, h3⟩
      · rintro ⟨h1, h2, h3⟩
        refine ⟨?_, by omega, h3⟩
        by_cases e : x = (i : Int)
        · subst e; exact absurd h3 h
        · omega
theorem hasB_of {X Y Z i : Int} (h : gridB X Y Z = true) (h0 : 0 ≤ i) (h1 : i < X * Y * Z) : hasB X Y Z i = true := by
  unfold hasB; rw [h, Bool.true_and]; exact decide_eq_true ⟨h0, h1⟩
def nearB (X Y i r k : Int) : Bool := decide (absI (i % X - k % X) ≤ r ∧ absI (i / X % Y - k / X % Y) ≤ r ∧ absI (i / X / Y - k / X / Y) ≤ r)
def pieceB (T M R : Int) : Bool := decide (0 ≤ T ∧ T ≤ 10000 ∧ 0 ≤ M ∧ M ≤ 1000 * T ∧ 0 ≤ R ∧ R ≤ 4)
theorem pieceB_t {T M R : Int} (h : pieceB T M R = true) : 0 ≤ T ∧ T ≤ 10000 ∧ 0 ≤ M ∧ M ≤ 1000 * T ∧ 0 ≤ R ∧ R ≤ 4 := of_decide_eq_true h
def gcdI (x y : Int) : Int := (Nat.gcd x.toNat y.toNat : Nat)
theorem gcdI_step {x y : Int} (hx : 0 ≤ x) (hy : 0 ≤ y) : gcdI y (x % y) = gcdI x y := by
  unfold gcdI
  rw [Int.toNat_emod hx hy, Nat.gcd_comm, ← Nat.gcd_rec, Nat.gcd_comm]
theorem gcdI_zero {x : Int} (hx : 0 ≤ x) : gcdI x 0 = x := by
  unfold gcdI
  simp; omega
theorem spec_moPart_l (a b : Int) : ∀ (d k : Nat) (x y : Int), 0 ≤ x → 0 ≤ y → 0 < x + y → y.toNat ≤ d → d < k →
    spec_moPart.l0 k a b x y = some (wrap64 (Int.tdiv a (gcdI x y)), wrap64 (Int.tdiv b (gcdI x y))) := by
  intro d
  induction d with
  | zero =>
    intro k x y hx hy hp hd hk
    obtain ⟨k, rfl⟩ := k_succ (by omega : 0 < k)
    obtain rfl : y = 0 := by omega
    have e : gcdI x 0 = x := gcdI_zero hx
    simp only [spec_moPart.l0]
    rw [if_neg (by omega), if_neg (by omega), e]
  | succ d ih =>
    intro k x y hx hy hp hd hk
    obtain ⟨k, rfl⟩ := k_succ (by omega : 0 < k)
    by_cases h0 : y = 0
    · subst h0
      have e : gcdI x 0 = x := gcdI_zero hx
      simp only [spec_moPart.l0]
      rw [if_neg (by omega), if_neg (by omega), e]
    · have h1 := Int.emod_nonneg x h0
      have h2 := Int.emod_lt_of_pos x (by omega : 0 < y)
      simp only [spec_moPart.l0]
      rw [if_pos (by omega), if_neg h0, tmod_nn hx, ih k y (x % y) hy h1 (by omega) (by omega) (by omega), gcdI_step hx hy]
theorem spec_moPart_v {a b : Int} (ha : 0 ≤ a) (hb : 0 < b) {k : Nat} (hk : b.toNat < k) : spec_moPart.f k a b = some (wrap64 (Int.tdiv a (gcdI a b)), wrap64 (Int.tdiv b (gcdI a b))) := by
  unfold spec_moPart.f
  exact spec_moPart_l a b b.toNat k a b ha (by omega) (by omega) (by omega) hk
theorem impl_lowest_l (a b : Int) : ∀ (d k : Nat) (x y : Int), 0 ≤ x → 0 ≤ y → 0 < x + y → y.toNat ≤ d → d < k →
    impl_lowest.l0 k a b x y = some (wrap64 (Int.tdiv a (gcdI x y)), wrap64 (Int.tdiv b (gcdI x y))) := by
  intro d
  induction d with
  | zero =>
    intro k x y hx hy hp hd hk
    obtain ⟨k, rfl⟩ := k_succ (by omega : 0 < k)
    obtain rfl : y = 0 := by omega
    have e : gcdI x 0 = x := gcdI_zero hx
    simp only [impl_lowest.l0]
    rw [if_pos (by simp), if_neg (by omega), e]
  | succ d ih =>
    intro k x y hx hy hp hd hk
    obtain ⟨k, rfl⟩ := k_succ (by omega : 0 < k)
    by_cases h0 : y = 0
    · subst h0
      have e : gcdI x 0 = x := gcdI_zero hx
      simp only [impl_lowest.l0]
      rw [if_pos (by simp), if_neg (by omega), e]
    · have h1 := Int.emod_nonneg x h0
      have h2 := Int.emod_lt_of_pos x (by omega : 0 < y)
      simp only [impl_lowest.l0]
      rw [if_neg h0, tmod_nn hx, ih k y (x % y) hy h1 (by omega) (by omega) (by omega), gcdI_step hx hy]
theorem impl_abs_nn {a : Int} (h : 0 ≤ a) (h' : a ≤ 9223372036854775807) : impl_abs.f a = some a := by
  unfold impl_abs.f mx
  rw [w64 (by omega) (by omega), if_neg (by omega)]
theorem impl_lowest_v {a b : Int} (ha : 0 ≤ a) (ha' : a ≤ 9223372036854775807) (hb : 0 < b) {k : Nat} (hk : b.toNat < k) : impl_lowest.f k a b = some (wrap64 (Int.tdiv a (gcdI a b)), wrap64 (Int.tdiv b (gcdI a b))) := by
  unfold impl_lowest.f
  rw [impl_abs_nn ha ha', Option.bind_some]
  exact impl_lowest_l a b b.toNat k a b ha (by omega) (by omega) (by omega) hk
def modelB (X Y Z : Int) (t g r : List Int) : Bool := gridB X Y Z && decide ((t.length : Int) = X * Y * Z ∧ (g.length : Int) = X * Y * Z ∧ (r.length : Int) = X * Y * Z) && ((t.all fun x => decide (0 ≤ x ∧ x ≤ 10000)) && ((g.all fun x => decide (0 ≤ x ∧ x ≤ 1000)) && (r.all fun x => decide (0 ≤ x ∧ x ≤ 4))))
structure IsMod (X Y Z : Int) (t g r : List Int) : Prop where
  grid : gridB X Y Z = true
  lt : (t.length : Int) = X * Y * Z
  lg : g.length = t.length
  lr : r.length = t.length
  ht : ∀ x ∈ t, 0 ≤ x ∧ x ≤ 10000
  hg : ∀ x ∈ g, 0 ≤ x ∧ x ≤ 1000
  hr : ∀ x ∈ r, 0 ≤ x ∧ x ≤ 4
  pos : 1 ≤ t.length
  le : t.length ≤ 120
theorem modelB_iff {X Y Z : Int} {t g r : List Int} : modelB X Y Z t g r = true ↔ IsMod X Y Z t g r := by
  unfold modelB
  simp only [Bool.and_eq_true, decide_eq_true_eq, List.all_eq_true]
  constructor
  · rintro ⟨⟨h1, h2, h3, h4⟩, h5, h6, h7⟩
    have := grid_pos h1
    exact ⟨h1, h2, by omega, by omega, h5, h6, h7, by omega, by omega⟩
  · intro h
    have h1 := h.lt; have h2 := h.lg; have h3 := h.lr
    exact ⟨⟨h.grid, h1, by omega, by omega⟩, h.ht, h.hg, h.hr⟩
theorem modelB_t {X Y Z : Int} {t g r : List Int} (h : modelB X Y Z t g r = true) : IsMod X Y Z t g r := modelB_iff.1 h
theorem modelB_f {X Y Z : Int} {t g r : List Int} (h : ¬ modelB X Y Z t g r = true) : modelB X Y Z t g r = false := by simpa using h
theorem rd_mem {l : List Int} {i : Int} (h0 : 0 ≤ i) (h : i < (l.length : Int)) : rd l i ∈ l := by
  unfold rd
  rw [List.getD_eq_getElem?_getD, List.getElem?_eq_getElem (by omega)]
  exact List.getElem_mem _
theorem rd_of_getElem? {l : List Int} {i : Nat} {x : Int} (h : l[i]? = some x) : rd l (i : Int) = x := by
  rw [rd_nat, List.getD_eq_getElem?_getD, h]; rfl
theorem IsMod.rt {X Y Z : Int} {t g r : List Int} (h : IsMod X Y Z t g r) {i : Int} (h0 : 0 ≤ i) (h1 : i < (t.length : Int)) : 0 ≤ rd t i ∧ rd t i ≤ 10000 := h.ht _ (rd_mem h0 h1)
theorem IsMod.rg {X Y Z : Int} {t g r : List Int} (h : IsMod X Y Z t g r) {i : Int} (h0 : 0 ≤ i) (h1 : i < (t.length : Int)) : 0 ≤ rd g i ∧ rd g i ≤ 1000 := h.hg _ (rd_mem h0 (by have := h.lg; omega))
theorem IsMod.rr {X Y Z : Int} {t g r : List Int} (h : IsMod X Y Z t g r) {i : Int} (h0 : 0 ≤ i) (h1 : i < (t.length : Int)) : 0 ≤ rd r i ∧ rd r i ≤ 4 := h.hr _ (rd_mem h0 (by have := h.lr; omega))
theorem IsMod.rm {X Y Z : Int} {t g r : List Int} (h : IsMod X Y Z t g r) {i : Int} (h0 : 0 ≤ i) (h1 : i < (t.length : Int)) : 0 ≤ rd t i * rd g i ∧ rd t i * rd g i ≤ 10000000 :=
  mul_bd (h.rt h0 h1).1 (h.rt h0 h1).2 (h.rg h0 h1).1 (h.rg h0 h1).2
theorem impl_IsModel_l (X Y Z : Int) (t g r : List Int) (hn : t.length ≤ 1152921504606846976) (hg : g.length = t.length) (hr : r.length = t.length) : ∀ (d k i : Nat), i + d = t.length → d < k →
    impl_IsModel.l0 k (t.length : Int) (i : Int) X Y Z t g r = some (((t.drop i).all fun x => decide (0 ≤ x ∧ x ≤ 10000)) && (((g.drop i).all fun x => decide (0 ≤ x ∧ x ≤ 1000)) && ((r.drop i).all fun x => decide (0 ≤ x ∧ x ≤ 4)))) := by
  intro d
  induction d with
  | zero =>
    intro k i hi hk
    obtain ⟨k, rfl⟩ := k_succ (by omega : 0 < k)
    simp only [impl_IsModel.l0]
    rw [if_neg (by omega), List.drop_eq_nil_of_le (by omega), List.drop_eq_nil_of_le (by omega), List.drop_eq_nil_of_le (by omega)]
    rfl
  | succ d ih =>
    intro k i hi hk
    obtain ⟨k, rfl⟩ := k_succ (by omega : 0 < k)
    simp only [impl_IsModel.l0]
    rw [if_pos (by omega), if_pos (by omega), if_pos (by omega), drop_rd (by omega : i < t.length), drop_rd (by omega : i < g.length), drop_rd (by omega : i < r.length), w64_succ (by omega), ih k (i + 1) (by omega) (by omega)]
    simp only [List.all_cons]
    by_cases h1 : 0 ≤ rd t (i : Int) ∧ rd t (i : Int) ≤ 10000
    · rw [if_neg (by omega), if_neg (by omega), if_pos (by omega), decide_eq_true h1]
      by_cases h2 : 0 ≤ rd g (i : Int) ∧ rd g (i : Int) ≤ 1000
      · rw [if_neg (by omega), if_neg (by omega), if_pos (by omega), decide_eq_true h2]
        by_cases h3 : 0 ≤ rd r (i : Int) ∧ rd r (i : Int) ≤ 4
        · rw [if_neg (by omega), if_neg (by omega), decide_eq_true h3]
          simp only [Bool.true_and]
        · rw [decide_eq_false h3]
          simp only [Bool.true_and, Bool.false_and, Bool.and_false]
          split
          · rfl
          · rw [if_pos (by omega)]
      · rw [decide_eq_false h2]
        simp only [Bool.true_and, Bool.false_and, Bool.and_false]
        split
        · rfl
        · rw [if_pos (by omega)]
    · rw [decide_eq_false h1]
      simp only [Bool.false_and]
      split
      · rfl
      · rw [if_pos (by omega)]
theorem impl_IsModel_v (X Y Z : Int) (t g r : List Int) {k : Nat} (hk : 122 < k) : impl_IsModel.f k X Y Z t g r = some (modelB X Y Z t g r) := by
  obtain ⟨k, rfl⟩ := k_succ (by omega : 0 < k)
  unfold impl_IsModel.f modelB
  rw [impl_IsGrid_v]
  cases h : gridB X Y Z with
  | false => simp
  | true =>
    have := grid_pos h
    simp only [Option.bind_some, if_true, impl_blocksOf_v h, Bool.true_and, impl_IsModel.j0]
    by_cases h1 : (t.length : Int) = X * Y * Z
    · rw [if_pos h1]
      by_cases h2 : (g.length : Int) = X * Y * Z
      · rw [if_pos h2]
        by_cases h3 : (r.length : Int) = X * Y * Z
        · rw [if_neg (by simp [h3]), decide_eq_true (by omega), Bool.true_and, ← h1]
          have := impl_IsModel_l X Y Z t g r (by omega) (by omega) (by omega) t.length k 0 (by omega) (by omega)
          simpa using this
        · rw [if_pos (by simp [h3]), decide_eq_false (by omega), Bool.false_and]
      · rw [if_neg h2, decide_eq_false (by omega), Bool.false_and]
    · rw [if_neg h1, decide_eq_false (by omega), Bool.false_and]
theorem spec_moGood_v (X Y Z : Int) (t g r : List Int) {k : Nat} (hk : 122 < k) : spec_moGood.f k X Y Z t g r = some (modelB X Y Z t g r) := by
  unfold spec_moGood.f modelB
  rw [spec_grGood_v]
  cases h : gridB X Y Z with
  | false => simp
  | true =>
    have := grid_pos h
    simp only [Option.bind_some, if_true, spec_grCount_v h, Bool.true_and]
    by_cases h1 : (t.length : Int) = X * Y * Z
    · rw [if_pos h1]
      by_cases h2 : (g.length : Int) = X * Y * Z
      · rw [if_pos h2]
        by_cases h3 : (r.length : Int) = X * Y * Z
        · rw [if_pos h3, decide_eq_true (by omega), Bool.true_and, spec_l1All_v _ _ t (by omega) (by omega), spec_l1All_v _ _ g (by omega) (by omega), spec_l1All_v _ _ r (by omega) (by omega)]
          simp only [Option.bind_some]
          cases (t.all fun x => decide (0 ≤ x ∧ x ≤ 10000)) <;> cases (g.all fun x => decide (0 ≤ x ∧ x ≤ 1000)) <;> simp
        · rw [if_neg h3, decide_eq_false (by omega), Bool.false_and]
      · rw [if_neg h2, decide_eq_false (by omega), Bool.false_and]
    · rw [if_neg h1, decide_eq_false (by omega), Bool.false_and]
theorem spec_moMetal_v {X Y Z : Int} {t g r : List Int} (h : IsMod X Y Z t g r) {i : Int} (h0 : 0 ≤ i) (h1 : i < (t.length : Int)) : spec_moMetal.f X Y Z t g r i = some (rd t i * rd g i) := by
  have := h.lg; have hb := h.rm h0 h1
  unfold spec_moMetal.f
  rw [if_pos h0, if_pos h1, if_pos (by omega), w64 (by omega) (by omega)]
def modHas (X Y Z : Int) (t g r : List Int) (i : Int) : Bool := modelB X Y Z t g r && decide (0 ≤ i ∧ i < (t.length : Int))
theorem modHas_t {X Y Z : Int} {t g r : List Int} {i : Int} (h : modHas X Y Z t g r i = true) : IsMod X Y Z t g r ∧ 0 ≤ i ∧ i < (t.length : Int) := by
  unfold modHas at h
  rw [Bool.and_eq_true, decide_eq_true_eq] at h
  exact ⟨modelB_t h.1, h.2⟩
theorem spec_moHas_v (X Y Z : Int) (t g r : List Int) (i : Int) {k : Nat} (hk : 122 < k) : spec_moHas.f k X Y Z t g r i = some (modHas X Y Z t g r i) := by
  unfold spec_moHas.f modHas
  rw [spec_moGood_v X Y Z t g r hk]
  cases h : modelB X Y Z t g r with
  | false => simp
  | true =>
    have hm := modelB_t h
    have := grid_pos hm.grid
    have := hm.lt
    simp only [Option.bind_some, if_true, spec_grCount_v hm.grid, spec_l1In_v, Bool.true_and]
    rw [w64 (by omega) (by omega)]
    congr 1; rw [decide_eq_decide]; omega
def metalR (X Y Z : Int) (t g r : List Int) (i : Int) : Int × Bool := if modHas X Y Z t g r i = true then (rd t i * rd g i, true) else (0, false)
theorem spec_MetalOf_v (X Y Z : Int) (t g r : List Int) (i : Int) {k : Nat} (hk : 122 < k) : spec_MetalOf.f k X Y Z t g r i = some (metalR X Y Z t g r i) := by
  unfold spec_MetalOf.f metalR
  rw [spec_moHas_v X Y Z t g r i hk]
  cases h : modHas X Y Z t g r i with
  | false => simp
  | true =>
    obtain ⟨hm, h0, h1⟩ := modHas_t h
    simp [spec_moMetal_v hm h0 h1]
theorem impl_MetalOf_v (X Y Z : Int) (t g r : List Int) (i : Int) {k : Nat} (hk : 122 < k) : impl_MetalOf.f k X Y Z t g r i = some (metalR X Y Z t g r i) := by
  unfold impl_MetalOf.f metalR modHas
  rw [impl_IsModel_v X Y Z t g r hk]
  cases h : modelB X Y Z t g r with
  | false => simp
  | true =>
    have hm := modelB_t h
    have := hm.lg
    simp only [Option.bind_some, if_true, Bool.true_and, decide_eq_true_eq]
    by_cases hi : 0 ≤ i ∧ i < (t.length : Int)
    · have hb := hm.rm hi.1 hi.2
      rw [if_neg (by omega), if_neg (by omega), if_pos (by omega), if_pos (by omega), if_pos (by omega), w64 (by omega) (by omega), if_pos hi]
    · rw [if_neg hi]
      split
      · rfl
      · rw [if_pos (by omega)]
def risF (n : Int) : Int → List Int → Bool
  | _, [] => true
  | p, x :: xs => decide (0 ≤ x ∧ x < n ∧ p < x) && risF n x xs
def risB (n : Int) (l : List Int) : Bool := risF n (-1) l
theorem risF_cons (n p x : Int) (xs : List Int) : risF n p (x :: xs) = (decide (0 ≤ x ∧ x < n ∧ p < x) && risF n x xs) := rfl
theorem risF_mem {n : Int} : ∀ {p : Int} {l : List Int}, risF n p l = true → ∀ x ∈ l, 0 ≤ x ∧ x < n
  | _, [], _, x, hx => by cases hx
  | p, y :: l, h, x, hx => by
    unfold risF at h
    rw [Bool.and_eq_true, decide_eq_true_eq] at h
    rcases List.mem_cons.1 hx with rfl | hx
    · exact ⟨h.1.1, h.1.2.1⟩
    · exact risF_mem h.2 x hx
theorem risF_len {n : Int} : ∀ {p : Int} {l : List Int}, -1 ≤ p → p < n → risF n p l = true → (l.length : Int) + p < n
  | p, [], h0, h1, _ => by simp; omega
  | p, x :: l, h0, h1, h => by
    unfold risF at h
    rw [Bool.and_eq_true, decide_eq_true_eq] at h
    have := risF_len (by omega) h.1.2.1 h.2
    simp only [List.length_cons]
    omega
theorem risB_mem {n : Int} {l : List Int} (h : risB n l = true) : ∀ x ∈ l, 0 ≤ x ∧ x < n := risF_mem h
theorem risB_len {n : Int} {l : List Int} (hn : 0 ≤ n) (h : risB n l = true) : (l.length : Int) ≤ n := by have := risF_len (by omega) (by omega) h; omega
theorem impl_areBlocks_l (n : Int) (l : List Int) (hn : l.length ≤ 1152921504606846976) : ∀ (d k i : Nat), i + d = l.length → d < k →
    impl_areBlocks.l0 k l n l (l.length : Int) (i : Int) = some (risF n (if i = 0 then -1 else rd l ((i : Int) - 1)) (l.drop i)) := by
  intro d
  induction d with
  | zero =>
    intro k i hi' hk
    obtain ⟨k, rfl⟩ := k_succ (by omega : 0 < k)
    simp only [impl_areBlocks.l0]
    rw [if_neg (by omega), List.drop_eq_nil_of_le (by omega)]
    rfl
  | succ d ih =>
    intro k i hi' hk
    obtain ⟨k, rfl⟩ := k_succ (by omega : 0 < k)
    have ihk := ih k (i + 1) (by omega) (by omega)
    rw [if_neg (by omega), show ((i + 1 : Nat) : Int) - 1 = (i : Int) by omega] at ihk
    simp only [impl_areBlocks.l0]
    rw [if_pos (by omega), if_pos (by omega), if_pos (by omega), w64_succ (by omega), drop_rd (by omega : i < l.length), ihk, risF_cons]
    by_cases h0 : 0 ≤ rd l (i : Int) ∧ rd l (i : Int) < n
    · rw [if_neg (by omega), if_neg (by omega)]
      by_cases hi : i = 0
      · rw [if_neg (by omega), if_pos hi, decide_eq_true (by omega), Bool.true_and]
      · rw [if_pos (by omega), w64 (by omega) (by omega), if_pos (by omega), if_pos (by omega), if_neg hi]
        by_cases h1 : rd l (i : Int) ≤ rd l ((i : Int) - 1)
        · rw [if_pos h1, decide_eq_false (by omega), Bool.false_and]
        · rw [if_neg h1, decide_eq_true (by omega), Bool.true_and]
    · rw [decide_eq_false (by omega), Bool.false_and]
      split
      · rfl
      · rw [if_pos (by omega)]
theorem impl_areBlocks_v (n : Int) (l : List Int) (hn : l.length ≤ 1048576) {k : Nat} (hk : 1048576 < k) : impl_areBlocks.f k l n = some (risB n l) := by
  unfold impl_areBlocks.f risB
  simpa using impl_areBlocks_l n l (by omega) l.length k 0 (by omega) (by omega)
theorem spec_l1Rising_l (n : Int) (l : List Int) (hn : l.length ≤ 1152921504606846976) : ∀ (d k i : Nat), i + d = l.length → d < k →
    spec_l1Rising.l0 k l 0 (n - 1) l (l.length : Int) (i : Int) = some (risF n (if i = 0 then -1 else rd l ((i : Int) - 1)) (l.drop i)) := by
  intro d
  induction d with
  | zero =>
    intro k i hi' hk
    obtain ⟨k, rfl⟩ := k_succ (by omega : 0 < k)
    simp only [spec_l1Rising.l0]
    rw [if_neg (by omega), List.drop_eq_nil_of_le (by omega)]
    rfl
  | succ d ih =>
    intro k i hi' hk
    obtain ⟨k, rfl⟩ := k_succ (by omega : 0 < k)
    have ihk := ih k (i + 1) (by omega) (by omega)
    rw [if_neg (by omega), show ((i + 1 : Nat) : Int) - 1 = (i : Int) by omega] at ihk
    simp only [spec_l1Rising.l0]
    rw [if_pos (by omega), if_pos (by omega), if_pos (by omega), w64_succ (by omega), drop_rd (by omega : i < l.length), ihk, spec_l1In_v, risF_cons]
    simp only [Option.bind_some, decide_eq_true_eq]
    by_cases h0 : 0 ≤ rd l (i : Int) ∧ rd l (i : Int) ≤ n - 1
    · rw [if_pos h0]
      by_cases hi : i = 0
      · rw [if_neg (by omega), if_pos hi, decide_eq_true (by omega), Bool.true_and]
      · rw [if_pos (by omega), w64 (by omega) (by omega), if_pos (by omega), if_pos (by omega), if_neg hi]
        by_cases h1 : rd l (i : Int) ≤ rd l ((i : Int) - 1)
        · rw [if_pos (by omega), decide_eq_false (by omega), Bool.false_and]
        · rw [if_neg (by omega), decide_eq_true (by omega), Bool.true_and]
    · rw [if_neg h0, decide_eq_false (by omega), Bool.false_and]
theorem spec_l1Rising_v (n : Int) (l : List Int) (hn : l.length ≤ 1048576) (h0 : 0 ≤ n) (h1 : n ≤ 1048576) {k : Nat} (hk : 1048576 < k) : spec_l1Rising.f k l 0 (wrap64 (n - 1)) = some (risB n l) := by
  unfold spec_l1Rising.f risB
  rw [w64 (by omega) (by omega)]
  simpa using spec_l1Rising_l n l (by omega) l.length k 0 (by omega) (by omega)
def modList (X Y Z : Int) (t g r l : List Int) : Bool := modelB X Y Z t g r && risB (t.length : Int) l
theorem modList_t {X Y Z : Int} {t g r l : List Int} (h : modList X Y Z t g r l = true) : IsMod X Y Z t g r ∧ risB (t.length : Int) l = true := by
  unfold modList at h
  rw [Bool.and_eq_true] at h
  exact ⟨modelB_t h.1, h.2⟩
theorem spec_moList_v (X Y Z : Int) (t g r l : List Int) (hl : l.length ≤ 1048576) {k : Nat} (hk : 1048576 < k) : spec_moList.f k X Y Z t g r l = some (modList X Y Z t g r l) := by
  unfold spec_moList.f modList
  rw [spec_moGood_v X Y Z t g r (by omega)]
  cases h : modelB X Y Z t g r with
  | false => simp
  | true =>
    have hm := modelB_t h
    have := grid_pos hm.grid
    simp only [Option.bind_some, if_true, spec_grCount_v hm.grid, Bool.true_and]
    rw [← hm.lt, spec_l1Rising_v _ l hl (by omega) (by have := hm.le; omega) hk, Option.bind_some]
def sumT (t l : List Int) : Int := (l.map (rd t)).sum
def sumM (t g l : List Int) : Int := (l.map fun i => rd t i * rd g i).sum
theorem sum_bd (f : Int → Int) (B : Int) (hB : 0 ≤ B) : ∀ (l : List Int), (∀ x ∈ l, 0 ≤ f x ∧ f x ≤ B) → 0 ≤ (l.map f).sum ∧ (l.map f).sum ≤ B * (l.length : Int)
  | [], _ => by simp
  | x :: l, h => by
    have h1 := h x (by simp)
    have h2 := sum_bd f B hB l (fun y hy => h y (by simp [hy]))
    simp only [List.map_cons, List.sum_cons, List.length_cons]
    have e : B * ((l.length + 1 : Nat) : Int) = B * (l.length : Int) + B := by
      rw [show ((l.length + 1 : Nat) : Int) = (l.length : Int) + 1 by omega, Int.mul_add, Int.mul_one]
    omega
theorem spec_moSums_l {X Y Z : Int} {t g r : List Int} (h : IsMod X Y Z t g r) (l : List Int) (hl : l.length ≤ 1048576) (hr : ∀ x ∈ l, 0 ≤ x ∧ x < (t.length : Int)) : ∀ (d k i : Nat) (a b : Int), i + d = l.length → d < k → 0 ≤ a → a ≤ 10000 * (i : Int) → 0 ≤ b → b ≤ 10000000 * (i : Int) →
    spec_moSums.l0 k a b l (l.length : Int) (i : Int) X Y Z t g r = some (a + sumT t (l.drop i), b + sumM t g (l.drop i)) := by
  intro d
  induction d with
  | zero =>
    intro k i a b hi hk _ _ _ _
    obtain ⟨k, rfl⟩ := k_succ (by omega : 0 < k)
    simp only [spec_moSums.l0]
    rw [if_neg (by omega), List.drop_eq_nil_of_le (by omega)]
    simp [sumT, sumM]
  | succ d ih =>
    intro k i a b hi hk ha0 ha1 hb0 hb1
    obtain ⟨k, rfl⟩ := k_succ (by omega : 0 < k)
    have hm := hr _ (rd_mem (l := l) (i := (i : Int)) (by omega) (by omega))
    have ht := h.rt hm.1 hm.2
    have hmm := h.rm hm.1 hm.2
    have e : ((i + 1 : Nat) : Int) = (i : Int) + 1 := by omega
    simp only [spec_moSums.l0]
    rw [if_pos (by omega), if_pos (by omega), if_pos (by omega), if_pos hm.1, if_pos hm.2, spec_moMetal_v h hm.1 hm.2, Option.bind_some, w64_succ (by omega), w64 (by omega) (by omega) (x := a + _), w64 (by omega) (by omega) (x := b + _), ih k (i + 1) _ _ (by omega) (by omega) (by omega) (by omega) (by omega) (by omega), drop_rd (by omega : i < l.length)]
    simp only [sumT, sumM, List.map_cons, List.sum_cons, Int.add_assoc]
theorem spec_moSums_v {X Y Z : Int} {t g r : List Int} (h : IsMod X Y Z t g r) (l : List Int) (hl : l.length ≤ 1048576) (hr : ∀ x ∈ l, 0 ≤ x ∧ x < (t.length : Int)) {k : Nat} (hk : 1048576 < k) : spec_moSums.f k X Y Z t g r l = some (sumT t l, sumM t g l) := by
  unfold spec_moSums.f
  have := spec_moSums_l h l hl hr l.length k 0 0 0 (by omega) (by omega) (by omega) (by omega) (by omega) (by omega)
  simpa using this
theorem impl_sumsOf_l {X Y Z : Int} {t g r : List Int} (h : IsMod X Y Z t g r) (l : List Int) (hl : l.length ≤ 1048576) (hr : ∀ x ∈ l, 0 ≤ x ∧ x < (t.length : Int)) : ∀ (d k i : Nat) (a b : Int), i + d = l.length → d < k → 0 ≤ a → a ≤ 10000 * (i : Int) → 0 ≤ b → b ≤ 10000000 * (i : Int) →
    impl_sumsOf.l0 k a b l (l.length : Int) (i : Int) X Y Z t g r = some (a + sumT t (l.drop i), b + sumM t g (l.drop i)) := by
  intro d
  induction d with
  | zero =>
    intro k i a b hi hk _ _ _ _
    obtain ⟨k, rfl⟩ := k_succ (by omega : 0 < k)
    simp only [impl_sumsOf.l0]
    rw [if_neg (by omega), List.drop_eq_nil_of_le (by omega)]
    simp [sumT, sumM]
  | succ d ih =>
    intro k i a b hi hk ha0 ha1 hb0 hb1
    obtain ⟨k, rfl⟩ := k_succ (by omega : 0 < k)
    have hm := hr _ (rd_mem (l := l) (i := (i : Int)) (by omega) (by omega))
    have ht := h.rt hm.1 hm.2
    have hmm := h.rm hm.1 hm.2
    have hlg := h.lg
    have e : ((i + 1 : Nat) : Int) = (i : Int) + 1 := by omega
    simp only [impl_sumsOf.l0]
    rw [if_pos (by omega), if_pos (by omega), if_pos (by omega), if_pos hm.1, if_pos hm.2, if_pos (by omega), w64_succ (by omega), w64 (by omega) (by omega) (x := a + _), w64 (by omega) (by omega) (x := rd t _ * _), w64 (by omega) (by omega) (x := b + _), ih k (i + 1) _ _ (by omega) (by omega) (by omega) (by omega) (by omega) (by omega), drop_rd (by omega : i < l.length)]
    simp only [sumT, sumM, List.map_cons, List.sum_cons, Int.add_assoc]
theorem impl_sumsOf_v {X Y Z : Int} {t g r : List Int} (h : IsMod X Y Z t g r) (l : List Int) (hl : l.length ≤ 1048576) (hr : ∀ x ∈ l, 0 ≤ x ∧ x < (t.length : Int)) {k : Nat} (hk : 1048576 < k) : impl_sumsOf.f k X Y Z t g r l = some (sumT t l, sumM t g l) := by
  unfold impl_sumsOf.f
  have := impl_sumsOf_l h l hl hr l.length k 0 0 0 (by omega) (by omega) (by omega) (by omega) (by omega) (by omega)
  simpa using this
theorem sums_bd {X Y Z : Int} {t g r l : List Int} (h : IsMod X Y Z t g r) (hr : risB (t.length : Int) l = true) : (0 ≤ sumT t l ∧ sumT t l ≤ 1200000) ∧ (0 ≤ sumM t g l ∧ sumM t g l ≤ 1200000000) := by
  have hm := risB_mem hr
  have hl := risB_len (by omega) hr
  have ht := h.le
  have a := sum_bd (rd t) 10000 (by omega) l (fun x hx => h.rt (hm x hx).1 (hm x hx).2)
  have b := sum_bd (fun i => rd t i * rd g i) 10000000 (by omega) l (fun x hx => h.rm (hm x hx).1 (hm x hx).2)
  unfold sumT sumM
  omega
def meanR (X Y Z : Int) (t g r l : List Int) : Int × Int × Bool :=
  if modList X Y Z t g r l = true ∧ sumT t l ≠ 0 then (wrap64 (Int.tdiv (sumM t g l) (gcdI (sumM t g l) (sumT t l))), wrap64 (Int.tdiv (sumT t l) (gcdI (sumM t g l) (sumT t l))), true) else (0, 0, false)
theorem spec_MeanGrade_v (X Y Z : Int) (t g r l : List Int) (hl : l.length ≤ 1048576) {k : Nat} (hk : 1200001 < k) : spec_MeanGrade.f k X Y Z t g r l = some (meanR X Y Z t g r l) := by
  unfold spec_MeanGrade.f meanR
  rw [spec_moList_v X Y Z t g r l hl (by omega)]
  cases h : modList X Y Z t g r l with
  | false => simp
  | true =>
    obtain ⟨hm, hr⟩ := modList_t h
    have hb := sums_bd hm hr
    simp only [Option.bind_some, if_true, spec_moSums_v hm l hl (risB_mem hr) (show 1048576 < k by omega)]
    by_cases e : sumT t l = 0
    · rw [if_pos e, if_neg (by simp [e])]
    · rw [if_neg e, if_pos (by simp [e]), spec_moPart_v hb.2.1 (by omega) (by omega)]
      rfl
theorem impl_MeanGrade_v (X Y Z : Int) (t g r l : List Int) (hl : l.length ≤ 1048576) {k : Nat} (hk : 1200002 < k) : impl_MeanGrade.f k X Y Z t g r l = some (meanR X Y Z t g r l) := by
  obtain ⟨k, rfl⟩ := k_succ (by omega : 0 < k)
  unfold impl_MeanGrade.f meanR modList
  rw [impl_IsModel_v X Y Z t g r (by omega)]
  cases h : modelB X Y Z t g r with
  | false => simp [impl_MeanGrade.j0]
  | true =>
    have hm := modelB_t h
    simp only [Option.bind_some, if_true, Bool.true_and, impl_areBlocks_v _ l hl (show 1048576 < k + 1 by omega), impl_MeanGrade.j0]
    cases hr : risB (t.length : Int) l with
    | false => simp
    | true =>
      have hb := sums_bd hm hr
      simp only [Bool.not_true, Bool.false_eq_true, if_false, impl_sumsOf_v hm l hl (risB_mem hr) (show 1048576 < k by omega), Option.bind_some]
      by_cases e : sumT t l = 0
      · rw [if_pos e, if_neg (by simp [e])]
      · rw [if_neg e, if_pos (by simp [e]), impl_lowest_v hb.2.1 (by omega) (by omega) (by omega)]
        rfl
def filtI (p : Int → Bool) : List Int → Nat → List Int
  | [], _ => []
  | x :: l, i => if p x = true then (i : Int) :: filtI p l (i + 1) else filtI p l (i + 1)
theorem filtI_pos {p : Int → Bool} {x : Int} {l : List Int} {i : Nat} (h : p x = true) : filtI p (x :: l) i = (i : Int) :: filtI p l (i + 1) := by rw [filtI, if_pos h]
theorem filtI_neg {p : Int → Bool} {x : Int} {l : List Int} {i : Nat} (h : ¬ p x = true) : filtI p (x :: l) i = filtI p l (i + 1) := by rw [filtI, if_neg h]
theorem filtI_len (p : Int → Bool) : ∀ (l : List Int) (i : Nat), (filtI p l i).length ≤ l.length
  | [], _ => by simp [filtI]
  | x :: l, i => by
    have := filtI_len p l (i + 1)
    unfold filtI
    split <;> simp <;> omega
theorem spec_AboveGrade_l (grade : Int) (g : List Int) (hn : g.length ≤ 1048576) : ∀ (d k i : Nat) (acc : List Int), i + d = g.length → d < k → acc.length ≤ i →
    spec_AboveGrade.l0 k grade acc g (g.length : Int) (i : Int) = some (acc ++ filtI (fun x => decide (grade ≤ x)) (g.drop i) i, true) := by
  intro d
  induction d with
  | zero =>
    intro k i acc hi hk ha
    obtain ⟨k, rfl⟩ := k_succ (by omega : 0 < k)
    simp only [spec_AboveGrade.l0]
    rw [if_neg (by omega), List.drop_eq_nil_of_le (by omega)]
    simp [filtI]
  | succ d ih =>
    intro k i acc hi hk ha
    obtain ⟨k, rfl⟩ := k_succ (by omega : 0 < k)
    simp only [spec_AboveGrade.l0]
    rw [if_pos (by omega), if_pos (by omega), if_pos (by omega), w64_succ (by omega), drop_rd (by omega : i < g.length)]
    by_cases h : rd g (i : Int) ≥ grade
    · rw [if_pos h, if_pos (by omega), ih k (i + 1) _ (by omega) (by omega) (by simp; omega), filtI_pos (by simpa using h)]
      simp [List.append_assoc]
    · rw [if_neg h, ih k (i + 1) _ (by omega) (by omega) (by omega), filtI_neg (by simpa using h)]
def aboveR (X Y Z : Int) (t g r : List Int) (grade : Int) : List Int × Bool := if modelB X Y Z t g r = true ∧ 0 ≤ grade ∧ grade ≤ 1001 then (filtI (fun x => decide (grade ≤ x)) g 0, true) else ([], false)
theorem spec_AboveGrade_v (X Y Z : Int) (t g r : List Int) (grade : Int) {k : Nat} (hk : 130 < k) : spec_AboveGrade.f k X Y Z t g r grade = some (aboveR X Y Z t g r grade) := by
  obtain ⟨k, rfl⟩ := k_succ (by omega : 0 < k)
  unfold spec_AboveGrade.f aboveR
  rw [spec_moGood_v X Y Z t g r (by omega)]
  simp only [Option.bind_some, spec_l1In_v, spec_AboveGrade.j0]
  cases h : modelB X Y Z t g r with
  | false => simp
  | true =>
    have hm := modelB_t h
    have := hm.le; have := hm.lg
    by_cases hg : 0 ≤ grade ∧ grade ≤ 1001
    · rw [if_pos rfl, decide_eq_true hg, if_neg (by simp), if_pos ⟨rfl, hg⟩]
      have := spec_AboveGrade_l grade g (by omega) g.length k 0 [] (by omega) (by omega) (by simp)
      simpa using this
    · rw [if_pos rfl, decide_eq_false hg, if_pos (by simp), if_neg (by simp [hg])]
theorem impl_AboveGrade_l (grade : Int) (g : List Int) (hn : g.length ≤ 1048576) : ∀ (d k i : Nat) (acc : List Int), i + d = g.length → d < k → acc.length ≤ i →
    impl_AboveGrade.l0 k grade acc g (g.length : Int) (i : Int) = some (acc ++ filtI (fun x => decide (grade ≤ x)) (g.drop i) i, true) := by
  intro d
  induction d with
  | zero =>
    intro k i acc hi hk ha
    obtain ⟨k, rfl⟩ := k_succ (by omega : 0 < k)
    simp only [impl_AboveGrade.l0]
    rw [if_neg (by omega), List.drop_eq_nil_of_le (by omega)]
    simp [filtI]
  | succ d ih =>
    intro k i acc hi hk ha
    obtain ⟨k, rfl⟩ := k_succ (by omega : 0 < k)
    simp only [impl_AboveGrade.l0]
    rw [if_pos (by omega), if_pos (by omega), if_pos (by omega), w64_succ (by omega), drop_rd (by omega : i < g.length)]
    by_cases h : rd g (i : Int) ≥ grade
    · rw [if_pos h, if_pos (by omega), ih k (i + 1) _ (by omega) (by omega) (by simp; omega), filtI_pos (by simpa using h)]
      simp [List.append_assoc]
    · rw [if_neg h, ih k (i + 1) _ (by omega) (by omega) (by omega), filtI_neg (by simpa using h)]
theorem impl_AboveGrade_v (X Y Z : Int) (t g r : List Int) (grade : Int) {k : Nat} (hk : 130 < k) : impl_AboveGrade.f k X Y Z t g r grade = some (aboveR X Y Z t g r grade) := by
  obtain ⟨k, rfl⟩ := k_succ (by omega : 0 < k)
  unfold impl_AboveGrade.f aboveR
  rw [impl_IsModel_v X Y Z t g r (by omega)]
  simp only [Option.bind_some, impl_AboveGrade.j0]
  cases h : modelB X Y Z t g r with
  | false => simp
  | true =>
    have hm := modelB_t h
    have := hm.le; have := hm.lg
    by_cases hg : 0 ≤ grade ∧ grade ≤ 1001
    · rw [if_pos rfl, if_neg (by omega), if_neg (by simp; omega), if_pos ⟨rfl, hg⟩]
      have := impl_AboveGrade_l grade g (by omega) g.length k 0 [] (by omega) (by omega) (by simp)
      simpa using this
    · rw [if_pos rfl, if_neg (show ¬ (true = true ∧ 0 ≤ grade ∧ grade ≤ 1001) by simp [hg])]
      split
      · simp
      · rw [if_pos (by simp; omega)]
theorem spec_l1Own_v (l : List Int) (h : l.length ≤ 1048576) : spec_l1Own.f l = some l := by
  unfold spec_l1Own.f
  simp only [Option.bind_some, List.length_nil, List.nil_append]
  rw [if_pos (by omega)]
theorem spec_moOwn_v (X Y Z : Int) (t g r : List Int) (h3 : t.length ≤ 1048576) (h4 : g.length ≤ 1048576) (h5 : r.length ≤ 1048576) : spec_moOwn.f X Y Z t g r = some (X, Y, Z, t, g, r) := by
  unfold spec_moOwn.f
  rw [spec_l1Own_v t h3, spec_l1Own_v g h4, spec_l1Own_v r h5]
  rfl
theorem impl_copyModel_v (X Y Z : Int) (t g r : List Int) (h3 : t.length ≤ 1048576) (h4 : g.length ≤ 1048576) (h5 : r.length ≤ 1048576) : impl_copyModel.f X Y Z t g r = some (X, Y, Z, t, g, r) := by
  unfold impl_copyModel.f
  simp only [Option.bind_some, List.length_nil, List.nil_append]
  rw [if_pos (by omega), if_pos (by omega), if_pos (by omega)]
def setR (X Y Z : Int) (t g r : List Int) (i a b c : Int) : Int × Int × Int × List Int × List Int × List Int × Bool :=
  if modHas X Y Z t g r i = true then (if modelB X Y Z (t.set i.toNat a) (g.set i.toNat b) (r.set i.toNat c) = true then (X, Y, Z, t.set i.toNat a, g.set i.toNat b, r.set i.toNat c, true) else (0, 0, 0, [], [], [], false)) else (0, 0, 0, [], [], [], false)
theorem setR_is (X Y Z : Int) (t g r : List Int) (i a b c : Int) (h3 : t.length ≤ 1048576) (h4 : g.length ≤ 1048576) (h5 : r.length ≤ 1048576) : ∃ X' Y' Z' t' g' r' q, setR X Y Z t g r i a b c = (X', Y', Z', t', g', r', q) ∧ t'.length ≤ 1048576 ∧ g'.length ≤ 1048576 ∧ r'.length ≤ 1048576 := by
  unfold setR
  split
  · split
    · exact ⟨_, _, _, _, _, _, _, rfl, by simpa using h3, by simpa using h4, by simpa using h5⟩
    · exact ⟨_, _, _, _, _, _, _, rfl, by simp, by simp, by simp⟩
  · exact ⟨_, _, _, _, _, _, _, rfl, by simp, by simp, by simp⟩
theorem spec_SetBlock_v (X Y Z : Int) (t g r : List Int) (i a b c : Int) (h3 : t.length ≤ 1048576) (h4 : g.length ≤ 1048576) (h5 : r.length ≤ 1048576) {k : Nat} (hk : 122 < k) : spec_SetBlock.f k X Y Z t g r i a b c = some (setR X Y Z t g r i a b c) := by
  unfold spec_SetBlock.f setR
  rw [spec_moHas_v X Y Z t g r i hk]
  cases h : modHas X Y Z t g r i with
  | false => simp
  | true =>
    obtain ⟨hm, h0, h1⟩ := modHas_t h
    have := hm.lg; have := hm.lr
    simp only [Option.bind_some, if_true, spec_moOwn_v X Y Z t g r h3 h4 h5]
    rw [if_pos h0, if_pos h1, if_pos (by omega), if_pos (by omega), spec_moGood_v _ _ _ _ _ _ hk, Option.bind_some]
    cases modelB X Y Z (t.set i.toNat a) (g.set i.toNat b) (r.set i.toNat c) <;> simp
theorem impl_SetBlock_v (X Y Z : Int) (t g r : List Int) (i a b c : Int) (h3 : t.length ≤ 1048576) (h4 : g.length ≤ 1048576) (h5 : r.length ≤ 1048576) {k : Nat} (hk : 123 < k) : impl_SetBlock.f k X Y Z t g r i a b c = some (setR X Y Z t g r i a b c) := by
  obtain ⟨k, rfl⟩ := k_succ (by omega : 0 < k)
  unfold impl_SetBlock.f setR modHas
  rw [impl_IsModel_v X Y Z t g r (by omega)]
  cases h : modelB X Y Z t g r with
  | false => simp [impl_SetBlock.j0]
  | true =>
    have hm := modelB_t h
    have := hm.lg; have := hm.lr
    simp only [Option.bind_some, if_true, Bool.true_and, decide_eq_true_eq]
    by_cases hi : 0 ≤ i ∧ i < (t.length : Int)
    · rw [if_neg (by omega), if_pos hi, decide_eq_false (by omega), impl_SetBlock.j0]
      simp only [Bool.false_eq_true, if_false, impl_copyModel_v X Y Z t g r h3 h4 h5, Option.bind_some]
      rw [if_pos hi.1, if_pos hi.2, if_pos (by omega), if_pos (by omega), impl_IsModel_v _ _ _ _ _ _ (by omega), Option.bind_some]
      cases modelB X Y Z (t.set i.toNat a) (g.set i.toNat b) (r.set i.toNat c) <;> simp
    · rw [if_neg hi]
      split
      · simp [impl_SetBlock.j0]
      · rw [decide_eq_true (by omega)]; simp [impl_SetBlock.j0]
theorem u64_wrap_bd (n : Int) : 0 ≤ IntKind.u64.wrap n ∧ IntKind.u64.wrap n < 18446744073709551616 := by rw [IntKind.wrap_u64]; omega
theorem and255 {x : Int} (h0 : 0 ≤ x) (h1 : x < 18446744073709551616) : 0 ≤ Go.bits .and .u64 x 255 ∧ Go.bits .and .u64 x 255 ≤ 255 := by
  have := bits_mask .u64 64 (by decide) (fun n a b => by rw [IntKind.wrap_u64]; omega) 8 (by decide) x h0 (by omega)
  rw [show (2 : Int) ^ 8 - 1 = 255 by decide, show (2 : Int) ^ 8 = 256 by decide] at this
  rw [this]; omega
/-- the bytes of a draw -/
def Bytes (s : List Int) : Prop := ∀ x ∈ s, 0 ≤ x ∧ x ≤ 255
theorem Bytes.rd {s : List Int} (h : Bytes s) {i : Int} (h0 : 0 ≤ i) (h1 : i < (s.length : Int)) : 0 ≤ rd s i ∧ rd s i ≤ 255 := by
  obtain ⟨n, rfl⟩ := Int.eq_ofNat_of_zero_le h0
  have hn : n < s.length := by omega
  rw [rd_get hn]
  exact h _ (List.getElem_mem hn)
theorem bytes_of_wf {s : List Int} (h : ∀ x ∈ s, (Lit.int .u8 x).wf = true) : Bytes s := by
  intro x hx
  have := h x hx
  simp [Lit.wf] at this
  have e1 : IntKind.u8.min = 0 := by decide
  have e2 : IntKind.u8.max = 255 := by decide
  omega
theorem spec_l1Cur_next_d {s : List Int} (hs : Bytes s) (hl : s.length ≤ 9223372036854775807) (p st : Int) (h0 : 0 ≤ p) (h1 : p ≤ 1000000000) :
    ∃ v st', spec_l1Cur_next.f s p st = some (v, p + 1, st') ∧ 0 ≤ v ∧ v ≤ 255 := by
  unfold spec_l1Cur_next.f
  rw [w64 (by omega) (by omega) (x := p + 1)]
  have hb : ∀ n, 0 ≤ Go.bits .and .u64 (IntKind.u64.wrap n / 1099511627776) 255 ∧ Go.bits .and .u64 (IntKind.u64.wrap n / 1099511627776) 255 ≤ 255 := fun n => by
    have := u64_wrap_bd n
    exact and255 (by omega) (by omega)
  by_cases c : p < (s.length : Int)
  · rw [if_pos c, if_pos h0]
    have := hs.rd h0 c
    by_cases d : p + 1 ≤ (s.length : Int)
    · rw [if_pos d, w64 (by omega) (by omega) (x := rd s p)]
      exact ⟨_, _, rfl, this⟩
    · omega
  · rw [if_neg c, if_neg (by omega)]
    refine ⟨_, _, rfl, ?_⟩
    have h2 := hb (IntKind.u64.wrap (IntKind.u64.wrap (st * 6364136223846793005)) + 1442695040888963407)
    rw [w64 (by omega) (by omega)]
    exact h2
theorem spec_l1Cur_pick_d {s : List Int} (hs : Bytes s) (hl : s.length ≤ 9223372036854775807) (p st a : Int) (h0 : 0 ≤ p) (h1 : p ≤ 999999000) (ha : a ≤ 60000) :
    ∃ v p' st', spec_l1Cur_pick.f s p st a = some (v, p', st') ∧ 0 ≤ v ∧ (v < a ∨ v = 0) ∧ p ≤ p' ∧ p' ≤ p + 2 := by
  unfold spec_l1Cur_pick.f
  by_cases c : a ≤ 1
  · rw [if_pos c]; exact ⟨_, _, _, rfl, by omega, .inr rfl, by omega, by omega⟩
  · rw [if_neg c]
    obtain ⟨v, st1, e, v0, v1⟩ := spec_l1Cur_next_d hs hl p st h0 (by omega)
    rw [e, Option.bind_some]
    dsimp only
    by_cases d : a > 200
    · rw [if_pos d]
      obtain ⟨u, st2, e2, u0, u1⟩ := spec_l1Cur_next_d hs hl (p + 1) st1 (by omega) (by omega)
      rw [e2, Option.bind_some, if_neg (by omega)]
      dsimp only
      rw [w64 (by omega) (by omega) (x := v * 256), w64 (by omega) (by omega)]
      refine ⟨_, _, _, rfl, Int.tmod_nonneg _ (by omega), .inl (Int.tmod_lt_of_pos _ (by omega)), by omega, by omega⟩
    · rw [if_neg d, if_neg (by omega)]
      exact ⟨_, _, _, rfl, Int.tmod_nonneg _ v0, .inl (Int.tmod_lt_of_pos _ (by omega)), by omega, by omega⟩
theorem spec_l1Cur_among_d {s : List Int} (hs : Bytes s) (hl : s.length ≤ 9223372036854775807) (p st : Int) (l : List Int) (h0 : 0 ≤ p) (h1 : p ≤ 999999000) (hn : 1 ≤ l.length) (hn' : l.length ≤ 1000) :
    ∃ v p' st', spec_l1Cur_among.f s p st l = some (v, p', st') ∧ v ∈ l ∧ p ≤ p' ∧ p' ≤ p + 2 := by
  unfold spec_l1Cur_among.f
  obtain ⟨v, p', st', e, v0, v1, q0, q1⟩ := spec_l1Cur_pick_d hs hl p st (l.length : Int) h0 h1 (by omega)
  rw [e, Option.bind_some]
  dsimp only
  have hv : v < (l.length : Int) := by omega
  rw [if_pos v0, if_pos hv]
  refine ⟨_, _, _, rfl, ?_, q0, q1⟩
  obtain ⟨n, rfl⟩ := Int.eq_ofNat_of_zero_le v0
  have hn : n < l.length := by omega
  rw [rd_get hn]
  exact List.getElem_mem hn
theorem spec_l1Cur_one_d {s : List Int} (hs : Bytes s) (hl : s.length ≤ 9223372036854775807) (p st a : Int) (h0 : 0 ≤ p) (h1 : p ≤ 999999000) (ha : a ≤ 60000) :
    ∃ b p' st', spec_l1Cur_one.f s p st a = some (b, p', st') ∧ p ≤ p' ∧ p' ≤ p + 2 := by
  unfold spec_l1Cur_one.f
  obtain ⟨v, p', st', e, v0, v1, q0, q1⟩ := spec_l1Cur_pick_d hs hl p st a h0 h1 ha
  rw [e, Option.bind_some]
  exact ⟨_, _, _, rfl, q0, q1⟩
theorem spec_l1Cur_grid_d {s : List Int} (hs : Bytes s) (hl : s.length ≤ 9223372036854775807) (p st : Int) (h0 : 0 ≤ p) (h1 : p ≤ 999998000) :
    ∃ X Y Z p' st', spec_l1Cur_grid.f s p st = some (X, Y, Z, p', st') ∧ gridB X Y Z = true ∧ p ≤ p' ∧ p' ≤ p + 8 := by
  unfold spec_l1Cur_grid.f
  obtain ⟨b, p1, st1, e, q0, q1⟩ := spec_l1Cur_one_d hs hl p st 24 h0 (by omega) (by omega)
  rw [e, Option.bind_some]
  dsimp only
  cases b with
  | true =>
    rw [if_pos rfl, Option.bind_some]
    obtain ⟨v, p2, st2, e2, v0, v1, r0, r1⟩ := spec_l1Cur_pick_d hs hl p1 st1 4 (by omega) (by omega) (by omega)
    rw [e2, Option.bind_some]
    dsimp only
    rw [if_pos v0, if_pos (by simp only [List.length_cons, List.length_nil]; omega)]
    refine ⟨_, _, _, _, _, rfl, ?_, by omega, by omega⟩
    have : v = 0 ∨ v = 1 ∨ v = 2 ∨ v = 3 := by omega
    rcases this with rfl | rfl | rfl | rfl <;> decide
  | false =>
    rw [if_neg (by simp)]
    obtain ⟨v, p2, st2, e2, v0, v1, r0, r1⟩ := spec_l1Cur_pick_d hs hl p1 st1 4 (by omega) (by omega) (by omega)
    rw [e2, Option.bind_some]
    obtain ⟨u, p3, st3, e3, u0, u1, r2, r3⟩ := spec_l1Cur_pick_d hs hl p2 st2 3 (by omega) (by omega) (by omega)
    dsimp only
    rw [e3, Option.bind_some]
    obtain ⟨z, p4, st4, e4, z0, z1, r4, r5⟩ := spec_l1Cur_pick_d hs hl p3 st3 3 (by omega) (by omega) (by omega)
    dsimp only
    rw [e4, Option.bind_some]
    dsimp only
    rw [w64 (by omega) (by omega) (x := 1 + v), w64 (by omega) (by omega) (x := 1 + u), w64 (by omega) (by omega) (x := 1 + z)]
    refine ⟨_, _, _, _, _, rfl, ?_, by omega, by omega⟩
    have hv : v = 0 ∨ v = 1 ∨ v = 2 ∨ v = 3 := by omega
    have hu : u = 0 ∨ u = 1 ∨ u = 2 := by omega
    have hz : z = 0 ∨ z = 1 ∨ z = 2 := by omega
    rcases hv with rfl | rfl | rfl | rfl <;> rcases hu with rfl | rfl | rfl <;> rcases hz with rfl | rfl | rfl <;> decide
theorem anyGridk_d {s : List Int} (hs : Bytes s) (hl : s.length ≤ 9223372036854775807) (p st : Int) (h0 : 0 ≤ p) (h1 : p ≤ 999998000) (k : Nat) :
    ∃ X Y Z p' st', spec_l1Cur_anyGrid.f (k + 1) s p st = some (X, Y, Z, p', st') ∧ p ≤ p' ∧ p' ≤ p + 16 := by
  unfold spec_l1Cur_anyGrid.f
  obtain ⟨X, Y, Z, p1, st1, e, hg, q0, q1⟩ := spec_l1Cur_grid_d hs hl p st h0 h1
  rw [e, Option.bind_some]
  dsimp only
  obtain ⟨v, p2, st2, e2, v0, v1, r0, r1⟩ := spec_l1Cur_pick_d hs hl p1 st1 30 (by omega) (by omega) (by omega)
  rw [e2, Option.bind_some]
  dsimp only
  have am : ∀ l : List Int, 1 ≤ l.length → l.length ≤ 1000 → ∃ v p' st', spec_l1Cur_among.f s p2 st2 l = some (v, p', st') ∧ v ∈ l ∧ p2 ≤ p' ∧ p' ≤ p2 + 2 := fun l a b => spec_l1Cur_among_d hs hl p2 st2 l (by omega) (by omega) a b
  simp only [spec_l1Cur_anyGrid.j0]
  by_cases c0 : v = 0
  · obtain ⟨u, p3, st3, e3, _, r2, r3⟩ := am [0, 8, 9, (-1)] (by decide) (by decide)
    rw [if_pos c0, e3, Option.bind_some]; exact ⟨_, _, _, _, _, rfl, (by dsimp only; omega), (by dsimp only; omega)⟩
  · rw [if_neg c0]
    by_cases c1 : v = 1
    · obtain ⟨u, p3, st3, e3, _, r2, r3⟩ := am [0, 6, 7, (-1)] (by decide) (by decide)
      rw [if_pos c1, e3, Option.bind_some]; exact ⟨_, _, _, _, _, rfl, (by dsimp only; omega), (by dsimp only; omega)⟩
    · rw [if_neg c1]
      by_cases c2 : v = 2
      · obtain ⟨u, p3, st3, e3, _, r2, r3⟩ := am [0, 5, 6, (-1)] (by decide) (by decide)
        rw [if_pos c2, e3, Option.bind_some]; exact ⟨_, _, _, _, _, rfl, (by dsimp only; omega), (by dsimp only; omega)⟩
      · rw [if_neg c2]
        by_cases c3 : v = 3
        · obtain ⟨u, p3, st3, e3, _, r2, r3⟩ := am [2, 3] (by decide) (by decide)
          rw [if_pos c3, e3, Option.bind_some]; exact ⟨_, _, _, _, _, rfl, (by dsimp only; omega), (by dsimp only; omega)⟩
        · rw [if_neg c3]
          by_cases c4 : v = 4
          · rw [if_pos c4]; exact ⟨_, _, _, _, _, rfl, by omega, by omega⟩
          · rw [if_neg c4]; exact ⟨_, _, _, _, _, rfl, by omega, by omega⟩
theorem spec_l1Cur_block_d {s : List Int} (hs : Bytes s) (hl : s.length ≤ 9223372036854775807) (p st X Y Z : Int) (h0 : 0 ≤ p) (h1 : p ≤ 999998000) :
    ∃ v p' st', spec_l1Cur_block.f s p st X Y Z = some (v, p', st') ∧ -1 ≤ v ∧ v ≤ 120 ∧ p ≤ p' ∧ p' ≤ p + 4 := by
  unfold spec_l1Cur_block.f
  rw [spec_grGood_v, Option.bind_some]
  cases hg : gridB X Y Z with
  | false => rw [if_neg (by simp)]; exact ⟨_, _, _, rfl, (by first | omega | (dsimp only; omega)), (by first | omega | (dsimp only; omega)), (by first | omega | (dsimp only; omega)), (by first | omega | (dsimp only; omega))⟩
  | true =>
    have hp := grid_pos hg
    rw [if_pos rfl]
    obtain ⟨b, p1, st1, e, q0, q1⟩ := spec_l1Cur_one_d hs hl p st 24 h0 (by omega) (by omega)
    rw [e, Option.bind_some, spec_grCount_v hg]
    dsimp only
    cases b with
    | true =>
      rw [if_pos rfl, Option.bind_some]
      obtain ⟨u, p3, st3, e3, hu, r2, r3⟩ := spec_l1Cur_among_d hs hl p1 st1 [-1, X * Y * Z] (by omega) (by omega) (by simp) (by simp)
      rw [e3, Option.bind_some]
      simp only [List.mem_cons, List.not_mem_nil, or_false] at hu
      exact ⟨_, _, _, rfl, (by first | omega | (dsimp only; omega)), (by first | omega | (dsimp only; omega)), (by first | omega | (dsimp only; omega)), (by first | omega | (dsimp only; omega))⟩
    | false =>
      rw [if_neg (by simp), Option.bind_some]
      obtain ⟨u, p3, st3, e3, hu, hu', r2, r3⟩ := spec_l1Cur_pick_d hs hl p1 st1 (X * Y * Z) (by omega) (by omega) (by omega)
      rw [e3, Option.bind_some]
      exact ⟨_, _, _, rfl, (by first | omega | (dsimp only; omega)), (by first | omega | (dsimp only; omega)), (by first | omega | (dsimp only; omega)), (by first | omega | (dsimp only; omega))⟩
theorem laws_big_v (a b : List Int) (ha : a.length ≤ maxLen) (hb : b.length ≤ maxLen) : laws_big.f a b = some true ∨ (laws_big.f a b = some false ∧ a.length + b.length ≤ 1048576) := by
  unfold laws_big.f
  by_cases c : (a.length : Int) > 1048576
  · rw [if_pos c]; exact .inl rfl
  · rw [if_neg c, w64 (by omega) (by omega)]
    by_cases d : (b.length : Int) > 1048576 - (a.length : Int)
    · rw [decide_eq_true d]; exact .inl rfl
    · rw [decide_eq_false d]; exact .inr ⟨rfl, by omega⟩
theorem laws_sameInts_l (l : List Int) (hn : l.length ≤ 1048576) : ∀ (d k i : Nat), i + d = l.length → d < k → laws_sameInts.l0 k l l (l.length : Int) (i : Int) = some true := by
  intro d
  induction d with
  | zero =>
    intro k i hi hk
    obtain ⟨k, rfl⟩ := k_succ (by omega : 0 < k)
    simp only [laws_sameInts.l0]
    rw [if_neg (by omega)]
  | succ d ih =>
    intro k i hi hk
    obtain ⟨k, rfl⟩ := k_succ (by omega : 0 < k)
    simp only [laws_sameInts.l0]
    rw [if_pos (by omega), if_pos (by omega), if_pos (by omega), if_pos (by omega), if_pos trivial, w64_succ (by omega), ih k (i + 1) (by omega) (by omega)]
theorem laws_sameInts_v (l : List Int) (hn : l.length ≤ 1048576) {k : Nat} (hk : l.length < k) : laws_sameInts.f k l l = some true := by
  unfold laws_sameInts.f
  rw [if_pos rfl]
  exact laws_sameInts_l l hn l.length k 0 (by omega) hk
theorem laws_pIn_l (l : List Int) (v : Int) (hn : l.length ≤ 1048576) : ∀ (d k i : Nat), i + d = l.length → d < k → laws_pIn.l0 k v l (l.length : Int) (i : Int) = some (decide (v ∈ l.drop i)) := by
  intro d
  induction d with
  | zero =>
    intro k i hi hk
    obtain ⟨k, rfl⟩ := k_succ (by omega : 0 < k)
    simp only [laws_pIn.l0]
    rw [if_neg (by omega), List.drop_eq_nil_of_le (by omega)]; simp
  | succ d ih =>
    intro k i hi hk
    obtain ⟨k, rfl⟩ := k_succ (by omega : 0 < k)
    simp only [laws_pIn.l0]
    rw [if_pos (by omega), if_pos (by omega), if_pos (by omega), w64_succ (by omega), ih k (i + 1) (by omega) (by omega), drop_rd (by omega : i < l.length)]
    by_cases c : rd l (i : Int) = v
    · rw [if_pos c, c]; simp
    · rw [if_neg c]
      congr 1
      rw [decide_eq_decide, List.mem_cons]
      exact ⟨.inr, fun h => h.elim (fun e => absurd e.symm c) id⟩
theorem laws_pIn_v (l : List Int) (v : Int) (hn : l.length ≤ 1048576) {k : Nat} (hk : l.length < k) : laws_pIn.f k l v = some (decide (v ∈ l)) := by
  unfold laws_pIn.f
  simpa using laws_pIn_l l v hn l.length k 0 (by omega) hk
theorem spec_l1Cur_model_l {s : List Int} (hs : Bytes s) (hl : s.length ≤ 9223372036854775807) (X Y Z : Int) : ∀ (d k : Nat) (p st : Int) (t g r : List Int), d < k → d ≤ 1000 → 0 ≤ p → p + 10 * (d : Int) ≤ 999990000 → t.length ≤ 2000 → g.length ≤ 2000 → r.length ≤ 2000 → t.length + d ≤ 2000 → g.length + d ≤ 2000 → r.length + d ≤ 2000 →
    ∃ t' g' r' p' st', spec_l1Cur_model.l0 k (d : Int) s p st X Y Z t g r = some (X, Y, Z, t', g', r', p', st') ∧ t'.length = t.length + d ∧ g'.length = g.length + d ∧ r'.length = r.length + d ∧ p ≤ p' ∧ p' ≤ p + 10 * (d : Int) := by
  intro d
  induction d with
  | zero =>
    intro k p st t g r hk _ h0 h1 _ _ _ _ _ _
    obtain ⟨k, rfl⟩ := k_succ (by omega : 0 < k)
    rw [spec_l1Cur_model.l0, if_neg (by omega)]
    exact ⟨_, _, _, _, _, rfl, by omega, by omega, by omega, by omega, by omega⟩
  | succ d ih =>
    intro k p st t g r hk hd h0 h1 a1 a2 a3 b1 b2 b3
    obtain ⟨k, rfl⟩ := k_succ (by omega : 0 < k)
    rw [spec_l1Cur_model.l0, if_pos (by omega)]
    obtain ⟨v1, p1, st1, e1, _, _, q1, q1'⟩ := spec_l1Cur_pick_d hs hl p st 10001 h0 (by omega) (by omega)
    rw [e1, Option.bind_some]; dsimp only
    obtain ⟨v2, p2, st2, e2, _, q2, q2'⟩ := spec_l1Cur_among_d hs hl p1 st1 [0, 100, 100, 200, 500, 1000, v1] (by omega) (by omega) (by simp) (by simp)
    rw [e2, Option.bind_some]; dsimp only
    rw [if_pos (by omega)]
    obtain ⟨v3, p3, st3, e3, _, _, q3, q3'⟩ := spec_l1Cur_pick_d hs hl p2 st2 1001 (by omega) (by omega) (by omega)
    rw [e3, Option.bind_some]; dsimp only
    obtain ⟨v4, p4, st4, e4, _, q4, q4'⟩ := spec_l1Cur_among_d hs hl p3 st3 [0, 0, 5, 10, 20, 50, v3] (by omega) (by omega) (by simp) (by simp)
    rw [e4, Option.bind_some]; dsimp only
    rw [if_pos (by omega)]
    obtain ⟨v5, p5, st5, e5, _, _, q5, q5'⟩ := spec_l1Cur_pick_d hs hl p4 st4 5 (by omega) (by omega) (by omega)
    rw [e5, Option.bind_some]; dsimp only
    rw [if_pos (by omega), w64 (by omega) (by omega), show ((d + 1 : Nat) : Int) - 1 = (d : Int) by omega]
    obtain ⟨t', g', r', p', st', e, c1, c2, c3, c4, c5⟩ := ih k p5 st5 (t ++ [v2]) (g ++ [v4]) (r ++ [v5]) (by omega) (by omega) (by omega) (by omega) (by simp; omega) (by simp; omega) (by simp; omega) (by simp; omega) (by simp; omega) (by simp; omega)
    simp only [List.length_append, List.length_singleton] at c1 c2 c3
    exact ⟨t', g', r', p', st', e, by omega, by omega, by omega, by omega, by omega⟩
theorem spec_l1Cur_model_d {s : List Int} (hs : Bytes s) (hl : s.length ≤ 9223372036854775807) (p st : Int) (h0 : 0 ≤ p) (h1 : p ≤ 900000000) {k : Nat} (hk : 200 < k) :
    ∃ X Y Z t g r p' st', spec_l1Cur_model.f k s p st = some (X, Y, Z, t, g, r, p', st') ∧ gridB X Y Z = true ∧ (t.length : Int) = X * Y * Z ∧ g.length = t.length ∧ r.length = t.length ∧ 1 ≤ t.length ∧ t.length ≤ 120 ∧ p ≤ p' ∧ p' ≤ p + 2000 := by
  unfold spec_l1Cur_model.f
  obtain ⟨X, Y, Z, p1, st1, e, hg, q0, q1⟩ := spec_l1Cur_grid_d hs hl p st h0 (by omega)
  have hp := grid_pos hg
  obtain ⟨n, hn⟩ : ∃ n : Nat, X * Y * Z = (n : Int) := ⟨(X * Y * Z).toNat, by omega⟩
  rw [e, Option.bind_some]; dsimp only
  rw [spec_grCount_v hg, Option.bind_some, hn]
  obtain ⟨t, g, r, p', st', e2, c1, c2, c3, c4, c5⟩ := spec_l1Cur_model_l hs hl X Y Z n k p1 st1 [] [] [] (by omega) (by omega) (by omega) (by omega) (by simp) (by simp) (by simp) (by simp; omega) (by simp; omega) (by simp; omega)
  simp only [List.length_nil, Nat.zero_add] at c1 c2 c3
  exact ⟨X, Y, Z, t, g, r, p', st', e2, hg, by omega, by omega, by omega, by omega, by omega, by omega, by omega⟩
theorem spec_l1Cur_anyModel_d {s : List Int} (hs : Bytes s) (hl : s.length ≤ 9223372036854775807) (p st : Int) (h0 : 0 ≤ p) (h1 : p ≤ 900000000) {k : Nat} (hk : 200 < k) :
    ∃ X Y Z t g r p' st', spec_l1Cur_anyModel.f k s p st = some (X, Y, Z, t, g, r, p', st') ∧ t.length ≤ 200 ∧ g.length ≤ 200 ∧ r.length ≤ 200 ∧ p ≤ p' ∧ p' ≤ p + 3000 := by
  obtain ⟨k, rfl⟩ : ∃ m, k = m + 7 := ⟨k - 7, by omega⟩
  unfold spec_l1Cur_anyModel.f
  obtain ⟨X, Y, Z, t, g, r, p1, st1, e, hg, hn, hgl, hrl, hp0, hp1, q0, q1⟩ := spec_l1Cur_model_d hs hl p st h0 h1 hk
  rw [e, Option.bind_some]; dsimp only
  rw [spec_grCount_v hg, Option.bind_some]
  obtain ⟨v, p2, st2, e2, v0, v1, q2, q2'⟩ := spec_l1Cur_pick_d hs hl p1 st1 30 (by omega) (by omega) (by omega)
  rw [e2, Option.bind_some]; dsimp only
  by_cases c0 : v = 0
  · rw [if_pos c0]
    obtain ⟨X', Y', Z', p3, st3, e3, q3, q3'⟩ := anyGridk_d hs hl p2 st2 (by omega) (by omega) (k + 6)
    rw [e3, Option.bind_some]
    dsimp only
    exact ⟨X', Y', Z', t, g, r, p3, st3, by simp only [spec_l1Cur_anyModel.j0], by omega, by omega, by omega, by omega, by omega⟩
  · rw [if_neg c0]
    by_cases c1 : v = 1
    · rw [if_pos c1]
      obtain ⟨u, p3, st3, e3, u0, u1, q3, q3'⟩ := spec_l1Cur_pick_d hs hl p2 st2 (X * Y * Z) (by omega) (by omega) (by omega)
      rw [e3, Option.bind_some]; dsimp only
      obtain ⟨y, p4, st4, e4, _, q4, q4'⟩ := spec_l1Cur_among_d hs hl p3 st3 [(-1), 10000, 10001] (by omega) (by omega) (by simp) (by simp)
      rw [e4, Option.bind_some]; dsimp only
      rw [if_pos u0, if_pos (by omega)]
      exact ⟨X, Y, Z, t.set u.toNat y, g, r, p4, st4, by simp only [spec_l1Cur_anyModel.j0], by simp; omega, by omega, by omega, by omega, by omega⟩
    · rw [if_neg c1]
      by_cases c2 : v = 2
      · rw [if_pos c2]
        obtain ⟨u, p3, st3, e3, u0, u1, q3, q3'⟩ := spec_l1Cur_pick_d hs hl p2 st2 (X * Y * Z) (by omega) (by omega) (by omega)
        rw [e3, Option.bind_some]; dsimp only
        obtain ⟨y, p4, st4, e4, _, q4, q4'⟩ := spec_l1Cur_among_d hs hl p3 st3 [(-1), 1000, 1001] (by omega) (by omega) (by simp) (by simp)
        rw [e4, Option.bind_some]; dsimp only
        rw [if_pos u0, if_pos (by omega)]
        exact ⟨X, Y, Z, t, g.set u.toNat y, r, p4, st4, by simp only [spec_l1Cur_anyModel.j0], by omega, by simp; omega, by omega, by omega, by omega⟩
      · rw [if_neg c2]
        by_cases c3 : v = 3
        · rw [if_pos c3]
          obtain ⟨u, p3, st3, e3, u0, u1, q3, q3'⟩ := spec_l1Cur_pick_d hs hl p2 st2 (X * Y * Z) (by omega) (by omega) (by omega)
          rw [e3, Option.bind_some]; dsimp only
          obtain ⟨y, p4, st4, e4, _, q4, q4'⟩ := spec_l1Cur_among_d hs hl p3 st3 [(-1), 4, 5] (by omega) (by omega) (by simp) (by simp)
          rw [e4, Option.bind_some]; dsimp only
          rw [if_pos u0, if_pos (by omega)]
          exact ⟨X, Y, Z, t, g, r.set u.toNat y, p4, st4, by simp only [spec_l1Cur_anyModel.j0], by omega, by omega, by simp; omega, by omega, by omega⟩
        · rw [if_neg c3]
          by_cases c4 : v = 4
          · rw [if_pos c4, if_pos (by omega)]
            exact ⟨X, Y, Z, t, g, r ++ [0], p2, st2, by simp only [spec_l1Cur_anyModel.j0], by omega, by omega, by simp; omega, by omega, by omega⟩
          · rw [if_neg c4]
            exact ⟨X, Y, Z, t, g, r, p2, st2, by simp only [spec_l1Cur_anyModel.j0], by omega, by omega, by omega, by omega, by omega⟩
theorem spec_l1Cur_some_l1 {s : List Int} (p st : Int) (n : Nat) (hn : n ≤ 300) : ∀ (d k i : Nat) (acc : List Int), i + d = n → d < k → acc.length ≤ i →
    ∃ l, spec_l1Cur_some.l1 k (n : Int) acc (i : Int) s p st = some (l, p, st) ∧ l.length ≤ n := by
  intro d
  induction d with
  | zero =>
    intro k i acc hi hk ha
    obtain ⟨k, rfl⟩ := k_succ (by omega : 0 < k)
    rw [spec_l1Cur_some.l1, if_neg (by omega)]
    exact ⟨acc, rfl, by omega⟩
  | succ d ih =>
    intro k i acc hi hk ha
    obtain ⟨k, rfl⟩ := k_succ (by omega : 0 < k)
    rw [spec_l1Cur_some.l1, if_pos (by omega), if_pos (by omega), w64_succ (by omega)]
    exact ih k (i + 1) _ (by omega) (by omega) (by simp; omega)
theorem spec_l1Cur_some_l0 {s : List Int} (hs : Bytes s) (hl : s.length ≤ 9223372036854775807) (n : Nat) (hn : n ≤ 300) : ∀ (d k i : Nat) (acc : List Int) (p st : Int), i + d = n → d + 310 < k → acc.length ≤ i → 0 ≤ p → p + 10 * (d : Int) ≤ 999980000 →
    ∃ l p' st', spec_l1Cur_some.l0 k (n : Int) acc (i : Int) s p st = some (l, p', st') ∧ l.length ≤ 400 := by
  intro d
  induction d with
  | zero =>
    intro k i acc p st hi hk ha h0 h1
    obtain ⟨k, rfl⟩ := k_succ (by omega : 0 < k)
    rw [spec_l1Cur_some.l0, if_neg (by omega)]
    obtain ⟨v, p1, st1, e1, _, _, q1, q1'⟩ := spec_l1Cur_pick_d hs hl p st 24 h0 (by omega) (by omega)
    rw [e1, Option.bind_some]; dsimp only
    by_cases c0 : v = 0
    · rw [if_pos c0]
      obtain ⟨y, p4, st4, e4, _, q4, q4'⟩ := spec_l1Cur_among_d hs hl p1 st1 [(-1), (n : Int), 0] (by omega) (by omega) (by simp) (by simp)
      rw [e4, Option.bind_some]; dsimp only
      rw [if_pos (by omega)]
      exact ⟨_, _, _, rfl, by simp; omega⟩
    · rw [if_neg c0]
      by_cases c1 : v = 1
      · rw [if_pos c1]
        obtain ⟨l, e, hh⟩ := spec_l1Cur_some_l1 (s := s) p1 st1 n hn n k 0 [] (by omega) (by omega) (by simp)
        exact ⟨l, p1, st1, e, by omega⟩
      · rw [if_neg c1]
        exact ⟨_, _, _, rfl, by omega⟩
  | succ d ih =>
    intro k i acc p st hi hk ha h0 h1
    obtain ⟨k, rfl⟩ := k_succ (by omega : 0 < k)
    rw [spec_l1Cur_some.l0, if_pos (by omega)]
    obtain ⟨b, p1, st1, e1, q1, q1'⟩ := spec_l1Cur_one_d hs hl p st 3 h0 (by omega) (by omega)
    rw [e1, Option.bind_some]; dsimp only
    cases b with
    | true =>
      rw [if_pos rfl, if_pos (by omega), w64_succ (by omega)]
      exact ih k (i + 1) _ p1 st1 (by omega) (by omega) (by simp; omega) (by omega) (by omega)
    | false =>
      rw [if_neg (by decide), w64_succ (by omega)]
      exact ih k (i + 1) _ p1 st1 (by omega) (by omega) (by omega) (by omega) (by omega)
theorem spec_l1Cur_some_d {s : List Int} (hs : Bytes s) (hl : s.length ≤ 9223372036854775807) (p st : Int) (n : Nat) (hn : n ≤ 300) (h0 : 0 ≤ p) (h1 : p ≤ 999900000) {k : Nat} (hk : 700 < k) :
    ∃ l p' st', spec_l1Cur_some.f k s p st (n : Int) = some (l, p', st') ∧ l.length ≤ 400 := by
  unfold spec_l1Cur_some.f
  exact spec_l1Cur_some_l0 hs hl n hn n k 0 [] p st (by omega) (by omega) (by simp) h0 (by omega)
theorem DrawSumsOf_d {s : List Int} (hs : Bytes s) (hl : s.length ≤ 9223372036854775807) {k : Nat} (hk : 700 < k) : ∃ X Y Z t g r l, spec_DrawSumsOf.f k s = some (X, Y, Z, t, g, r, l) ∧ t.length ≤ 200 ∧ g.length ≤ 200 ∧ r.length ≤ 200 ∧ l.length ≤ 400 := by
  unfold spec_DrawSumsOf.f
  obtain ⟨X, Y, Z, t, g, r, p, st, e, a1, a2, a3, q0, q1⟩ := spec_l1Cur_anyModel_d hs hl 0 0 (by omega) (by omega) (by omega : 200 < k)
  rw [e, Option.bind_some]; dsimp only
  obtain ⟨l, p', st', e2, hh⟩ := spec_l1Cur_some_d hs hl p st t.length (by omega) (by omega) (by omega) hk
  rw [e2, Option.bind_some]
  exact ⟨X, Y, Z, t, g, r, l, rfl, a1, a2, a3, hh⟩
theorem laws_pSameModel_v (X Y Z : Int) (t g r : List Int) (h3 : t.length ≤ 1048576) (h4 : g.length ≤ 1048576) (h5 : r.length ≤ 1048576) {k : Nat} (hk : 1048576 < k) : laws_pSameModel.f k X Y Z t g r X Y Z t g r = some true := by
  unfold laws_pSameModel.f
  rw [if_pos (by simp), laws_sameInts_v t h3 (by omega), Option.bind_some, if_pos rfl, laws_sameInts_v g h4 (by omega), Option.bind_some, if_pos rfl, laws_sameInts_v r h5 (by omega)]
  rfl
theorem DrawMeanGrade_d {s : List Int} (hs : Bytes s) (hl : s.length ≤ 9223372036854775807) {k : Nat} (hk : 700 < k) : ∃ X Y Z t g r l, spec_DrawMeanGrade.f k s = some (X, Y, Z, t, g, r, l) ∧ t.length ≤ 200 ∧ g.length ≤ 200 ∧ r.length ≤ 200 ∧ l.length ≤ 400 := by
  unfold spec_DrawMeanGrade.f
  obtain ⟨X, Y, Z, t, g, r, l, e, h⟩ := DrawSumsOf_d hs hl hk
  rw [e, Option.bind_some]
  exact ⟨X, Y, Z, t, g, r, l, rfl, h⟩
theorem DrawAboveGrade_d {s : List Int} (hs : Bytes s) (hl : s.length ≤ 9223372036854775807) {k : Nat} (hk : 700 < k) : ∃ X Y Z t g r q, spec_DrawAboveGrade.f k s = some (X, Y, Z, t, g, r, q) ∧ t.length ≤ 200 ∧ g.length ≤ 200 ∧ r.length ≤ 200 ∧ -1 ≤ q ∧ q ≤ 1002 := by
  unfold spec_DrawAboveGrade.f
  obtain ⟨X, Y, Z, t, g, r, p, st, e, a1, a2, a3, q0, q1⟩ := spec_l1Cur_anyModel_d hs hl 0 0 (by omega) (by omega) (by omega : 200 < k)
  rw [e, Option.bind_some]; dsimp only
  obtain ⟨v, p', st', e2, hv, _, _⟩ := spec_l1Cur_among_d hs hl p st [0, 1, 5, 10, 50, 1000, 1001, 1002, (-1)] (by omega) (by omega) (by simp) (by simp)
  rw [e2, Option.bind_some]
  simp only [List.mem_cons, List.not_mem_nil, or_false] at hv
  exact ⟨X, Y, Z, t, g, r, v, rfl, a1, a2, a3, by omega, by omega⟩
theorem DrawSetBlock_d {s : List Int} (hs : Bytes s) (hl : s.length ≤ 9223372036854775807) {k : Nat} (hk : 700 < k) : ∃ X Y Z t g r i a b c, spec_DrawSetBlock.f k s = some (X, Y, Z, t, g, r, i, a, b, c) ∧ t.length ≤ 200 ∧ g.length ≤ 200 ∧ r.length ≤ 200 := by
  unfold spec_DrawSetBlock.f
  obtain ⟨X, Y, Z, t, g, r, p, st, e, a1, a2, a3, q0, q1⟩ := spec_l1Cur_anyModel_d hs hl 0 0 (by omega) (by omega) (by omega : 200 < k)
  rw [e, Option.bind_some]; dsimp only
  obtain ⟨i, p1, st1, e1, _, _, r0, r1⟩ := spec_l1Cur_block_d hs hl p st X Y Z (by omega) (by omega)
  rw [e1, Option.bind_some]; dsimp only
  obtain ⟨v2, p2, st2, e2, _, s0, s1⟩ := spec_l1Cur_among_d hs hl p1 st1 [0, 100, 10000, 10001, (-1), 500, 700] (by omega) (by omega) (by simp) (by simp)
  rw [e2, Option.bind_some]; dsimp only
  obtain ⟨v3, p3, st3, e3, _, t0, t1⟩ := spec_l1Cur_among_d hs hl p2 st2 [0, 10, 1000, 1001, (-1), 20] (by omega) (by omega) (by simp) (by simp)
  rw [e3, Option.bind_some]; dsimp only
  obtain ⟨v4, p4, st4, e4, _, _, u0, u1⟩ := spec_l1Cur_pick_d hs hl p3 st3 6 (by omega) (by omega) (by omega)
  rw [e4, Option.bind_some]; dsimp only
  obtain ⟨v5, p5, st5, e5, _, _, _, _⟩ := spec_l1Cur_pick_d hs hl p4 st4 24 (by omega) (by omega) (by omega)
  rw [e5, Option.bind_some]
  exact ⟨X, Y, Z, t, g, r, i, v2, v3, _, rfl, a1, a2, a3⟩
theorem DrawMetalOf_d {s : List Int} (hs : Bytes s) (hl : s.length ≤ 9223372036854775807) {k : Nat} (hk : 700 < k) : ∃ X Y Z t g r i, spec_DrawMetalOf.f k s = some (X, Y, Z, t, g, r, i) ∧ t.length ≤ 200 ∧ g.length ≤ 200 ∧ r.length ≤ 200 := by
  unfold spec_DrawMetalOf.f
  obtain ⟨X, Y, Z, t, g, r, p, st, e, a1, a2, a3, q0, q1⟩ := spec_l1Cur_anyModel_d hs hl 0 0 (by omega) (by omega) (by omega : 200 < k)
  rw [e, Option.bind_some]; dsimp only
  obtain ⟨i, p1, st1, e1, _, _, r0, r1⟩ := spec_l1Cur_block_d hs hl p st X Y Z (by omega) (by omega)
  rw [e1, Option.bind_some]
  exact ⟨X, Y, Z, t, g, r, i, rfl, a1, a2, a3⟩
theorem setR_good (X Y Z : Int) (t g r : List Int) (i a b c : Int) {X' Y' Z' : Int} {t' g' r' : List Int} (h : setR X Y Z t g r i a b c = (X', Y', Z', t', g', r', true)) : modelB X' Y' Z' t' g' r' = true := by
  unfold setR at h
  split at h
  · split at h
    · rename_i _ hm
      simp only [Prod.mk.injEq] at h
      obtain ⟨rfl, rfl, rfl, rfl, rfl, rfl, _⟩ := h
      exact hm
    · simp at h
  · simp at h
theorem gr_j8 {s : List Int} (hs : Bytes s) (hl : s.length ≤ 9223372036854775807) (k : Nat) (hk : 1048580 < k) : laws_FnGrades.j8 k s = some true := by
  obtain ⟨k, rfl⟩ := k_succ (by omega : 0 < k)
  obtain ⟨X, Y, Z, t, g, r, i, a, b, c, e, a1, a2, a3⟩ := DrawSetBlock_d hs hl (by omega : 700 < k)
  obtain ⟨U, V, W, u, v, w, j, e', b1, b2, b3⟩ := DrawMetalOf_d hs hl (by omega : 700 < k)
  obtain ⟨X', Y', Z', t', g', r', q, hq, c1, c2, c3⟩ := setR_is X Y Z t g r i a b c (by omega) (by omega) (by omega)
  rw [laws_FnGrades.j8, e, Option.bind_some]; dsimp only
  rw [impl_SetBlock_v _ _ _ _ _ _ _ _ _ _ (by omega) (by omega) (by omega) (by omega), Option.bind_some, spec_SetBlock_v _ _ _ _ _ _ _ _ _ _ (by omega) (by omega) (by omega) (by omega), Option.bind_some, e', Option.bind_some]; dsimp only
  rw [impl_MetalOf_v _ _ _ _ _ _ _ (by omega), Option.bind_some, spec_MetalOf_v _ _ _ _ _ _ _ (by omega), Option.bind_some, hq]; dsimp only
  rw [if_pos (by simp), laws_pSameModel_v _ _ _ _ _ _ c1 c2 c3 (by omega), Option.bind_some, if_pos rfl]
  cases q with
  | true =>
    rw [if_pos rfl, impl_IsModel_v _ _ _ _ _ _ (by omega), setR_good _ _ _ _ _ _ _ _ _ _ hq, Option.bind_some, if_pos rfl, if_pos (by simp)]
    simp
  | false =>
    rw [if_neg (by decide), if_pos (by simp)]
    simp
theorem gr_l1 {s : List Int} (hs : Bytes s) (hl : s.length ≤ 9223372036854775807) (w t : List Int) (ht : t.length ≤ 2000) (hw : w.length ≤ 2000) (hsub : ∀ x ∈ t, x ∈ w) : ∀ (d i k : Nat), i + d = t.length → d + 1050000 < k →
    laws_FnGrades.l1 k s w t (t.length : Int) (i : Int) = some true := by
  intro d
  induction d with
  | zero =>
    intro i k hi hk
    obtain ⟨k, rfl⟩ := k_succ (by omega : 0 < k)
    rw [laws_FnGrades.l1, if_neg (by omega)]
    exact gr_j8 hs hl k (by omega)
  | succ d ih =>
    intro i k hi hk
    obtain ⟨k, rfl⟩ := k_succ (by omega : 0 < k)
    have hm : rd t (i : Int) ∈ w := hsub _ (by rw [rd_get (by omega)]; exact List.getElem_mem _)
    rw [laws_FnGrades.l1, if_pos (by omega), if_pos (by omega), if_pos (by omega), laws_pIn_v w _ (by omega) (by omega), Option.bind_some, decide_eq_true hm, if_pos rfl, w64_succ (by omega)]
    exact ih (i + 1) k (by omega) (by omega)
theorem filtI_sub {p q : Int → Bool} (h : ∀ x, p x = true → q x = true) : ∀ (l : List Int) (i : Nat), (filtI p l i).length ≤ (filtI q l i).length ∧ ∀ x ∈ filtI p l i, x ∈ filtI q l i
  | [], i => by simp [filtI]
  | y :: l, i => by
    have ih := filtI_sub h l (i + 1)
    by_cases c : p y = true
    · rw [filtI_pos c, filtI_pos (h y c)]
      refine ⟨by simp only [List.length_cons]; omega, fun x hx => ?_⟩
      rcases List.mem_cons.1 hx with rfl | hx
      · exact List.mem_cons_self
      · exact List.mem_cons_of_mem _ (ih.2 x hx)
    · rw [filtI_neg c]
      by_cases e : q y = true
      · rw [filtI_pos e]
        exact ⟨by simp only [List.length_cons]; omega, fun x hx => List.mem_cons_of_mem _ (ih.2 x hx)⟩
      · rw [filtI_neg e]; exact ih
theorem gr_j3 {s : List Int} (hs : Bytes s) (hl : s.length ≤ 9223372036854775807) (k : Nat) (hk : 1060000 < k) : laws_FnGrades.j3 k s = some true := by
  obtain ⟨k, rfl⟩ : ∃ m, k = m + 4 := ⟨k - 4, by omega⟩
  obtain ⟨X, Y, Z, t, g, r, q, e, a1, a2, a3, q0, q1⟩ := DrawAboveGrade_d hs hl (by omega : 700 < k + 3)
  have hlen : (aboveR X Y Z t g r q).1.length ≤ 200 := by
    unfold aboveR
    split
    · have := filtI_len (fun x => decide (q ≤ x)) g 0
      dsimp only; omega
    · simp
  rw [laws_FnGrades.j3, e, Option.bind_some]; dsimp only
  rw [impl_AboveGrade_v _ _ _ _ _ _ _ (by omega), Option.bind_some, spec_AboveGrade_v _ _ _ _ _ _ _ (by omega), Option.bind_some, if_neg (by simp), laws_sameInts_v _ (by omega) (by omega), Option.bind_some]
  simp only [Bool.not_true]
  have h5 : ∀ l, laws_FnGrades.j5 (k + 2) s q l false X Y Z t g r = some true := by
    intro l
    rw [laws_FnGrades.j5, if_neg (by decide)]
    exact gr_j8 hs hl _ (by omega)
  rw [laws_FnGrades.j4, if_neg (by decide)]
  by_cases c : (aboveR X Y Z t g r q).2 = true
  · rw [if_pos c]
    by_cases d : q ≤ 1000
    · rw [decide_eq_true d]
      have hm : modelB X Y Z t g r = true ∧ 0 ≤ q ∧ q ≤ 1001 := by
        unfold aboveR at c
        split at c
        · assumption
        · cases c
      have e0 : aboveR X Y Z t g r q = (filtI (fun x => decide (q ≤ x)) g 0, true) := by unfold aboveR; rw [if_pos hm]
      have e1 : aboveR X Y Z t g r (q + 1) = (filtI (fun x => decide (q + 1 ≤ x)) g 0, true) := by unfold aboveR; rw [if_pos ⟨hm.1, by omega, by omega⟩]
      have hs2 := filtI_sub (p := fun x => decide (q + 1 ≤ x)) (q := fun x => decide (q ≤ x)) (fun x hx => by rw [decide_eq_true_eq] at hx ⊢; omega) g 0
      have hl0 := filtI_len (fun x => decide (q ≤ x)) g 0
      rw [laws_FnGrades.j5, if_pos rfl, w64 (by omega) (by omega), impl_AboveGrade_v _ _ _ _ _ _ _ (by omega), Option.bind_some, e0, e1]; dsimp only
      rw [if_pos rfl, decide_eq_false (by omega), laws_FnGrades.j6, if_neg (by decide)]
      exact gr_l1 hs hl _ _ (by omega) (by omega) hs2.2 (filtI (fun x => decide (q + 1 ≤ x)) g 0).length 0 k (by omega) (by omega)
    · rw [decide_eq_false d]; exact h5 _
  · rw [if_neg c]; exact h5 _
theorem mean_lo {T M G lo : Int} (hG : 0 < G) (h : lo * (G * T) ≤ G * M) : lo * T ≤ M := by
  rw [Int.mul_left_comm] at h
  exact Int.le_of_mul_le_mul_left h hG
theorem mean_hi {T M G hi : Int} (hG : 0 < G) (h : G * M ≤ hi * (G * T)) : M ≤ hi * T := by
  rw [Int.mul_left_comm] at h
  exact Int.le_of_mul_le_mul_left h hG
theorem gr_l0 {s : List Int} (hs : Bytes s) (hl : s.length ≤ 9223372036854775807) {X Y Z : Int} {t g r : List Int} (h : IsMod X Y Z t g r) (l : List Int) (hl4 : l.length ≤ 400) (hr : ∀ x ∈ l, 0 ≤ x ∧ x < (t.length : Int)) (M T : Int) (hT : 1 ≤ T) (hT' : T ≤ 1200000) (hfin : ∀ lo hi : Int, lo * sumT t l ≤ sumM t g l → sumM t g l ≤ hi * sumT t l → lo * T ≤ M ∧ M ≤ hi * T) :
    ∀ (d i k : Nat) (lo hi : Int), i + d = l.length → 2 * d + 1070000 < k → 0 ≤ lo → lo ≤ 1000 → 0 ≤ hi → hi ≤ 1000 → lo * sumT t (l.take i) ≤ sumM t g (l.take i) → sumM t g (l.take i) ≤ hi * sumT t (l.take i) →
    laws_FnGrades.l0 k s M T lo hi l (l.length : Int) (i : Int) X Y Z t g r = some true := by
  intro d
  induction d with
  | zero =>
    intro i k lo hi hi' hk l0 l1 h0 h1 b0 b1
    obtain ⟨k, rfl⟩ := k_succ (by omega : 0 < k)
    rw [List.take_of_length_le (by omega)] at b0 b1
    have hf := hfin lo hi b0 b1
    have c0 := mul_bd l0 l1 (by omega : 0 ≤ T) hT'
    have c1 := mul_bd h0 h1 (by omega : 0 ≤ T) hT'
    rw [laws_FnGrades.l0, if_neg (by omega), if_neg (by omega), w64 (by omega) (by omega), if_neg (by omega), w64 (by omega) (by omega), if_neg (by omega)]
    exact gr_j3 hs hl k (by omega)
  | succ d ih =>
    intro i k lo hi hi' hk l0 l1 h0 h1 b0 b1
    obtain ⟨k, rfl⟩ : ∃ m, k = m + 2 := ⟨k - 2, by omega⟩
    have hx := hr (rd l (i : Int)) (by rw [rd_get (by omega)]; exact List.getElem_mem _)
    have hlg := h.lg
    have ht := h.rt hx.1 hx.2
    have hg := h.rg hx.1 hx.2
    have tk : l.take (i + 1) = l.take i ++ [rd l (i : Int)] := by
      rw [List.take_add_one, List.getElem?_eq_getElem (by omega), rd_get (show i < l.length by omega)]; rfl
    have eT : sumT t (l.take (i + 1)) = sumT t (l.take i) + rd t (rd l (i : Int)) := by
      unfold sumT
      rw [tk]; simp
    have eM : sumM t g (l.take (i + 1)) = sumM t g (l.take i) + rd t (rd l (i : Int)) * rd g (rd l (i : Int)) := by
      unfold sumM
      rw [tk]; simp
    have nT : 0 ≤ sumT t (l.take i) := by
      unfold sumT
      exact (sum_bd (rd t) 10000 (by omega) (l.take i) (fun y hy => h.rt (hr y (List.mem_of_mem_take hy)).1 (hr y (List.mem_of_mem_take hy)).2)).1
    generalize hv : rd l (i : Int) = x at *
    -- the step, for any new bounds
    have step : ∀ lo' hi' : Int, lo' ≤ lo → hi ≤ hi' → (0 < rd t x → lo' ≤ rd g x ∧ rd g x ≤ hi') → lo' * sumT t (l.take (i + 1)) ≤ sumM t g (l.take (i + 1)) ∧ sumM t g (l.take (i + 1)) ≤ hi' * sumT t (l.take (i + 1)) := by
      intro lo' hi'' e0 e1 e2
      rw [eT, eM, Int.mul_add, Int.mul_add]
      have f0 : lo' * sumT t (l.take i) ≤ lo * sumT t (l.take i) := Int.mul_le_mul_of_nonneg_right e0 nT
      have f1 : hi * sumT t (l.take i) ≤ hi'' * sumT t (l.take i) := Int.mul_le_mul_of_nonneg_right e1 nT
      by_cases z : 0 < rd t x
      · have g0 : rd g x * rd t x ≥ lo' * rd t x := Int.mul_le_mul_of_nonneg_right (e2 z).1 ht.1
        have g1 : rd g x * rd t x ≤ hi'' * rd t x := Int.mul_le_mul_of_nonneg_right (e2 z).2 ht.1
        rw [Int.mul_comm (rd t x) (rd g x)]
        omega
      · have z0 : rd t x = 0 := by omega
        rw [z0]
        simp only [Int.mul_zero, Int.zero_mul]
        omega
    have go : ∀ lo' hi' : Int, 0 ≤ lo' → lo' ≤ lo → hi ≤ hi' → hi' ≤ 1000 → (0 < rd t x → lo' ≤ rd g x ∧ rd g x ≤ hi') → laws_FnGrades.l0 k s M T lo' hi' l (l.length : Int) (wrap64 ((i : Int) + 1)) X Y Z t g r = some true := by
      intro lo' hi'' e0 e1 e2 e3 e4
      rw [w64_succ (by omega)]
      have := step lo' hi'' e1 e2 e4
      exact ih (i + 1) k lo' hi'' (by omega) (by omega) e0 (by omega) (by omega) e3 this.1 this.2
    rw [laws_FnGrades.l0, if_pos (by omega), if_pos (by omega), if_pos (by omega), hv, if_pos hx.1, if_pos hx.2]
    by_cases z : rd t x > 0
    · rw [if_pos z, if_pos (by omega)]
      by_cases c : rd g x < lo
      · rw [decide_eq_true c, laws_FnGrades.j2, if_pos rfl, if_pos hx.1, if_pos (by omega), if_pos hx.2, if_pos z]
        by_cases c2 : rd g x > hi
        · rw [if_pos c2]; exact go _ _ hg.1 (by omega) (by omega) hg.2 (fun _ => ⟨by omega, by omega⟩)
        · rw [if_neg c2]; exact go _ _ hg.1 (by omega) (by omega) h1 (fun _ => ⟨by omega, by omega⟩)
      · rw [decide_eq_false c, laws_FnGrades.j2, if_neg (by decide), if_pos hx.1, if_pos hx.2, if_pos z, if_pos (by omega)]
        by_cases c2 : rd g x > hi
        · rw [if_pos c2]; exact go _ _ l0 (by omega) (by omega) hg.2 (fun _ => ⟨by omega, by omega⟩)
        · rw [if_neg c2]; exact go _ _ l0 (by omega) (by omega) h1 (fun _ => ⟨by omega, by omega⟩)
    · rw [if_neg z, laws_FnGrades.j2, if_neg (by decide), if_pos hx.1, if_pos hx.2, if_neg z]
      exact go _ _ l0 (by omega) (by omega) h1 (fun hz => absurd hz z)
theorem pure_FnGrades (a b : List Int) (ha : a.length ≤ maxLen) (wa : ∀ x ∈ a, (Lit.int .u8 x).wf = true) (hb : b.length ≤ maxLen) (wb : ∀ x ∈ b, (Lit.int .u8 x).wf = true) : ∃ k, laws_FnGrades.f k a b = some true := by
  obtain ⟨K, hK⟩ : ∃ K : Nat, 1300000 < K := ⟨_, Nat.lt_succ_self _⟩
  refine ⟨K + 4, ?_⟩
  unfold laws_FnGrades.f
  rcases laws_big_v a b ha hb with h | ⟨h, hab⟩
  · rw [h, Option.bind_some, if_pos rfl]
  · have hs := bytes_of_wf wb
    rw [h, Option.bind_some, if_neg (by simp)]
    obtain ⟨X, Y, Z, t, g, r, l, e, a1, a2, a3, a4⟩ := DrawMeanGrade_d (bytes_of_wf wa) (by omega) (by omega : 700 < K + 4)
    rw [e, Option.bind_some]; dsimp only
    rw [impl_MeanGrade_v _ _ _ _ _ _ _ (by omega) (by omega), Option.bind_some, spec_MeanGrade_v _ _ _ _ _ _ _ (by omega) (by omega), Option.bind_some, if_neg (by simp), if_pos rfl]
    simp only [bne_self_eq_false]
    rw [laws_FnGrades.j0, if_neg (by decide)]
    by_cases c : modList X Y Z t g r l = true ∧ sumT t l ≠ 0
    · have em : meanR X Y Z t g r l = (wrap64 (Int.tdiv (sumM t g l) (gcdI (sumM t g l) (sumT t l))), wrap64 (Int.tdiv (sumT t l) (gcdI (sumM t g l) (sumT t l))), true) := by unfold meanR; rw [if_pos c]
      obtain ⟨hm, hrb⟩ := modList_t c.1
      have hsb := sums_bd hm hrb
      rw [em]; dsimp only
      rw [if_pos rfl]
      have hG : 0 < gcdI (sumM t g l) (sumT t l) := by
        unfold gcdI
        have : 0 < Nat.gcd (sumM t g l).toNat (sumT t l).toNat := Nat.gcd_pos_of_pos_right _ (by omega)
        omega
      obtain ⟨m', hm'⟩ : gcdI (sumM t g l) (sumT t l) ∣ sumM t g l := by
        have := Nat.gcd_dvd_left (sumM t g l).toNat (sumT t l).toNat
        have h2 := Int.ofNat_dvd.2 this
        rw [Int.toNat_of_nonneg hsb.2.1] at h2
        exact h2
      obtain ⟨t', ht'⟩ : gcdI (sumM t g l) (sumT t l) ∣ sumT t l := by
        have := Nat.gcd_dvd_right (sumM t g l).toNat (sumT t l).toNat
        have h2 := Int.ofNat_dvd.2 this
        rw [Int.toNat_of_nonneg hsb.1.1] at h2
        exact h2
      generalize hGe : gcdI (sumM t g l) (sumT t l) = G at *
      have eM : Int.tdiv (sumM t g l) G = m' := by rw [hm']; exact Int.mul_tdiv_cancel_left _ (by omega)
      have eT : Int.tdiv (sumT t l) G = t' := by rw [ht']; exact Int.mul_tdiv_cancel_left _ (by omega)
      have hm0 : 0 ≤ m' := by
        refine Int.le_of_mul_le_mul_left (a := G) ?_ hG
        rw [← hm', Int.mul_zero]; exact hsb.2.1
      have ht0 : 0 ≤ t' := by
        refine Int.le_of_mul_le_mul_left (a := G) ?_ hG
        rw [← ht', Int.mul_zero]; exact hsb.1.1
      have hm1 : m' ≤ sumM t g l := by
        have := Int.mul_le_mul_of_nonneg_right (show (1 : Int) ≤ G by omega) hm0
        rw [hm']; omega
      have ht1 : t' ≤ sumT t l := by
        have := Int.mul_le_mul_of_nonneg_right (show (1 : Int) ≤ G by omega) ht0
        rw [ht']; omega
      have htn : t' ≠ 0 := by
        intro z; rw [z, Int.mul_zero] at ht'; exact c.2 ht'
      rw [eM, eT, w64 (by omega) (by omega), w64 (by omega) (by omega)]
      refine gr_l0 hs (by omega) hm l a4 (risB_mem hrb) m' t' (by omega) (by omega) (fun lo hi f0 f1 => ?_) l.length 0 (K + 3) 1000 0 (by omega) (by omega) (by omega) (by omega) (by omega) (by omega) ?_ ?_
      · rw [ht', hm'] at f0 f1
        exact ⟨mean_lo hG f0, mean_hi hG f1⟩
      · simp [sumT, sumM]
      · simp [sumT, sumM]
    · have em : meanR X Y Z t g r l = (0, 0, false) := by unfold meanR; rw [if_neg c]
      rw [em]; dsimp only
      rw [if_neg (by decide)]
      exact gr_j3 hs (by omega) (K + 3) (by omega)
theorem W0 : wrap64 (0 + 1) = 1 := w64 (by decide) (by decide)
theorem W1 : wrap64 (1 + 1) = 2 := w64 (by decide) (by decide)
theorem W2 : wrap64 (2 + 1) = 3 := w64 (by decide) (by decide)
theorem W3 : wrap64 (3 + 1) = 4 := w64 (by decide) (by decide)

end Go.Proofs.Ytdfjlelbkkaloaa.Pure
