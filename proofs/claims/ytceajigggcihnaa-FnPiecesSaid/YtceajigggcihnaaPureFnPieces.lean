/- What the printed Lean functions behind FnPieces come to, and from that the pure statement of FnPieces: it answers true. No condition beyond those that the given statement itself has. -/
import Derived.Test.YtceajigggcihnaaPFnPiecesx18
import Derived.Lib.SmallJoins
namespace Go.Proofs.Ytceajigggcihnaa.Pure
open Go.RowKit Go.Proofs.Ytceajigggcihnaa.PFnPieces Go.Proofs.YtceajigggcihnaaW.PrintWords Go.Proofs.YtceajigggcihnaaW.PrintLast Go.Proofs.YtceajigggcihnaaW.PrintMore
set_option linter.unusedVariables false
set_option linter.unusedSimpArgs false

theorem w64 {x : Int} (h1 : -9223372036854775808 ≤ x) (h2 : x ≤ 9223372036854775807) : wrap64 x = x := by unfold wrap64; omega
theorem wf_i64 {x : Int} (h : (Lit.int .i64 x).wf = true) : -9223372036854775808 ≤ x ∧ x ≤ 9223372036854775807 := Go.Joins.in64_of_wf h
theorem mul_bd {a b A B : Int} (ha : 0 ≤ a) (hA : a ≤ A) (hb : 0 ≤ b) (hB : b ≤ B) : 0 ≤ a * b ∧ a * b ≤ A * B :=
  ⟨Int.mul_nonneg ha hb, Int.mul_le_mul hA hB hb (by omega)⟩
theorem rd_nat (l : List Int) (i : Nat) : rd l (i : Int) = l.getD i 0 := by simp [rd]
theorem rd_get {l : List Int} {i : Nat} (h : i < l.length) : rd l (i : Int) = l[i] := by rw [rd_nat, List.getD_eq_getElem?_getD, List.getElem?_eq_getElem h]; rfl
theorem rd_set {l : List Int} {i : Nat} {v : Int} (j : Int) (h0 : 0 ≤ j) (hi : i < l.length) : rd (l.set i v) j = if j = (i : Int) then v else rd l j := by
  unfold rd
  rw [List.getD_eq_getElem?_getD, List.getD_eq_getElem?_getD]
  by_cases h : j = (i : Int)
  · rw [if_pos h, show j.toNat = i by omega, List.getElem?_set_self hi]; rfl
  · rw [if_neg h, List.getElem?_set_ne (by omega)]
theorem drop_rd {l : List Int} {i : Nat} (h : i < l.length) : l.drop i = rd l (i : Int) :: l.drop (i + 1) := by
  rw [rd_get h]; exact List.drop_eq_getElem_cons h
theorem w64_succ {i : Nat} (h : i < 9223372036854775807) : wrap64 ((i : Int) + 1) = ((i + 1 : Nat) : Int) := by rw [w64 (by omega) (by omega)]; omega
theorem k_succ {k : Nat} (h : 0 < k) : ∃ m, k = m + 1 := ⟨k - 1, by omega⟩
/-- from some number of rounds on -/
theorem Ev.use {α : Type} {g : Nat → Option α} {r : α} (h : Ev g r) : ∃ K, ∀ k, K ≤ k → g k = some r := h
theorem spec_l1In_v (a lo hi : Int) : spec_l1In.f a lo hi = some (decide (lo ≤ a ∧ a ≤ hi)) := by
  unfold spec_l1In.f
  split
  · congr 1; rw [decide_eq_decide]; omega
  · congr 1; symm; rw [decide_eq_false_iff_not]; omega
theorem spec_l1All_l (lo hi : Int) (l : List Int) (hn : l.length ≤ 1152921504606846976) : ∀ (d k i : Nat), i + d = l.length → d < k →
    spec_l1All.l0 k lo hi l (l.length : Int) (i : Int) = some ((l.drop i).all fun x => decide (lo ≤ x ∧ x ≤ hi)) := by
  intro d
  induction d with
  | zero =>
    intro k i hi' hk
    obtain ⟨k, rfl⟩ := k_succ (by omega : 0 < k)
    simp only [spec_l1All.l0]
    rw [if_neg (by omega), List.drop_eq_nil_of_le (by omega)]
    rfl
  | succ d ih =>
    intro k i hi' hk
    obtain ⟨k, rfl⟩ := k_succ (by omega : 0 < k)
    simp only [spec_l1All.l0]
    rw [if_pos (by omega), if_pos (by omega), if_pos (by omega), w64_succ (by omega), drop_rd (by omega : i < l.length), ih k (i + 1) (by omega) (by omega), spec_l1In_v, List.all_cons]
    simp only [Option.bind_some, decide_eq_true_eq]
    by_cases h : lo ≤ rd l (i : Int) ∧ rd l (i : Int) ≤ hi
    · rw [if_pos h, decide_eq_true h, Bool.true_and]
    · rw [if_neg h, decide_eq_false h, Bool.false_and]
theorem spec_l1All_v (lo hi : Int) (l : List Int) (hn : l.length ≤ 1152921504606846976) {k : Nat} (hk : l.length < k) : spec_l1All.f k l lo hi = some (l.all fun x => decide (lo ≤ x ∧ x ≤ hi)) := by
  unfold spec_l1All.f
  simpa using spec_l1All_l lo hi l hn l.length k 0 (by omega) hk
def gridB (X Y Z : Int) : Bool := decide (1 ≤ X ∧ X ≤ 8 ∧ 1 ≤ Y ∧ Y ≤ 6 ∧ 1 ≤ Z ∧ Z ≤ 5 ∧ X * Y * Z ≤ 120)
theorem gridB_t {X Y Z : Int} (h : gridB X Y Z = true) : 1 ≤ X ∧ X ≤ 8 ∧ 1 ≤ Y ∧ Y ≤ 6 ∧ 1 ≤ Z ∧ Z ≤ 5 ∧ X * Y * Z ≤ 120 := of_decide_eq_true h
theorem wrapXYZ {X Y Z : Int} (h1 : 1 ≤ X) (h2 : X ≤ 8) (h3 : 1 ≤ Y) (h4 : Y ≤ 6) (h5 : 1 ≤ Z) (h6 : Z ≤ 5) : wrap64 (wrap64 (X * Y) * Z) = X * Y * Z := by
  have a := mul_bd (by omega : 0 ≤ X) h2 (by omega : 0 ≤ Y) h4
  have b := mul_bd a.1 a.2 (by omega : 0 ≤ Z) h6
  rw [w64 (by omega) (by omega) (x := X * Y), w64 (by omega) (by omega)]
theorem grid_pos {X Y Z : Int} (h : gridB X Y Z = true) : 1 ≤ X * Y * Z ∧ X * Y * Z ≤ 120 := by
  obtain ⟨h1, h2, h3, h4, h5, h6, h7⟩ := gridB_t h
  have a : 0 < X * Y := Int.mul_pos (by omega) (by omega)
  have b : 0 < X * Y * Z := Int.mul_pos a (by omega)
  omega
theorem impl_IsGrid_v (X Y Z : Int) : impl_IsGrid.f X Y Z = some (gridB X Y Z) := by
  unfold impl_IsGrid.f gridB
  repeat' split
  all_goals first
    | (rw [wrapXYZ (by omega) (by omega) (by omega) (by omega) (by omega) (by omega)]; congr 1; rw [decide_eq_decide]; omega)
    | (congr 1; symm; rw [decide_eq_false_iff_not]; omega)
theorem spec_grGood_v (X Y Z : Int) : spec_grGood.f X Y Z = some (gridB X Y Z) := by
  unfold spec_grGood.f gridB
  simp only [spec_l1In_v, Option.bind_some, decide_eq_true_eq]
  repeat' split
  all_goals first
    | (rw [wrapXYZ (by omega) (by omega) (by omega) (by omega) (by omega) (by omega)]; congr 1; rw [decide_eq_decide]; omega)
    | (congr 1; symm; rw [decide_eq_false_iff_not]; omega)
theorem spec_grCount_v {X Y Z : Int} (h : gridB X Y Z = true) : spec_grCount.f X Y Z = some (X * Y * Z) := by
  obtain ⟨h1, h2, h3, h4, h5, h6, h7⟩ := gridB_t h
  simp only [spec_grCount.f, wrapXYZ h1 h2 h3 h4 h5 h6]
theorem impl_blocksOf_v {X Y Z : Int} (h : gridB X Y Z = true) : impl_blocksOf.f X Y Z = some (X * Y * Z) := by
  obtain ⟨h1, h2, h3, h4, h5, h6, h7⟩ := gridB_t h
  simp only [impl_blocksOf.f, wrapXYZ h1 h2 h3 h4 h5 h6]
def hasB (X Y Z i : Int) : Bool := gridB X Y Z && decide (0 ≤ i ∧ i < X * Y * Z)
theorem hasB_t {X Y Z i : Int} (h : hasB X Y Z i = true) : gridB X Y Z = true ∧ 0 ≤ i ∧ i < X * Y * Z := by
  unfold hasB at h; rw [Bool.and_eq_true, decide_eq_true_eq] at h; exact h
theorem at_w {X Y x y z : Int} (hX : 0 ≤ X) (hX' : X ≤ 8) (hY : 0 ≤ Y) (hY' : Y ≤ 6) (hx : 0 ≤ x) (hx' : x ≤ 8) (hy : 0 ≤ y) (hy' : y ≤ 6) (hz : 0 ≤ z) (hz' : z ≤ 5) :
    wrap64 (wrap64 (wrap64 (wrap64 (z * Y) + y) * X) + x) = (z * Y + y) * X + x ∧ 0 ≤ (z * Y + y) * X + x := by
  have a := mul_bd hz hz' hY hY'
  have b := mul_bd (by omega : 0 ≤ z * Y + y) (by omega : z * Y + y ≤ 36) hX hX'
  rw [w64 (by omega) (by omega) (x := z * Y), w64 (by omega) (by omega) (x := z * Y + y), w64 (by omega) (by omega) (x := (z * Y + y) * X), w64 (by omega) (by omega)]
  exact ⟨rfl, by omega⟩
def inB (X Y Z x y z : Int) : Bool := decide (0 ≤ x ∧ x < X ∧ 0 ≤ y ∧ y < Y ∧ 0 ≤ z ∧ z < Z)
theorem tdiv_nn {a b : Int} (h : 0 ≤ a) : Int.tdiv a b = a / b := Int.tdiv_eq_ediv_of_nonneg h
theorem tmod_nn {a b : Int} (h : 0 ≤ a) : Int.tmod a b = a % b := Int.tmod_eq_emod_of_nonneg h
theorem place_bd {X Y Z i : Int} (h : hasB X Y Z i = true) : (0 ≤ i % X ∧ i % X < X) ∧ (0 ≤ i / X % Y ∧ i / X % Y < Y) ∧ (0 ≤ i / X / Y ∧ i / X / Y < Z) ∧ 0 ≤ i / X ∧ i / X ≤ i := by
  obtain ⟨hg, hi, hi'⟩ := hasB_t h
  obtain ⟨h1, h2, h3, h4, h5, h6, h7⟩ := gridB_t hg
  have a : 0 ≤ i / X := Int.ediv_nonneg hi (by omega)
  refine ⟨⟨Int.emod_nonneg _ (by omega), Int.emod_lt_of_pos _ (by omega)⟩, ⟨Int.emod_nonneg _ (by omega), Int.emod_lt_of_pos _ (by omega)⟩, ⟨Int.ediv_nonneg a (by omega), ?_⟩, a, Int.ediv_le_self _ hi⟩
  rw [Int.ediv_ediv_of_nonneg (by omega)]
  refine Int.ediv_lt_of_lt_mul (Int.mul_pos (by omega) (by omega)) ?_
  rw [Int.mul_comm Z]
  exact hi'
def coarseV (X Y i : Int) : Int := (i / X / Y * ((Y + 1) / 2) + i / X % Y / 2) * ((X + 1) / 2) + i % X / 2
def absI (n : Int) : Int := if n < 0 then -n else n
theorem absI_sub (a b : Int) : absI (a - b) = absI (b - a) := by unfold absI; repeat' split <;> omega
theorem absI_bd {a : Int} {B : Int} (h : -B ≤ a) (h' : a ≤ B) : 0 ≤ absI a ∧ absI a ≤ B := by unfold absI; split <;> omega
theorem impl_abs_v {a : Int} (h : -1000000000000 ≤ a) (h' : a ≤ 1000000000000) : impl_abs.f a = some (absI a) := by
  unfold impl_abs.f mx absI
  rw [w64 (by omega) (by omega)]
  congr 1
  repeat' split
  all_goals omega
def stepsV (X Y i k : Int) : Int := absI (i % X - k % X) + absI (i / X % Y - k / X % Y) + absI (i / X / Y - k / X / Y)
theorem stepsV_comm (X Y i k : Int) : stepsV X Y i k = stepsV X Y k i := by
  unfold stepsV
  rw [absI_sub (i % X), absI_sub (i / X % Y), absI_sub (i / X / Y)]
theorem steps_bd {X Y Z i k : Int} (h : hasB X Y Z i = true) (h' : hasB X Y Z k = true) : (0 ≤ absI (i % X - k % X) ∧ absI (i % X - k % X) ≤ 8) ∧ (0 ≤ absI (i / X % Y - k / X % Y) ∧ absI (i / X % Y - k / X % Y) ≤ 8) ∧ (0 ≤ absI (i / X / Y - k / X / Y) ∧ absI (i / X / Y - k / X / Y) ≤ 8) := by
  obtain ⟨h1, h2, h3, h4, h5, h6, h7⟩ := gridB_t (hasB_t h).1
  have a := place_bd h
  have b := place_bd h'
  exact ⟨absI_bd (by omega) (by omega), absI_bd (by omega) (by omega), absI_bd (by omega) (by omega)⟩
def filtN (p : Int → Bool) : Nat → Nat → List Int
  | _, 0 => []
  | i, d + 1 => if p (i : Int) = true then (i : Int) :: filtN p (i + 1) d else filtN p (i + 1) d
theorem filtN_pos {p : Int → Bool} {i d : Nat} (h : p (i : Int) = true) : filtN p i (d + 1) = (i : Int) :: filtN p (i + 1) d := by rw [filtN, if_pos h]
theorem filtN_neg {p : Int → Bool} {i d : Nat} (h : ¬ p (i : Int) = true) : filtN p i (d + 1) = filtN p (i + 1) d := by rw [filtN, if_neg h]
theorem filtN_len (p : Int → Bool) : ∀ (d i : Nat), (filtN p i d).length ≤ d
  | 0, i => by simp [filtN]
  | d + 1, i => by
    have := filtN_len p d (i + 1)
    unfold filtN
    split <;> simp <;> omega
theorem filtN_mem (p : Int → Bool) : ∀ (d i : Nat) (x : Int), x ∈ filtN p i d ↔ (i : Int) ≤ x ∧ x < ((i + d : Nat) : Int) ∧ p x = true
  | 0, i, x => by simp [filtN]; omega
  | d + 1, i, x => by
    have ih := filtN_mem p d (i + 1) x
    by_cases h : p (i : Int) = true
    · rw [filtN_pos h, List.mem_cons, ih]
      constructor
      · rintro (rfl | ⟨h1, h2, h3⟩)
        · exact ⟨by omega, by omega, h⟩
        · exact ⟨by omega, by omega, h3⟩
      · rintro ⟨h1, h2, h3⟩
        by_cases e : x = (i : Int)
        · exact .inl e
        · exact .inr ⟨by omega, by omega, h3⟩
    · rw [filtN_neg h, ih]
      constructor
      · rintro ⟨h1, h2, h3⟩; exact ⟨by omega, by omega, h3⟩
      · rintro ⟨h1, h2, h3⟩
        refine ⟨?_, by omega, h3⟩
        by_cases e : x = (i : Int)
        · subst e; exact absurd h3 h
        · omega
theorem hasB_of {X Y Z i : Int} (h : gridB X Y Z = true) (h0 : 0 ≤ i) (h1 : i < X * Y * Z) : hasB X Y Z i = true := by
  unfold hasB; rw [h, Bool.true_and]; exact decide_eq_true ⟨h0, h1⟩
def nearB (X Y i r k : Int) : Bool := decide (absI (i % X - k % X) ≤ r ∧ absI (i / X % Y - k / X % Y) ≤ r ∧ absI (i / X / Y - k / X / Y) ≤ r)
def pieceB (T M R : Int) : Bool := decide (0 ≤ T ∧ T ≤ 10000 ∧ 0 ≤ M ∧ M ≤ 1000 * T ∧ 0 ≤ R ∧ R ≤ 4)
theorem pieceB_t {T M R : Int} (h : pieceB T M R = true) : 0 ≤ T ∧ T ≤ 10000 ∧ 0 ≤ M ∧ M ≤ 1000 * T ∧ 0 ≤ R ∧ R ≤ 4 := of_decide_eq_true h
theorem impl_IsPiece_v (T M R : Int) : impl_IsPiece.f T M R = some (pieceB T M R) := by
  unfold impl_IsPiece.f pieceB
  by_cases h : 0 ≤ T ∧ T ≤ 10000
  · rw [w64 (by omega) (by omega)]
    repeat' split
    all_goals first
      | (congr 1; rw [decide_eq_decide]; omega)
      | (congr 1; symm; rw [decide_eq_false_iff_not]; omega)
  · have e : decide (0 ≤ T ∧ T ≤ 10000 ∧ 0 ≤ M ∧ M ≤ 1000 * T ∧ 0 ≤ R ∧ R ≤ 4) = false := by rw [decide_eq_false_iff_not]; omega
    rw [e]
    split
    · rw [if_neg (by omega)]
    · rfl
theorem spec_sbPiece_v (T M R : Int) : spec_sbPiece.f T M R = some (pieceB T M R) := by
  unfold spec_sbPiece.f pieceB
  simp only [spec_l1In_v, Option.bind_some, decide_eq_true_eq]
  by_cases h : 0 ≤ T ∧ T ≤ 10000
  · rw [w64 (by omega) (by omega)]
    repeat' split
    all_goals first
      | (congr 1; rw [decide_eq_decide]; omega)
      | (congr 1; symm; rw [decide_eq_false_iff_not]; omega)
  · have e : decide (0 ≤ T ∧ T ≤ 10000 ∧ 0 ≤ M ∧ M ≤ 1000 * T ∧ 0 ≤ R ∧ R ≤ 4) = false := by rw [decide_eq_false_iff_not]; omega
    rw [e, if_neg h]
def roundV (T M : Int) : Int := if T = 0 then 0 else (2 * M + T - 1) / (2 * T)
theorem impl_roundedGrade_v {T M R : Int} (h : pieceB T M R = true) : impl_roundedGrade.f T M R = some (roundV T M) := by
  obtain ⟨h1, h2, h3, h4, h5, h6⟩ := pieceB_t h
  unfold impl_roundedGrade.f roundV
  by_cases e : T = 0
  · rw [if_pos e, if_pos e]
  · have hd : (2 * M + T - 1) / (2 * T) ≤ 2 * M + T - 1 := Int.ediv_le_self _ (by omega)
    have hn : 0 ≤ (2 * M + T - 1) / (2 * T) := Int.ediv_nonneg (by omega) (by omega)
    rw [if_neg e, if_neg e, w64 (by omega) (by omega) (x := 2 * M), w64 (by omega) (by omega) (x := 2 * M + T), w64 (by omega) (by omega) (x := 2 * M + T - 1), w64 (by omega) (by omega) (x := 2 * T), if_neg (by omega), tdiv_nn (by omega), w64 (by omega) (by omega)]
theorem spec_sbRound_v {T M R : Int} (h : pieceB T M R = true) : spec_sbRound.f T M R = some (roundV T M) := by
  obtain ⟨h1, h2, h3, h4, h5, h6⟩ := pieceB_t h
  unfold spec_sbRound.f roundV
  by_cases e : T = 0
  · rw [if_pos e, if_pos e]
  · have hd : (2 * M + T - 1) / (2 * T) ≤ 2 * M + T - 1 := Int.ediv_le_self _ (by omega)
    have hn : 0 ≤ (2 * M + T - 1) / (2 * T) := Int.ediv_nonneg (by omega) (by omega)
    rw [if_neg e, if_neg e, w64 (by omega) (by omega) (x := 2 * M), w64 (by omega) (by omega) (x := 2 * M + T), w64 (by omega) (by omega) (x := 2 * M + T - 1), w64 (by omega) (by omega) (x := 2 * T), if_neg (by omega), tdiv_nn (by omega), w64 (by omega) (by omega)]
theorem impl_RoundedGrade_v (T M R : Int) : impl_RoundedGrade.f T M R = some (if pieceB T M R = true then (roundV T M, true) else (0, false)) := by
  unfold impl_RoundedGrade.f
  rw [impl_IsPiece_v]
  cases h : pieceB T M R with
  | false => simp
  | true => simp [impl_roundedGrade_v h]
theorem spec_RoundedGrade_v (T M R : Int) : spec_RoundedGrade.f T M R = some (if pieceB T M R = true then (roundV T M, true) else (0, false)) := by
  unfold spec_RoundedGrade.f
  rw [spec_sbPiece_v]
  cases h : pieceB T M R with
  | false => simp
  | true => simp [spec_sbRound_v h]
def gcdI (x y : Int) : Int := (Nat.gcd x.toNat y.toNat : Nat)
theorem gcdI_step {x y : Int} (hx : 0 ≤ x) (hy : 0 ≤ y) : gcdI y (x % y) = gcdI x y := by
  unfold gcdI
  rw [Int.toNat_emod hx hy, Nat.gcd_comm, ← Nat.gcd_rec, Nat.gcd_comm]
theorem gcdI_zero {x : Int} (hx : 0 ≤ x) : gcdI x 0 = x := by
  unfold gcdI
  simp; omega
theorem spec_moPart_l (a b : Int) : ∀ (d k : Nat) (x y : Int), 0 ≤ x → 0 ≤ y → 0 < x + y → y.toNat ≤ d → d < k →
    spec_moPart.l0 k a b x y = some (wrap64 (Int.tdiv a (gcdI x y)), wrap64 (Int.tdiv b (gcdI x y))) := by
  intro d
  induction d with
  | zero =>
    intro k x y hx hy hp hd hk
    obtain ⟨k, rfl⟩ := k_succ (by omega : 0 < k)
    obtain rfl : y = 0 := by omega
    have e : gcdI x 0 = x := gcdI_zero hx
    simp only [spec_moPart.l0]
    rw [if_neg (by omega), if_neg (by omega), e]
  | succ d ih =>
    intro k x y hx hy hp hd hk
    obtain ⟨k, rfl⟩ := k_succ (by omega : 0 < k)
    by_cases h0 : y = 0
    · subst h0
      have e : gcdI x 0 = x := gcdI_zero hx
      simp only [spec_moPart.l0]
      rw [if_neg (by omega), if_neg (by omega), e]
    · have h1 := Int.emod_nonneg x h0
      have h2 := Int.emod_lt_of_pos x (by omega : 0 < y)
      simp only [spec_moPart.l0]
      rw [if_pos (by omega), if_neg h0, tmod_nn hx, ih k y (x % y) hy h1 (by omega) (by omega) (by omega), gcdI_step hx hy]
theorem spec_moPart_v {a b : Int} (ha : 0 ≤ a) (hb : 0 < b) {k : Nat} (hk : b.toNat < k) : spec_moPart.f k a b = some (wrap64 (Int.tdiv a (gcdI a b)), wrap64 (Int.tdiv b (gcdI a b))) := by
  unfold spec_moPart.f
  exact spec_moPart_l a b b.toNat k a b ha (by omega) (by omega) (by omega) hk
theorem impl_lowest_l (a b : Int) : ∀ (d k : Nat) (x y : Int), 0 ≤ x → 0 ≤ y → 0 < x + y → y.toNat ≤ d → d < k →
    impl_lowest.l0 k a b x y = some (wrap64 (Int.tdiv a (gcdI x y)), wrap64 (Int.tdiv b (gcdI x y))) := by
  intro d
  induction d with
  | zero =>
    intro k x y hx hy hp hd hk
    obtain ⟨k, rfl⟩ := k_succ (by omega : 0 < k)
    obtain rfl : y = 0 := by omega
    have e : gcdI x 0 = x := gcdI_zero hx
    simp only [impl_lowest.l0]
    rw [if_pos (by simp), if_neg (by omega), e]
  | succ d ih =>
    intro k x y hx hy hp hd hk
    obtain ⟨k, rfl⟩ := k_succ (by omega : 0 < k)
    by_cases h0 : y = 0
    · subst h0
      have e : gcdI x 0 = x := gcdI_zero hx
      simp only [impl_lowest.l0]
      rw [if_pos (by simp), if_neg (by omega), e]
    · have h1 := Int.emod_nonneg x h0
      have h2 := Int.emod_lt_of_pos x (by omega : 0 < y)
      simp only [impl_lowest.l0]
      rw [if_neg h0, tmod_nn hx, ih k y (x % y) hy h1 (by omega) (by omega) (by omega), gcdI_step hx hy]
theorem impl_abs_nn {a : Int} (h : 0 ≤ a) (h' : a ≤ 9223372036854775807) : impl_abs.f a = some a := by
  unfold impl_abs.f mx
  rw [w64 (by omega) (by omega), if_neg (by omega)]
theorem impl_lowest_v {a b : Int} (ha : 0 ≤ a) (ha' : a ≤ 9223372036854775807) (hb : 0 < b) {k : Nat} (hk : b.toNat < k) : impl_lowest.f k a b = some (wrap64 (Int.tdiv a (gcdI a b)), wrap64 (Int.tdiv b (gcdI a b))) := by
  unfold impl_lowest.f
  rw [impl_abs_nn ha ha', Option.bind_some]
  exact impl_lowest_l a b b.toNat k a b ha (by omega) (by omega) (by omega) hk
def gradeR (T M R : Int) : Int × Int × Bool := if pieceB T M R = true ∧ T ≠ 0 then (wrap64 (Int.tdiv M (gcdI M T)), wrap64 (Int.tdiv T (gcdI M T)), true) else (0, 0, false)
theorem impl_PieceGrade_v (T M R : Int) {k : Nat} (hk : 10000 < k) : impl_PieceGrade.f k T M R = some (gradeR T M R) := by
  unfold impl_PieceGrade.f gradeR
  rw [impl_IsPiece_v]
  cases h : pieceB T M R with
  | false => simp
  | true =>
    obtain ⟨h1, h2, h3, h4, h5, h6⟩ := pieceB_t h
    by_cases e : T = 0
    · simp [e]
    · simp only [Option.bind_some, if_true, if_neg e]
      rw [impl_lowest_v h3 (by omega) (by omega) (by omega), if_pos ⟨trivial, e⟩]
      rfl
theorem spec_PieceGrade_v (T M R : Int) {k : Nat} (hk : 10000 < k) : spec_PieceGrade.f k T M R = some (gradeR T M R) := by
  unfold spec_PieceGrade.f gradeR
  rw [spec_sbPiece_v]
  cases h : pieceB T M R with
  | false => simp
  | true =>
    obtain ⟨h1, h2, h3, h4, h5, h6⟩ := pieceB_t h
    by_cases e : T = 0
    · simp [e]
    · simp only [Option.bind_some, if_true, if_neg e]
      rw [spec_moPart_v h3 (by omega) (by omega), if_pos ⟨trivial, e⟩]
      rfl
def modelB (X Y Z : Int) (t g r : List Int) : Bool := gridB X Y Z && decide ((t.length : Int) = X * Y * Z ∧ (g.length : Int) = X * Y * Z ∧ (r.length : Int) = X * Y * Z) && ((t.all fun x => decide (0 ≤ x ∧ x ≤ 10000)) && ((g.all fun x => decide (0 ≤ x ∧ x ≤ 1000)) && (r.all fun x => decide (0 ≤ x ∧ x ≤ 4))))
structure IsMod (X Y Z : Int) (t g r : List Int) : Prop where
  grid : gridB X Y Z = true
  lt : (t.length : Int) = X * Y * Z
  lg : g.length = t.length
  lr : r.length = t.length
  ht : ∀ x ∈ t, 0 ≤ x ∧ x ≤ 10000
  hg : ∀ x ∈ g, 0 ≤ x ∧ x ≤ 1000
  hr : ∀ x ∈ r, 0 ≤ x ∧ x ≤ 4
  pos : 1 ≤ t.length
  le : t.length ≤ 120
theorem modelB_iff {X Y Z : Int} {t g r : List Int} : modelB X Y Z t g r = true ↔ IsMod X Y Z t g r := by
  unfold modelB
  simp only [Bool.and_eq_true, decide_eq_true_eq, List.all_eq_true]
  constructor
  · rintro ⟨⟨h1, h2, h3, h4⟩, h5, h6, h7⟩
    have := grid_pos h1
    exact ⟨h1, h2, by omega, by omega, h5, h6, h7, by omega, by omega⟩
  · intro h
    have h1 := h.lt; have h2 := h.lg; have h3 := h.lr
    exact ⟨⟨h.grid, h1, by omega, by omega⟩, h.ht, h.hg, h.hr⟩
theorem modelB_t {X Y Z : Int} {t g r : List Int} (h : modelB X Y Z t g r = true) : IsMod X Y Z t g r := modelB_iff.1 h
theorem modelB_f {X Y Z : Int} {t g r : List Int} (h : ¬ modelB X Y Z t g r = true) : modelB X Y Z t g r = false := by simpa using h
theorem rd_mem {l : List Int} {i : Int} (h0 : 0 ≤ i) (h : i < (l.length : Int)) : rd l i ∈ l := by
  unfold rd
  rw [List.getD_eq_getElem?_getD, List.getElem?_eq_getElem (by omega)]
  exact List.getElem_mem _
theorem rd_of_getElem? {l : List Int} {i : Nat} {x : Int} (h : l[i]? = some x) : rd l (i : Int) = x := by
  rw [rd_nat, List.getD_eq_getElem?_getD, h]; rfl
theorem IsMod.rt {X Y Z : Int} {t g r : List Int} (h : IsMod X Y Z t g r) {i : Int} (h0 : 0 ≤ i) (h1 : i < (t.length : Int)) : 0 ≤ rd t i ∧ rd t i ≤ 10000 := h.ht _ (rd_mem h0 h1)
theorem IsMod.rg {X Y Z : Int} {t g r : List Int} (h : IsMod X Y Z t g r) {i : Int} (h0 : 0 ≤ i) (h1 : i < (t.length : Int)) : 0 ≤ rd g i ∧ rd g i ≤ 1000 := h.hg _ (rd_mem h0 (by have := h.lg; omega))
theorem IsMod.rr {X Y Z : Int} {t g r : List Int} (h : IsMod X Y Z t g r) {i : Int} (h0 : 0 ≤ i) (h1 : i < (t.length : Int)) : 0 ≤ rd r i ∧ rd r i ≤ 4 := h.hr _ (rd_mem h0 (by have := h.lr; omega))
theorem IsMod.rm {X Y Z : Int} {t g r : List Int} (h : IsMod X Y Z t g r) {i : Int} (h0 : 0 ≤ i) (h1 : i < (t.length : Int)) : 0 ≤ rd t i * rd g i ∧ rd t i * rd g i ≤ 10000000 :=
  mul_bd (h.rt h0 h1).1 (h.rt h0 h1).2 (h.rg h0 h1).1 (h.rg h0 h1).2
theorem impl_IsModel_l (X Y Z : Int) (t g r : List Int) (hn : t.length ≤ 1152921504606846976) (hg : g.length = t.length) (hr : r.length = t.length) : ∀ (d k i : Nat), i + d = t.length → d < k →
    impl_IsModel.l0 k (t.length : Int) (i : Int) X Y Z t g r = some (((t.drop i).all fun x => decide (0 ≤ x ∧ x ≤ 10000)) && (((g.drop i).all fun x => decide (0 ≤ x ∧ x ≤ 1000)) && ((r.drop i).all fun x => decide (0 ≤ x ∧ x ≤ 4)))) := by
  intro d
  induction d with
  | zero =>
    intro k i hi hk
    obtain ⟨k, rfl⟩ := k_succ (by omega : 0 < k)
    simp only [impl_IsModel.l0]
    rw [if_neg (by omega), List.drop_eq_nil_of_le (by omega), List.drop_eq_nil_of_le (by omega), List.drop_eq_nil_of_le (by omega)]
    rfl
  | succ d ih =>
    intro k i hi hk
    obtain ⟨k, rfl⟩ := k_succ (by omega : 0 < k)
    simp only [impl_IsModel.l0]
    rw [if_pos (by omega), if_pos (by omega), if_pos (by omega), drop_rd (by omega : i < t.length), drop_rd (by omega : i < g.length), drop_rd (by omega : i < r.length), w64_succ (by omega), ih k (i + 1) (by omega) (by omega)]
    simp only [List.all_cons]
    by_cases h1 : 0 ≤ rd t (i : Int) ∧ rd t (i : Int) ≤ 10000
    · rw [if_neg (by omega), if_neg (by omega), if_pos (by omega), decide_eq_true h1]
      by_cases h2 : 0 ≤ rd g (i : Int) ∧ rd g (i : Int) ≤ 1000
      · rw [if_neg (by omega), if_neg (by omega), if_pos (by omega), decide_eq_true h2]
        by_cases h3 : 0 ≤ rd r (i : Int) ∧ rd r (i : Int) ≤ 4
        · rw [if_neg (by omega), if_neg (by omega), decide_eq_true h3]
          simp only [Bool.true_and]
        · rw [decide_eq_false h3]
          simp only [Bool.true_and, Bool.false_and, Bool.and_false]
          split
          · rfl
          · rw [if_pos (by omega)]
      · rw [decide_eq_false h2]
        simp only [Bool.true_and, Bool.false_and, Bool.and_false]
        split
        · rfl
        · rw [if_pos (by omega)]
    · rw [decide_eq_false h1]
      simp only [Bool.false_and]
      split
      · rfl
      · rw [if_pos (by omega)]
theorem impl_IsModel_v (X Y Z : Int) (t g r : List Int) {k : Nat} (hk : 122 < k) : impl_IsModel.f k X Y Z t g r = some (modelB X Y Z t g r) := by
  obtain ⟨k, rfl⟩ := k_succ (by omega : 0 < k)
  unfold impl_IsModel.f modelB
  rw [impl_IsGrid_v]
  cases h : gridB X Y Z with
  | false => simp
  | true =>
    have := grid_pos h
    simp only [Option.bind_some, if_true, impl_blocksOf_v h, Bool.true_and, impl_IsModel.j0]
    by_cases h1 : (t.length : Int) = X * Y * Z
    · rw [if_pos h1]
      by_cases h2 : (g.length : Int) = X * Y * Z
      · rw [if_pos h2]
        by_cases h3 : (r.length : Int) = X * Y * Z
        · rw [if_neg (by simp [h3]), decide_eq_true (by omega), Bool.true_and, ← h1]
          have := impl_IsModel_l X Y Z t g r (by omega) (by omega) (by omega) t.length k 0 (by omega) (by omega)
          simpa using this
        · rw [if_pos (by simp [h3]), decide_eq_false (by omega), Bool.false_and]
      · rw [if_neg h2, decide_eq_false (by omega), Bool.false_and]
    · rw [if_neg h1, decide_eq_false (by omega), Bool.false_and]
theorem spec_moGood_v (X Y Z : Int) (t g r : List Int) {k : Nat} (hk : 122 < k) : spec_moGood.f k X Y Z t g r = some (modelB X Y Z t g r) := by
  unfold spec_moGood.f modelB
  rw [spec_grGood_v]
  cases h : gridB X Y Z with
  | false => simp
  | true =>
    have := grid_pos h
    simp only [Option.bind_some, if_true, spec_grCount_v h, Bool.true_and]
    by_cases h1 : (t.length : Int) = X * Y * Z
    · rw [if_pos h1]
      by_cases h2 : (g.length : Int) = X * Y * Z
      · rw [if_pos h2]
        by_cases h3 : (r.length : Int) = X * Y * Z
        · rw [if_pos h3, decide_eq_true (by omega), Bool.true_and, spec_l1All_v _ _ t (by omega) (by omega), spec_l1All_v _ _ g (by omega) (by omega), spec_l1All_v _ _ r (by omega) (by omega)]
          simp only [Option.bind_some]
          cases (t.all fun x => decide (0 ≤ x ∧ x ≤ 10000)) <;> cases (g.all fun x => decide (0 ≤ x ∧ x ≤ 1000)) <;> simp
        · rw [if_neg h3, decide_eq_false (by omega), Bool.false_and]
      · rw [if_neg h2, decide_eq_false (by omega), Bool.false_and]
    · rw [if_neg h1, decide_eq_false (by omega), Bool.false_and]
theorem spec_moMetal_v {X Y Z : Int} {t g r : List Int} (h : IsMod X Y Z t g r) {i : Int} (h0 : 0 ≤ i) (h1 : i < (t.length : Int)) : spec_moMetal.f X Y Z t g r i = some (rd t i * rd g i) := by
  have := h.lg; have hb := h.rm h0 h1
  unfold spec_moMetal.f
  rw [if_pos h0, if_pos h1, if_pos (by omega), w64 (by omega) (by omega)]
def modHas (X Y Z : Int) (t g r : List Int) (i : Int) : Bool := modelB X Y Z t g r && decide (0 ≤ i ∧ i < (t.length : Int))
theorem modHas_t {X Y Z : Int} {t g r : List Int} {i : Int} (h : modHas X Y Z t g r i = true) : IsMod X Y Z t g r ∧ 0 ≤ i ∧ i < (t.length : Int) := by
  unfold modHas at h
  rw [Bool.and_eq_true, decide_eq_true_eq] at h
  exact ⟨modelB_t h.1, h.2⟩
theorem spec_moHas_v (X Y Z : Int) (t g r : List Int) (i : Int) {k : Nat} (hk : 122 < k) : spec_moHas.f k X Y Z t g r i = some (modHas X Y Z t g r i) := by
  unfold spec_moHas.f modHas
  rw [spec_moGood_v X Y Z t g r hk]
  cases h : modelB X Y Z t g r with
  | false => simp
  | true =>
    have hm := modelB_t h
    have := grid_pos hm.grid
    have := hm.lt
    simp only [Option.bind_some, if_true, spec_grCount_v hm.grid, spec_l1In_v, Bool.true_and]
    rw [w64 (by omega) (by omega)]
    congr 1; rw [decide_eq_decide]; omega
def risF (n : Int) : Int → List Int → Bool
  | _, [] => true
  | p, x :: xs => decide (0 ≤ x ∧ x < n ∧ p < x) && risF n x xs
def risB (n : Int) (l : List Int) : Bool := risF n (-1) l
theorem risF_cons (n p x : Int) (xs : List Int) : risF n p (x :: xs) = (decide (0 ≤ x ∧ x < n ∧ p < x) && risF n x xs) := rfl
theorem risF_mem {n : Int} : ∀ {p : Int} {l : List Int}, risF n p l = true → ∀ x ∈ l, 0 ≤ x ∧ x < n
  | _, [], _, x, hx => by cases hx
  | p, y :: l, h, x, hx => by
    unfold risF at h
    rw [Bool.and_eq_true, decide_eq_true_eq] at h
    rcases List.mem_cons.1 hx with rfl | hx
    · exact ⟨h.1.1, h.1.2.1⟩
    · exact risF_mem h.2 x hx
theorem risF_len {n : Int} : ∀ {p : Int} {l : List Int}, -1 ≤ p → p < n → risF n p l = true → (l.length : Int) + p < n
  | p, [], h0, h1, _ => by simp; omega
  | p, x :: l, h0, h1, h => by
    unfold risF at h
    rw [Bool.and_eq_true, decide_eq_true_eq] at h
    have := risF_len (by omega) h.1.2.1 h.2
    simp only [List.length_cons]
    omega
theorem risB_mem {n : Int} {l : List Int} (h : risB n l = true) : ∀ x ∈ l, 0 ≤ x ∧ x < n := risF_mem h
theorem risB_len {n : Int} {l : List Int} (hn : 0 ≤ n) (h : risB n l = true) : (l.length : Int) ≤ n := by have := risF_len (by omega) (by omega) h; omega
def sumT (t l : List Int) : Int := (l.map (rd t)).sum
def sumM (t g l : List Int) : Int := (l.map fun i => rd t i * rd g i).sum
theorem sum_bd (f : Int → Int) (B : Int) (hB : 0 ≤ B) : ∀ (l : List Int), (∀ x ∈ l, 0 ≤ f x ∧ f x ≤ B) → 0 ≤ (l.map f).sum ∧ (l.map f).sum ≤ B * (l.length : Int)
  | [], _ => by simp
  | x :: l, h => by
    have h1 := h x (by simp)
    have h2 := sum_bd f B hB l (fun y hy => h y (by simp [hy]))
    simp only [List.map_cons, List.sum_cons, List.length_cons]
    have e : B * ((l.length + 1 : Nat) : Int) = B * (l.length : Int) + B := by
      rw [show ((l.length + 1 : Nat) : Int) = (l.length : Int) + 1 by omega, Int.mul_add, Int.mul_one]
    omega
def filtI (p : Int → Bool) : List Int → Nat → List Int
  | [], _ => []
  | x :: l, i => if p x = true then (i : Int) :: filtI p l (i + 1) else filtI p l (i + 1)
theorem filtI_pos {p : Int → Bool} {x : Int} {l : List Int} {i : Nat} (h : p x = true) : filtI p (x :: l) i = (i : Int) :: filtI p l (i + 1) := by rw [filtI, if_pos h]
theorem filtI_neg {p : Int → Bool} {x : Int} {l : List Int} {i : Nat} (h : ¬ p x = true) : filtI p (x :: l) i = filtI p l (i + 1) := by rw [filtI, if_neg h]
theorem filtI_len (p : Int → Bool) : ∀ (l : List Int) (i : Nat), (filtI p l i).length ≤ l.length
  | [], _ => by simp [filtI]
  | x :: l, i => by
    have := filtI_len p l (i + 1)
    unfold filtI
    split <;> simp <;> omega
theorem u64_wrap_bd (n : Int) : 0 ≤ IntKind.u64.wrap n ∧ IntKind.u64.wrap n < 18446744073709551616 := by rw [IntKind.wrap_u64]; omega
theorem and255 {x : Int} (h0 : 0 ≤ x) (h1 : x < 18446744073709551616) : 0 ≤ Go.bits .and .u64 x 255 ∧ Go.bits .and .u64 x 255 ≤ 255 := by
  have := bits_mask .u64 64 (by decide) (fun n a b => by rw [IntKind.wrap_u64]; omega) 8 (by decide) x h0 (by omega)
  rw [show (2 : Int) ^ 8 - 1 = 255 by decide, show (2 : Int) ^ 8 = 256 by decide] at this
  rw [this]; omega
/-- the bytes of a draw -/
def Bytes (s : List Int) : Prop := ∀ x ∈ s, 0 ≤ x ∧ x ≤ 255
theorem Bytes.rd {s : List Int} (h : Bytes s) {i : Int} (h0 : 0 ≤ i) (h1 : i < (s.length : Int)) : 0 ≤ rd s i ∧ rd s i ≤ 255 := by
  obtain ⟨n, rfl⟩ := Int.eq_ofNat_of_zero_le h0
  have hn : n < s.length := by omega
  rw [rd_get hn]
  exact h _ (List.getElem_mem hn)
theorem bytes_of_wf {s : List Int} (h : ∀ x ∈ s, (Lit.int .u8 x).wf = true) : Bytes s := by
  intro x hx
  have := h x hx
  simp [Lit.wf] at this
  have e1 : IntKind.u8.min = 0 := by decide
  have e2 : IntKind.u8.max = 255 := by decide
  omega
theorem spec_l1Cur_next_d {s : List Int} (hs : Bytes s) (hl : s.length ≤ 9223372036854775807) (p st : Int) (h0 : 0 ≤ p) (h1 : p ≤ 1000000000) :
    ∃ v st', spec_l1Cur_next.f s p st = some (v, p + 1, st') ∧ 0 ≤ v ∧ v ≤ 255 := by
  unfold spec_l1Cur_next.f
  rw [w64 (by omega) (by omega) (x := p + 1)]
  have hb : ∀ n, 0 ≤ Go.bits .and .u64 (IntKind.u64.wrap n / 1099511627776) 255 ∧ Go.bits .and .u64 (IntKind.u64.wrap n / 1099511627776) 255 ≤ 255 := fun n => by
    have := u64_wrap_bd n
    exact and255 (by omega) (by omega)
  by_cases c : p < (s.length : Int)
  · rw [if_pos c, if_pos h0]
    have := hs.rd h0 c
    by_cases d : p + 1 ≤ (s.length : Int)
    · rw [if_pos d, w64 (by omega) (by omega) (x := rd s p)]
      exact ⟨_, _, rfl, this⟩
    · omega
  · rw [if_neg c, if_neg (by omega)]
    refine ⟨_, _, rfl, ?_⟩
    have h2 := hb (IntKind.u64.wrap (IntKind.u64.wrap (st * 6364136223846793005)) + 1442695040888963407)
    rw [w64 (by omega) (by omega)]
    exact h2
theorem spec_l1Cur_pick_d {s : List Int} (hs : Bytes s) (hl : s.length ≤ 9223372036854775807) (p st a : Int) (h0 : 0 ≤ p) (h1 : p ≤ 999999000) (ha : a ≤ 60000) :
    ∃ v p' st', spec_l1Cur_pick.f s p st a = some (v, p', st') ∧ 0 ≤ v ∧ (v < a ∨ v = 0) ∧ p ≤ p' ∧ p' ≤ p + 2 := by
  unfold spec_l1Cur_pick.f
  by_cases c : a ≤ 1
  · rw [if_pos c]; exact ⟨_, _, _, rfl, by omega, .inr rfl, by omega, by omega⟩
  · rw [if_neg c]
    obtain ⟨v, st1, e, v0, v1⟩ := spec_l1Cur_next_d hs hl p st h0 (by omega)
    rw [e, Option.bind_some]
    dsimp only
    by_cases d : a > 200
    · rw [if_pos d]
      obtain ⟨u, st2, e2, u0, u1⟩ := spec_l1Cur_next_d hs hl (p + 1) st1 (by omega) (by omega)
      rw [e2, Option.bind_some, if_neg (by omega)]
      dsimp only
      rw [w64 (by omega) (by omega) (x := v * 256), w64 (by omega) (by omega)]
      refine ⟨_, _, _, rfl, Int.tmod_nonneg _ (by omega), .inl (Int.tmod_lt_of_pos _ (by omega)), by omega, by omega⟩
    · rw [if_neg d, if_neg (by omega)]
      exact ⟨_, _, _, rfl, Int.tmod_nonneg _ v0, .inl (Int.tmod_lt_of_pos _ (by omega)), by omega, by omega⟩
theorem spec_l1Cur_among_d {s : List Int} (hs : Bytes s) (hl : s.length ≤ 9223372036854775807) (p st : Int) (l : List Int) (h0 : 0 ≤ p) (h1 : p ≤ 999999000) (hn : 1 ≤ l.length) (hn' : l.length ≤ 1000) :
    ∃ v p' st', spec_l1Cur_among.f s p st l = some (v, p', st') ∧ v ∈ l ∧ p ≤ p' ∧ p' ≤ p + 2 := by
  unfold spec_l1Cur_among.f
  obtain ⟨v, p', st', e, v0, v1, q0, q1⟩ := spec_l1Cur_pick_d hs hl p st (l.length : Int) h0 h1 (by omega)
  rw [e, Option.bind_some]
  dsimp only
  have hv : v < (l.length : Int) := by omega
  rw [if_pos v0, if_pos hv]
  refine ⟨_, _, _, rfl, ?_, q0, q1⟩
  obtain ⟨n, rfl⟩ := Int.eq_ofNat_of_zero_le v0
  have hn : n < l.length := by omega
  rw [rd_get hn]
  exact List.getElem_mem hn
theorem spec_l1Cur_one_d {s : List Int} (hs : Bytes s) (hl : s.length ≤ 9223372036854775807) (p st a : Int) (h0 : 0 ≤ p) (h1 : p ≤ 999999000) (ha : a ≤ 60000) :
    ∃ b p' st', spec_l1Cur_one.f s p st a = some (b, p', st') ∧ p ≤ p' ∧ p' ≤ p + 2 := by
  unfold spec_l1Cur_one.f
  obtain ⟨v, p', st', e, v0, v1, q0, q1⟩ := spec_l1Cur_pick_d hs hl p st a h0 h1 ha
  rw [e, Option.bind_some]
  exact ⟨_, _, _, rfl, q0, q1⟩
theorem spec_l1Cur_grid_d {s : List Int} (hs : Bytes s) (hl : s.length ≤ 9223372036854775807) (p st : Int) (h0 : 0 ≤ p) (h1 : p ≤ 999998000) :
    ∃ X Y Z p' st', spec_l1Cur_grid.f s p st = some (X, Y, Z, p', st') ∧ gridB X Y Z = true ∧ p ≤ p' ∧ p' ≤ p + 8 := by
  unfold spec_l1Cur_grid.f
  obtain ⟨b, p1, st1, e, q0, q1⟩ := spec_l1Cur_one_d hs hl p st 24 h0 (by omega) (by omega)
  rw [e, Option.bind_some]
  dsimp only
  cases b with
  | true =>
    rw [if_pos rfl, Option.bind_some]
    obtain ⟨v, p2, st2, e2, v0, v1, r0, r1⟩ := spec_l1Cur_pick_d hs hl p1 st1 4 (by omega) (by omega) (by omega)
    rw [e2, Option.bind_some]
    dsimp only
    rw [if_pos v0, if_pos (by simp only [List.length_cons, List.length_nil]; omega)]
    refine ⟨_, _, _, _, _, rfl, ?_, by omega, by omega⟩
    have : v = 0 ∨ v = 1 ∨ v = 2 ∨ v = 3 := by omega
    rcases this with rfl | rfl | rfl | rfl <;> decide
  | false =>
    rw [if_neg (by simp)]
    obtain ⟨v, p2, st2, e2, v0, v1, r0, r1⟩ := spec_l1Cur_pick_d hs hl p1 st1 4 (by omega) (by omega) (by omega)
    rw [e2, Option.bind_some]
    obtain ⟨u, p3, st3, e3, u0, u1, r2, r3⟩ := spec_l1Cur_pick_d hs hl p2 st2 3 (by omega) (by omega) (by omega)
    dsimp only
    rw [e3, Option.bind_some]
    obtain ⟨z, p4, st4, e4, z0, z1, r4, r5⟩ := spec_l1Cur_pick_d hs hl p3 st3 3 (by omega) (by omega) (by omega)
    dsimp only
    rw [e4, Option.bind_some]
    dsimp only
    rw [w64 (by omega) (by omega) (x := 1 + v), w64 (by omega) (by omega) (x := 1 + u), w64 (by omega) (by omega) (x := 1 + z)]
    refine ⟨_, _, _, _, _, rfl, ?_, by omega, by omega⟩
    have hv : v = 0 ∨ v = 1 ∨ v = 2 ∨ v = 3 := by omega
    have hu : u = 0 ∨ u = 1 ∨ u = 2 := by omega
    have hz : z = 0 ∨ z = 1 ∨ z = 2 := by omega
    rcases hv with rfl | rfl | rfl | rfl <;> rcases hu with rfl | rfl | rfl <;> rcases hz with rfl | rfl | rfl <;> decide
theorem anyGridk_d {s : List Int} (hs : Bytes s) (hl : s.length ≤ 9223372036854775807) (p st : Int) (h0 : 0 ≤ p) (h1 : p ≤ 999998000) (k : Nat) :
    ∃ X Y Z p' st', spec_l1Cur_anyGrid.f (k + 1) s p st = some (X, Y, Z, p', st') ∧ p ≤ p' ∧ p' ≤ p + 16 := by
  unfold spec_l1Cur_anyGrid.f
  obtain ⟨X, Y, Z, p1, st1, e, hg, q0, q1⟩ := spec_l1Cur_grid_d hs hl p st h0 h1
  rw [e, Option.bind_some]
  dsimp only
  obtain ⟨v, p2, st2, e2, v0, v1, r0, r1⟩ := spec_l1Cur_pick_d hs hl p1 st1 30 (by omega) (by omega) (by omega)
  rw [e2, Option.bind_some]
  dsimp only
  have am : ∀ l : List Int, 1 ≤ l.length → l.length ≤ 1000 → ∃ v p' st', spec_l1Cur_among.f s p2 st2 l = some (v, p', st') ∧ v ∈ l ∧ p2 ≤ p' ∧ p' ≤ p2 + 2 := fun l a b => spec_l1Cur_among_d hs hl p2 st2 l (by omega) (by omega) a b
  simp only [spec_l1Cur_anyGrid.j0]
  by_cases c0 : v = 0
  · obtain ⟨u, p3, st3, e3, _, r2, r3⟩ := am [0, 8, 9, (-1)] (by decide) (by decide)
    rw [if_pos c0, e3, Option.bind_some]; exact ⟨_, _, _, _, _, rfl, (by dsimp only; omega), (by dsimp only; omega)⟩
  · rw [if_neg c0]
    by_cases c1 : v = 1
    · obtain ⟨u, p3, st3, e3, _, r2, r3⟩ := am [0, 6, 7, (-1)] (by decide) (by decide)
      rw [if_pos c1, e3, Option.bind_some]; exact ⟨_, _, _, _, _, rfl, (by dsimp only; omega), (by dsimp only; omega)⟩
    · rw [if_neg c1]
      by_cases c2 : v = 2
      · obtain ⟨u, p3, st3, e3, _, r2, r3⟩ := am [0, 5, 6, (-1)] (by decide) (by decide)
        rw [if_pos c2, e3, Option.bind_some]; exact ⟨_, _, _, _, _, rfl, (by dsimp only; omega), (by dsimp only; omega)⟩
      · rw [if_neg c2]
        by_cases c3 : v = 3
        · obtain ⟨u, p3, st3, e3, _, r2, r3⟩ := am [2, 3] (by decide) (by decide)
          rw [if_pos c3, e3, Option.bind_some]; exact ⟨_, _, _, _, _, rfl, (by dsimp only; omega), (by dsimp only; omega)⟩
        · rw [if_neg c3]
          by_cases c4 : v = 4
          · rw [if_pos c4]; exact ⟨_, _, _, _, _, rfl, by omega, by omega⟩
          · rw [if_neg c4]; exact ⟨_, _, _, _, _, rfl, by omega, by omega⟩
theorem spec_l1Cur_model_l {s : List Int} (hs : Bytes s) (hl : s.length ≤ 9223372036854775807) (X Y Z : Int) : ∀ (d k : Nat) (p st : Int) (t g r : List Int), d < k → d ≤ 1000 → 0 ≤ p → p + 10 * (d : Int) ≤ 999990000 → t.length ≤ 2000 → g.length ≤ 2000 → r.length ≤ 2000 → t.length + d ≤ 2000 → g.length + d ≤ 2000 → r.length + d ≤ 2000 →
    ∃ t' g' r' p' st', spec_l1Cur_model.l0 k (d : Int) s p st X Y Z t g r = some (X, Y, Z, t', g', r', p', st') ∧ t'.length = t.length + d ∧ g'.length = g.length + d ∧ r'.length = r.length + d ∧ p ≤ p' ∧ p' ≤ p + 10 * (d : Int) := by
  intro d
  induction d with
  | zero =>
    intro k p st t g r hk _ h0 h1 _ _ _ _ _ _
    obtain ⟨k, rfl⟩ := k_succ (by omega : 0 < k)
    rw [spec_l1Cur_model.l0, if_neg (by omega)]
    exact ⟨_, _, _, _, _, rfl, by omega, by omega, by omega, by omega, by omega⟩
  | succ d ih =>
    intro k p st t g r hk hd h0 h1 a1 a2 a3 b1 b2 b3
    obtain ⟨k, rfl⟩ := k_succ (by omega : 0 < k)
    rw [spec_l1Cur_model.l0, if_pos (by omega)]
    obtain ⟨v1, p1, st1, e1, _, _, q1, q1'⟩ := spec_l1Cur_pick_d hs hl p st 10001 h0 (by omega) (by omega)
    rw [e1, Option.bind_some]; dsimp only
    obtain ⟨v2, p2, st2, e2, _, q2, q2'⟩ := spec_l1Cur_among_d hs hl p1 st1 [0, 100, 100, 200, 500, 1000, v1] (by omega) (by omega) (by simp) (by simp)
    rw [e2, Option.bind_some]; dsimp only
    rw [if_pos (by omega)]
    obtain ⟨v3, p3, st3, e3, _, _, q3, q3'⟩ := spec_l1Cur_pick_d hs hl p2 st2 1001 (by omega) (by omega) (by omega)
    rw [e3, Option.bind_some]; dsimp only
    obtain ⟨v4, p4, st4, e4, _, q4, q4'⟩ := spec_l1Cur_among_d hs hl p3 st3 [0, 0, 5, 10, 20, 50, v3] (by omega) (by omega) (by simp) (by simp)
    rw [e4, Option.bind_some]; dsimp only
    rw [if_pos (by omega)]
    obtain ⟨v5, p5, st5, e5, _, _, q5, q5'⟩ := spec_l1Cur_pick_d hs hl p4 st4 5 (by omega) (by omega) (by omega)
    rw [e5, Option.bind_some]; dsimp only
    rw [if_pos (by omega), w64 (by omega) (by omega), show ((d + 1 : Nat) : Int) - 1 = (d : Int) by omega]
    obtain ⟨t', g', r', p', st', e, c1, c2, c3, c4, c5⟩ := ih k p5 st5 (t ++ [v2]) (g ++ [v4]) (r ++ [v5]) (by omega) (by omega) (by omega) (by omega) (by simp; omega) (by simp; omega) (by simp; omega) (by simp; omega) (by simp; omega) (by simp; omega)
    simp only [List.length_append, List.length_singleton] at c1 c2 c3
    exact ⟨t', g', r', p', st', e, by omega, by omega, by omega, by omega, by omega⟩
theorem spec_l1Cur_model_d {s : List Int} (hs : Bytes s) (hl : s.length ≤ 9223372036854775807) (p st : Int) (h0 : 0 ≤ p) (h1 : p ≤ 900000000) {k : Nat} (hk : 200 < k) :
    ∃ X Y Z t g r p' st', spec_l1Cur_model.f k s p st = some (X, Y, Z, t, g, r, p', st') ∧ gridB X Y Z = true ∧ (t.length : Int) = X * Y * Z ∧ g.length = t.length ∧ r.length = t.length ∧ 1 ≤ t.length ∧ t.length ≤ 120 ∧ p ≤ p' ∧ p' ≤ p + 2000 := by
  unfold spec_l1Cur_model.f
  obtain ⟨X, Y, Z, p1, st1, e, hg, q0, q1⟩ := spec_l1Cur_grid_d hs hl p st h0 (by omega)
  have hp := grid_pos hg
  obtain ⟨n, hn⟩ : ∃ n : Nat, X * Y * Z = (n : Int) := ⟨(X * Y * Z).toNat, by omega⟩
  rw [e, Option.bind_some]; dsimp only
  rw [spec_grCount_v hg, Option.bind_some, hn]
  obtain ⟨t, g, r, p', st', e2, c1, c2, c3, c4, c5⟩ := spec_l1Cur_model_l hs hl X Y Z n k p1 st1 [] [] [] (by omega) (by omega) (by omega) (by omega) (by simp) (by simp) (by simp) (by simp; omega) (by simp; omega) (by simp; omega)
  simp only [List.length_nil, Nat.zero_add] at c1 c2 c3
  exact ⟨X, Y, Z, t, g, r, p', st', e2, hg, by omega, by omega, by omega, by omega, by omega, by omega, by omega⟩
theorem spec_l1Cur_anyModel_d {s : List Int} (hs : Bytes s) (hl : s.length ≤ 9223372036854775807) (p st : Int) (h0 : 0 ≤ p) (h1 : p ≤ 900000000) {k : Nat} (hk : 200 < k) :
    ∃ X Y Z t g r p' st', spec_l1Cur_anyModel.f k s p st = some (X, Y, Z, t, g, r, p', st') ∧ t.length ≤ 200 ∧ g.length ≤ 200 ∧ r.length ≤ 200 ∧ p ≤ p' ∧ p' ≤ p + 3000 := by
  obtain ⟨k, rfl⟩ : ∃ m, k = m + 7 := ⟨k - 7, by omega⟩
  unfold spec_l1Cur_anyModel.f
  obtain ⟨X, Y, Z, t, g, r, p1, st1, e, hg, hn, hgl, hrl, hp0, hp1, q0, q1⟩ := spec_l1Cur_model_d hs hl p st h0 h1 hk
  rw [e, Option.bind_some]; dsimp only
  rw [spec_grCount_v hg, Option.bind_some]
  obtain ⟨v, p2, st2, e2, v0, v1, q2, q2'⟩ := spec_l1Cur_pick_d hs hl p1 st1 30 (by omega) (by omega) (by omega)
  rw [e2, Option.bind_some]; dsimp only
  by_cases c0 : v = 0
  · rw [if_pos c0]
    obtain ⟨X', Y', Z', p3, st3, e3, q3, q3'⟩ := anyGridk_d hs hl p2 st2 (by omega) (by omega) (k + 6)
    rw [e3, Option.bind_some]
    dsimp only
    exact ⟨X', Y', Z', t, g, r, p3, st3, by simp only [spec_l1Cur_anyModel.j0], by omega, by omega, by omega, by omega, by omega⟩
  · rw [if_neg c0]
    by_cases c1 : v = 1
    · rw [if_pos c1]
      obtain ⟨u, p3, st3, e3, u0, u1, q3, q3'⟩ := spec_l1Cur_pick_d hs hl p2 st2 (X * Y * Z) (by omega) (by omega) (by omega)
      rw [e3, Option.bind_some]; dsimp only
      obtain ⟨y, p4, st4, e4, _, q4, q4'⟩ := spec_l1Cur_among_d hs hl p3 st3 [(-1), 10000, 10001] (by omega) (by omega) (by simp) (by simp)
      rw [e4, Option.bind_some]; dsimp only
      rw [if_pos u0, if_pos (by omega)]
      exact ⟨X, Y, Z, t.set u.toNat y, g, r, p4, st4, by simp only [spec_l1Cur_anyModel.j0], by simp; omega, by omega, by omega, by omega, by omega⟩
    · rw [if_neg c1]
      by_cases c2 : v = 2
      · rw [if_pos c2]
        obtain ⟨u, p3, st3, e3, u0, u1, q3, q3'⟩ := spec_l1Cur_pick_d hs hl p2 st2 (X * Y * Z) (by omega) (by omega) (by omega)
        rw [e3, Option.bind_some]; dsimp only
        obtain ⟨y, p4, st4, e4, _, q4, q4'⟩ := spec_l1Cur_among_d hs hl p3 st3 [(-1), 1000, 1001] (by omega) (by omega) (by simp) (by simp)
        rw [e4, Option.bind_some]; dsimp only
        rw [if_pos u0, if_pos (by omega)]
        exact ⟨X, Y, Z, t, g.set u.toNat y, r, p4, st4, by simp only [spec_l1Cur_anyModel.j0], by omega, by simp; omega, by omega, by omega, by omega⟩
      · rw [if_neg c2]
        by_cases c3 : v = 3
        · rw [if_pos c3]
          obtain ⟨u, p3, st3, e3, u0, u1, q3, q3'⟩ := spec_l1Cur_pick_d hs hl p2 st2 (X * Y * Z) (by omega) (by omega) (by omega)
          rw [e3, Option.bind_some]; dsimp only
          obtain ⟨y, p4, st4, e4, _, q4, q4'⟩ := spec_l1Cur_among_d hs hl p3 st3 [(-1), 4, 5] (by omega) (by omega) (by simp) (by simp)
          rw [e4, Option.bind_some]; dsimp only
          rw [if_pos u0, if_pos (by omega)]
          exact ⟨X, Y, Z, t, g, r.set u.toNat y, p4, st4, by simp only [spec_l1Cur_anyModel.j0], by omega, by omega, by simp; omega, by omega, by omega⟩
        · rw [if_neg c3]
          by_cases c4 : v = 4
          · rw [if_pos c4, if_pos (by omega)]
            exact ⟨X, Y, Z, t, g, r ++ [0], p2, st2, by simp only [spec_l1Cur_anyModel.j0], by omega, by omega, by simp; omega, by omega, by omega⟩
          · rw [if_neg c4]
            exact ⟨X, Y, Z, t, g, r, p2, st2, by simp only [spec_l1Cur_anyModel.j0], by omega, by omega, by omega, by omega, by omega⟩
theorem spec_sbOf_v {X Y Z : Int} {t g r : List Int} (h : IsMod X Y Z t g r) {i : Int} (h0 : 0 ≤ i) (h1 : i < (t.length : Int)) : spec_sbOf.f X Y Z t g r i = some (rd t i, rd t i * rd g i, rd r i) := by
  have := h.lr
  unfold spec_sbOf.f
  rw [if_pos h0, if_pos h1, spec_moMetal_v h h0 h1, Option.bind_some, if_pos (by omega)]
def pieceOfR (X Y Z : Int) (t g r : List Int) (i : Int) : Int × Int × Int × Bool := if modHas X Y Z t g r i = true then (rd t i, rd t i * rd g i, rd r i, true) else (0, 0, 0, false)
theorem spec_PieceOf_v (X Y Z : Int) (t g r : List Int) (i : Int) {k : Nat} (hk : 122 < k) : spec_PieceOf.f k X Y Z t g r i = some (pieceOfR X Y Z t g r i) := by
  unfold spec_PieceOf.f pieceOfR
  rw [spec_moHas_v X Y Z t g r i hk]
  cases h : modHas X Y Z t g r i with
  | false => simp
  | true =>
    obtain ⟨hm, h0, h1⟩ := modHas_t h
    simp [spec_sbOf_v hm h0 h1]
theorem impl_PieceOf_v (X Y Z : Int) (t g r : List Int) (i : Int) {k : Nat} (hk : 122 < k) : impl_PieceOf.f k X Y Z t g r i = some (pieceOfR X Y Z t g r i) := by
  unfold impl_PieceOf.f pieceOfR modHas
  rw [impl_IsModel_v X Y Z t g r hk]
  cases h : modelB X Y Z t g r with
  | false => simp
  | true =>
    have hm := modelB_t h
    have := hm.lg; have := hm.lr
    simp only [Option.bind_some, if_true, Bool.true_and, decide_eq_true_eq]
    by_cases hi : 0 ≤ i ∧ i < (t.length : Int)
    · have hb := hm.rm hi.1 hi.2
      rw [if_neg (by omega), if_neg (by omega), if_pos (by omega), if_pos (by omega), if_pos (by omega), if_pos (by omega), w64 (by omega) (by omega), if_pos hi]
    · rw [if_neg hi]
      split
      · rfl
      · rw [if_pos (by omega)]
def baseL (W S : Int) (l : List Int) : List Int := l.map fun w => W * w / S
def remL (W S : Int) (l : List Int) : List Int := l.map fun w => W * w % S
def bestF (R : List Int) : Int → Nat → Nat → Int
  | best, _, 0 => best
  | best, i, d + 1 => bestF R (if rd R (i : Int) > rd R best then (i : Int) else best) (i + 1) d
def distF : List Int → List Int → Nat → List Int
  | _, out, 0 => out
  | R, out, m + 1 => distF (R.set (bestF R 0 0 R.length).toNat (-1)) (out.set (bestF R 0 0 R.length).toNat (rd out (bestF R 0 0 R.length) + 1)) m
def sharesV (W : Int) (l : List Int) : List Int := distF (remL W l.sum l) (baseL W l.sum l) (W - (baseL W l.sum l).sum).toNat
/-- what the two programs ask of a whole number and its weights -/
structure Wts (W : Int) (l : List Int) : Prop where
  w0 : 0 ≤ W
  w1 : W ≤ 10000000
  len : l.length ≤ 20
  el : ∀ x ∈ l, 0 ≤ x ∧ x ≤ 10000
  pos : 0 < l.sum
theorem sum_le (B : Int) (hB : 0 ≤ B) : ∀ (l : List Int), (∀ x ∈ l, 0 ≤ x ∧ x ≤ B) → 0 ≤ l.sum ∧ l.sum ≤ B * (l.length : Int) := by
  intro l h
  have := sum_bd (fun x => x) B hB l h
  simpa using this
theorem Wts.sum_le {W : Int} {l : List Int} (h : Wts W l) : l.sum ≤ 200000 := by
  have := (Pure.sum_le 10000 (by omega) l h.el).2
  have := h.len
  omega
theorem Wts.base {W : Int} {l : List Int} (h : Wts W l) {w : Int} (hw : w ∈ l) : 0 ≤ W * w / l.sum ∧ W * w / l.sum ≤ 100000000000 ∧ 0 ≤ W * w % l.sum ∧ W * w % l.sum < l.sum ∧ 0 ≤ W * w ∧ W * w ≤ 100000000000 := by
  have hm := mul_bd h.w0 h.w1 (h.el w hw).1 (h.el w hw).2
  have := h.pos
  have h1 := Int.ediv_le_self l.sum hm.1
  exact ⟨Int.ediv_nonneg hm.1 (by omega), by omega, Int.emod_nonneg _ (by omega), Int.emod_lt_of_pos _ h.pos, hm.1, by omega⟩
theorem baseL_len (W S : Int) (l : List Int) : (baseL W S l).length = l.length := by simp [baseL]
theorem remL_len (W S : Int) (l : List Int) : (remL W S l).length = l.length := by simp [remL]
theorem base_rem (W S : Int) : ∀ l : List Int, (baseL W S l).sum * S + (remL W S l).sum = W * l.sum
  | [] => by simp [baseL, remL]
  | w :: l => by
    have ih := base_rem W S l
    unfold baseL remL at ih ⊢
    simp only [List.map_cons, List.sum_cons]
    have e := Int.mul_ediv_add_emod (W * w) S
    rw [Int.add_mul, Int.mul_add, ← ih, ← e, Int.mul_comm S]
    have e2 : W * w / S * S + W * w % S = W * w := by rw [Int.mul_comm]; exact Int.mul_ediv_add_emod (W * w) S
    rw [e2]
    omega
theorem rem_lt (W S : Int) (hS : 0 < S) : ∀ l : List Int, l ≠ [] → 0 ≤ (remL W S l).sum ∧ (remL W S l).sum < (l.length : Int) * S
  | [], h => absurd rfl h
  | w :: l, _ => by
    have a := Int.emod_nonneg (W * w) (by omega : S ≠ 0)
    have b := Int.emod_lt_of_pos (W * w) hS
    unfold remL
    simp only [List.map_cons, List.sum_cons, List.length_cons]
    rw [show ((l.length + 1 : Nat) : Int) * S = (l.length : Int) * S + S by rw [show ((l.length + 1 : Nat) : Int) = (l.length : Int) + 1 by omega, Int.add_mul, Int.one_mul]]
    by_cases hl : l = []
    · subst hl; simp; omega
    · have ih := rem_lt W S hS l hl
      unfold remL at ih
      omega
theorem Wts.ne {W : Int} {l : List Int} (h : Wts W l) : l ≠ [] := by
  intro e; have := h.pos; rw [e] at this; simp at this
/-- what is left is not negative, and less than the number of weights -/
theorem Wts.left {W : Int} {l : List Int} (h : Wts W l) : 0 ≤ W - (baseL W l.sum l).sum ∧ W - (baseL W l.sum l).sum < (l.length : Int) := by
  have e := base_rem W l.sum l
  have r := rem_lt W l.sum h.pos l h.ne
  have hp := h.pos
  have e2 : (W - (baseL W l.sum l).sum) * l.sum = (remL W l.sum l).sum := by rw [Int.sub_mul]; omega
  constructor
  · by_cases hc : 0 ≤ W - (baseL W l.sum l).sum
    · exact hc
    · have : (W - (baseL W l.sum l).sum) * l.sum < 0 := Int.mul_neg_of_neg_of_pos (by omega) hp
      omega
  · refine Int.lt_of_mul_lt_mul_right (a := l.sum) ?_ (by omega)
    omega
theorem sum_take_succ (l : List Int) {i : Nat} (h : i < l.length) : (l.take (i + 1)).sum = (l.take i).sum + rd l (i : Int) := by
  rw [List.take_succ_eq_append_getElem h, List.sum_append, rd_get h]; simp
theorem sum_nn : ∀ l : List Int, (∀ x ∈ l, 0 ≤ x) → 0 ≤ l.sum
  | [], _ => by simp
  | x :: l, h => by
    have := sum_nn l (fun y hy => h y (by simp [hy]))
    have := h x (by simp)
    simp; omega
theorem sum_take_le : ∀ (l : List Int) (i : Nat), (∀ x ∈ l, 0 ≤ x) → 0 ≤ (l.take i).sum ∧ (l.take i).sum ≤ l.sum
  | [], i, _ => by simp
  | x :: l, 0, h => by have := sum_nn (x :: l) h; simp at this ⊢; omega
  | x :: l, i + 1, h => by
    have := sum_take_le l i (fun y hy => h y (by simp [hy]))
    have := h x (by simp)
    simp; omega
theorem Wts.take {W : Int} {l : List Int} (h : Wts W l) (i : Nat) : 0 ≤ ((baseL W l.sum l).take i).sum ∧ ((baseL W l.sum l).take i).sum ≤ W := by
  have a := sum_take_le (baseL W l.sum l) i (fun x hx => by
    unfold baseL at hx
    obtain ⟨w, hw, rfl⟩ := List.mem_map.1 hx
    exact (h.base hw).1)
  have := h.left
  omega
theorem bestF_bd (R : List Int) : ∀ (d i : Nat) (best : Int), 0 ≤ best → best < ((i + d : Nat) : Int) ∨ (best = 0 ∧ i + d = 0) → 0 ≤ bestF R best i d ∧ (bestF R best i d < ((i + d : Nat) : Int) ∨ i + d = 0)
  | 0, i, best, h0, h1 => ⟨h0, by unfold bestF; omega⟩
  | d + 1, i, best, h0, h1 => by
    unfold bestF
    have := bestF_bd R d (i + 1) (if rd R (i : Int) > rd R best then (i : Int) else best) (by split <;> omega) (by split <;> omega)
    omega
theorem best_ok {R : List Int} (h : 0 < R.length) : 0 ≤ bestF R 0 0 R.length ∧ bestF R 0 0 R.length < (R.length : Int) := by
  have := bestF_bd R R.length 0 0 (by omega) (by omega)
  omega
/-- the greatest is found: nothing is greater -/
theorem bestF_max (R : List Int) : ∀ (d i : Nat) (best : Int), (∀ j : Nat, j < i → rd R (j : Int) ≤ rd R best) → ∀ j : Nat, j < i + d → rd R (j : Int) ≤ rd R (bestF R best i d)
  | 0, i, best, h, j, hj => h j (by omega)
  | d + 1, i, best, h, j, hj => by
    unfold bestF
    refine bestF_max R d (i + 1) _ (fun j hj => ?_) j (by omega)
    by_cases hc : rd R (i : Int) > rd R best
    · rw [if_pos hc]
      by_cases e : j = i
      · subst e; omega
      · have := h j (by omega); omega
    · rw [if_neg hc]
      by_cases e : j = i
      · subst e; omega
      · exact h j (by omega)
theorem impl_sharesOf_l3 (out R : List Int) (left : Int) (n : Nat) (hR : R.length = n) (ho : out.length = n) (hn : n ≤ 20) (hout : ∀ j : Int, 0 ≤ j → j < (n : Int) → 0 ≤ rd out j ∧ rd out j ≤ 200000000000) (hl : 0 < left) (hl' : left ≤ 10000000) : ∀ (d i k : Nat) (best : Int), i + d = n → 0 ≤ best → best < (n : Int) →
    impl_sharesOf.l3 (k + d + 1) out R left best (R.length : Int) (i : Int) = impl_sharesOf.l2 k (out.set (bestF R best i d).toNat (rd out (bestF R best i d) + 1)) (R.set (bestF R best i d).toNat (-1)) (left - 1) := by
  intro d
  induction d with
  | zero =>
    intro i k best hi h0 h1
    have hb := hout best h0 h1
    simp only [Nat.add_zero, impl_sharesOf.l3]
    rw [if_neg (by omega), if_pos h0, if_pos (by omega), if_pos (by omega), w64 (by omega) (by omega), w64 (by omega) (by omega)]
    rfl
  | succ d ih =>
    intro i k best hi h0 h1
    obtain ⟨K, hK⟩ : ∃ K, K = k + d + 1 := ⟨_, rfl⟩
    rw [show k + (d + 1) + 1 = K + 1 by omega]
    simp only [impl_sharesOf.l3]
    rw [if_pos (by omega), if_pos (by omega), if_pos (by omega), if_pos h0, if_pos (by omega), w64_succ (by omega)]
    unfold bestF
    by_cases hc : rd R (i : Int) > rd R best
    · rw [if_pos hc, if_pos hc, hK]; exact ih (i + 1) k _ (by omega) (by omega) (by omega)
    · rw [if_neg hc, if_neg hc, hK]; exact ih (i + 1) k _ (by omega) (by omega) (by omega)
theorem impl_sharesOf_l2 (n : Nat) (hn : n ≤ 20) (hn0 : 0 < n) : ∀ (m k : Nat) (out R : List Int), R.length = n → out.length = n → m * (n + 2) < k → m ≤ 10000 → (∀ j : Int, 0 ≤ j → j < (n : Int) → 0 ≤ rd out j ∧ rd out j ≤ 200000000000 - (m : Int)) →
    impl_sharesOf.l2 k out R (m : Int) = some (distF R out m) := by
  intro m
  induction m with
  | zero =>
    intro k out R hR ho hk _ _
    obtain ⟨k, rfl⟩ := k_succ (by omega : 0 < k)
    simp only [impl_sharesOf.l2]
    rw [if_neg (by omega)]
    rfl
  | succ m ih =>
    intro k out R hR ho hk hm hb
    rw [Nat.succ_mul] at hk
    obtain ⟨k, rfl⟩ : ∃ q, k = (q + n + 1) + 1 := ⟨k - (n + 2), by omega⟩
    have hbest := best_ok (R := R) (by omega)
    have e := impl_sharesOf_l3 out R ((m + 1 : Nat) : Int) n hR ho hn (fun j h0 h1 => by have := hb j h0 h1; omega) (by omega) (by omega) n 0 k 0 (by omega) (by omega) (by omega)
    simp only [impl_sharesOf.l2]
    rw [if_pos (by omega)]
    refine Eq.trans e ?_
    rw [← hR, show ((m + 1 : Nat) : Int) - 1 = (m : Int) by omega]
    rw [hR]
    have := ih k (out.set (bestF R 0 0 n).toNat (rd out (bestF R 0 0 n) + 1)) (R.set (bestF R 0 0 n).toNat (-1)) (by simpa using hR) (by simpa using ho) (by omega) (by omega) (fun j h0 h1 => by
      rw [hR] at hbest
      rw [rd_set j h0 (by omega)]
      have h2 := hb j h0 h1
      have h3 := hb _ hbest.1 hbest.2
      split <;> omega)
    rw [this]
    conv => rhs; unfold distF
    rw [hR]
theorem impl_sharesOf_l1 {W : Int} {l : List Int} (h : Wts W l) : ∀ (d i k : Nat) (y8 y9 : List Int), i + d = l.length → y8.length = l.length → y9.length = l.length → (∀ j, j < i → y8[j]? = (baseL W l.sum l)[j]?) → (∀ j, j < i → y9[j]? = (remL W l.sum l)[j]?) →
    impl_sharesOf.l1 (k + d + 1) W l.sum y8 y9 (W - ((baseL W l.sum l).take i).sum) l (l.length : Int) (i : Int) = impl_sharesOf.l2 k (baseL W l.sum l) (remL W l.sum l) (W - (baseL W l.sum l).sum) := by
  intro d
  induction d with
  | zero =>
    intro i k y8 y9 hi h8 h9 e8 e9
    simp only [Nat.add_zero, impl_sharesOf.l1]
    rw [if_neg (by omega)]
    have a8 : y8 = baseL W l.sum l := by
      refine List.ext_getElem? fun j => ?_
      by_cases hj : j < l.length
      · exact e8 j (by omega)
      · rw [List.getElem?_eq_none (by omega), List.getElem?_eq_none (by rw [baseL_len]; omega)]
    have a9 : y9 = remL W l.sum l := by
      refine List.ext_getElem? fun j => ?_
      by_cases hj : j < l.length
      · exact e9 j (by omega)
      · rw [List.getElem?_eq_none (by omega), List.getElem?_eq_none (by rw [remL_len]; omega)]
    rw [a8, a9, List.take_of_length_le (by rw [baseL_len]; omega)]
  | succ d ih =>
    intro i k y8 y9 hi h8 h9 e8 e9
    have hw : rd l (i : Int) ∈ l := rd_mem (by omega) (by omega)
    have hb := h.base hw
    have hS := h.pos; have hlen := h.len
    have hbi : (baseL W l.sum l)[i]? = some (W * rd l (i : Int) / l.sum) := by
      unfold baseL; rw [List.getElem?_map, List.getElem?_eq_getElem (by omega), rd_get (by omega)]; rfl
    have hri : (remL W l.sum l)[i]? = some (W * rd l (i : Int) % l.sum) := by
      unfold remL; rw [List.getElem?_map, List.getElem?_eq_getElem (by omega), rd_get (by omega)]; rfl
    have ht := h.take i
    have hts : ((baseL W l.sum l).take (i + 1)).sum = ((baseL W l.sum l).take i).sum + W * rd l (i : Int) / l.sum := by
      rw [sum_take_succ _ (by rw [baseL_len]; omega), rd_of_getElem? hbi]
    have ht1 := h.take (i + 1)
    have hw1 := h.w1
    obtain ⟨K, hK⟩ : ∃ K, K = k + d + 1 := ⟨_, rfl⟩
    rw [show k + (d + 1) + 1 = K + 1 by omega]
    simp only [impl_sharesOf.l1]
    rw [if_pos (by omega), if_pos (by omega), if_pos (by omega), if_neg (by omega), if_pos (by omega)]
    simp only [Option.bind_some]
    rw [if_pos (by omega), w64 (by omega) (by omega) (x := W * rd l (i : Int)), tdiv_nn hb.2.2.2.2.1, tmod_nn hb.2.2.2.2.1, w64 (by omega) (by omega) (x := W * rd l (i : Int) / l.sum), show ((i : Int)).toNat = i by omega]
    rw [show rd (y8.set i (W * rd l (i : Int) / l.sum)) (i : Int) = W * rd l (i : Int) / l.sum by rw [rd_set _ (by omega) (by omega), if_pos rfl]]
    rw [w64 (by omega) (by omega), w64_succ (by omega), show W - ((baseL W l.sum l).take i).sum - W * rd l (i : Int) / l.sum = W - ((baseL W l.sum l).take (i + 1)).sum by omega, hK]
    refine ih (i + 1) k _ _ (by omega) (by simpa using h8) (by simpa using h9) (fun j hj => ?_) (fun j hj => ?_)
    · by_cases e : j = i
      · subst e; rw [List.getElem?_set_self (by omega), hbi]
      · rw [List.getElem?_set_ne (by omega)]; exact e8 j (by omega)
    · by_cases e : j = i
      · subst e; rw [List.getElem?_set_self (by omega), hri]
      · rw [List.getElem?_set_ne (by omega)]; exact e9 j (by omega)
theorem impl_sharesOf_l0 {W : Int} {l : List Int} (h : Wts W l) : ∀ (d i k : Nat), i + d = l.length →
    impl_sharesOf.l0 (k + d + 1) W l (l.take i).sum l (l.length : Int) (i : Int) = impl_sharesOf.l1 k W l.sum (List.replicate l.length 0) (List.replicate l.length 0) W l (l.length : Int) 0 := by
  intro d
  induction d with
  | zero =>
    intro i k hi
    have := h.len
    simp only [Nat.add_zero, impl_sharesOf.l0]
    rw [if_neg (by omega), if_pos (by omega), if_pos (by omega), List.take_of_length_le (by omega), show ((l.length : Int)).toNat = l.length by omega]
  | succ d ih =>
    intro i k hi
    have := h.len
    have ht := sum_take_le l i (fun x hx => (h.el x hx).1)
    have hs := h.sum_le
    have hw := h.el _ (rd_mem (l := l) (i := (i : Int)) (by omega) (by omega))
    obtain ⟨K, hK⟩ : ∃ K, K = k + d + 1 := ⟨_, rfl⟩
    rw [show k + (d + 1) + 1 = K + 1 by omega]
    simp only [impl_sharesOf.l0]
    rw [if_pos (by omega), if_pos (by omega), if_pos (by omega), w64 (by omega) (by omega), w64_succ (by omega), ← sum_take_succ l (by omega), hK]
    exact ih (i + 1) k (by omega)
theorem impl_sharesOf_v {W : Int} {l : List Int} (h : Wts W l) {k : Nat} (hk : 1000 < k) : impl_sharesOf.f k W l = some (sharesV W l) := by
  have hl := h.len
  have hlf := h.left
  have hn0 : 0 < l.length := by
    have := h.ne
    cases l with
    | nil => exact absurd rfl this
    | cons => simp
  obtain ⟨q, rfl⟩ : ∃ q, k = (q + l.length + 1) + l.length + 1 := ⟨k - 2 * l.length - 2, by omega⟩
  unfold impl_sharesOf.f sharesV
  have e0 := impl_sharesOf_l0 h l.length 0 (q + l.length + 1) (by omega)
  have e1 := impl_sharesOf_l1 h l.length 0 q (List.replicate l.length 0) (List.replicate l.length 0) (by omega) (by simp) (by simp) (fun j hj => by omega) (fun j hj => by omega)
  simp only [List.take_zero, List.sum_nil, Int.sub_zero] at e0 e1
  refine (show _ = _ from e0).trans (e1.trans ?_)
  have hm : (W - (baseL W l.sum l).sum).toNat * (l.length + 2) ≤ 20 * 22 := Nat.mul_le_mul (by omega) (by omega)
  have e2 := impl_sharesOf_l2 l.length hl hn0 (W - (baseL W l.sum l).sum).toNat q (baseL W l.sum l) (remL W l.sum l) (remL_len _ _ _) (baseL_len _ _ _) (by omega) (by omega) (fun j h0 h1 => by
    have hmem : rd (baseL W l.sum l) j ∈ baseL W l.sum l := rd_mem h0 (by rw [baseL_len]; exact h1)
    unfold baseL at hmem
    obtain ⟨w, hw, e⟩ := List.mem_map.1 hmem
    have hb := h.base hw
    have e' : rd (baseL W l.sum l) j = W * w / l.sum := e.symm
    omega)
  rw [show ((W - (baseL W l.sum l).sum).toNat : Int) = W - (baseL W l.sum l).sum by omega] at e2
  exact e2
theorem spec_l1Has_l (l : List Int) (a : Int) (hn : l.length ≤ 1048576) : ∀ (d k i : Nat), i + d = l.length → d < k → spec_l1Has.l0 k a l (l.length : Int) (i : Int) = some (decide (a ∈ l.drop i)) := by
  intro d
  induction d with
  | zero =>
    intro k i hi hk
    obtain ⟨k, rfl⟩ := k_succ (by omega : 0 < k)
    simp only [spec_l1Has.l0]
    rw [if_neg (by omega), List.drop_eq_nil_of_le (by omega)]
    simp
  | succ d ih =>
    intro k i hi hk
    obtain ⟨k, rfl⟩ := k_succ (by omega : 0 < k)
    simp only [spec_l1Has.l0]
    rw [if_pos (by omega), if_pos (by omega), if_pos (by omega), w64_succ (by omega), drop_rd (by omega : i < l.length), ih k (i + 1) (by omega) (by omega)]
    by_cases h : rd l (i : Int) = a
    · rw [if_pos h]; simp [h]
    · rw [if_neg h]
      congr 1
      rw [decide_eq_decide, List.mem_cons]
      constructor
      · exact fun h2 => .inr h2
      · rintro (h2 | h2)
        · exact absurd h2.symm h
        · exact h2
theorem spec_l1Has_v (l : List Int) (a : Int) (hn : l.length ≤ 1048576) {k : Nat} (hk : l.length < k) : spec_l1Has.f k l a = some (decide (a ∈ l)) := by
  unfold spec_l1Has.f
  simpa using spec_l1Has_l l a hn l.length k 0 (by omega) hk
theorem spec_sbSum_l (l : List Int) (hl : l.length ≤ 1048576) (he : ∀ x ∈ l, 0 ≤ x ∧ x ≤ 1000000) : ∀ (d k i : Nat), i + d = l.length → d < k → spec_sbSum.l0 k (l.take i).sum l (l.length : Int) (i : Int) = some l.sum := by
  intro d
  induction d with
  | zero =>
    intro k i hi hk
    obtain ⟨k, rfl⟩ := k_succ (by omega : 0 < k)
    simp only [spec_sbSum.l0]
    rw [if_neg (by omega), List.take_of_length_le (by omega)]
  | succ d ih =>
    intro k i hi hk
    obtain ⟨k, rfl⟩ := k_succ (by omega : 0 < k)
    have ht := sum_take_le l i (fun x hx => (he x hx).1)
    have hs := (Pure.sum_le 1000000 (by omega) l he).2
    have hw := he _ (rd_mem (l := l) (i := (i : Int)) (by omega) (by omega))
    simp only [spec_sbSum.l0]
    rw [if_pos (by omega), if_pos (by omega), if_pos (by omega), w64 (by omega) (by omega), w64_succ (by omega), ← sum_take_succ l (by omega)]
    exact ih k (i + 1) (by omega) (by omega)
theorem spec_sbSum_v (l : List Int) (hl : l.length ≤ 1048576) (he : ∀ x ∈ l, 0 ≤ x ∧ x ≤ 1000000) {k : Nat} (hk : l.length < k) : spec_sbSum.f k l = some l.sum := by
  unfold spec_sbSum.f
  have := spec_sbSum_l l hl he l.length k 0 (by omega) hk
  simpa using this
/-- the rests as the program keeps them, and what was met as the reference keeps it -/
structure Met (W : Int) (l R met : List Int) : Prop where
  len : R.length = l.length
  iff : ∀ j : Nat, j < l.length → (((j : Int) ∈ met) ↔ rd R (j : Int) = -1)
  rem : ∀ j : Nat, j < l.length → (j : Int) ∉ met → rd R (j : Int) = W * rd l (j : Int) % l.sum
  ml : met.length ≤ 20
theorem spec_sbShares_l2 {W : Int} {l : List Int} (h : Wts W l) (out R met : List Int) (hM : Met W l R met) (left : Int) (ho : out.length = l.length) (hout : ∀ j : Int, 0 ≤ j → j < (l.length : Int) → 0 ≤ rd out j ∧ rd out j ≤ 200000000000) (hl : 0 < left) (hl' : left ≤ 10000000) (hex : ∃ j : Nat, j < l.length ∧ (j : Int) ∉ met) :
    ∀ (d i k : Nat) (b b' : Int), i + d = l.length → 20 < k → ((b' = -1 ∧ (∀ j : Nat, j < i → (j : Int) ∈ met) ∧ b = 0) ∨ (b' = b ∧ 0 ≤ b ∧ b < (i : Int) ∧ b ∉ met)) →
    spec_sbShares.l2 (k + d + 1) W l l.sum out left met b' l (l.length : Int) (i : Int) = spec_sbShares.l1 k W l l.sum (out.set (bestF R b i d).toNat (rd out (bestF R b i d) + 1)) (left - 1) (met ++ [bestF R b i d]) := by
  intro d
  induction d with
  | zero =>
    intro i k b b' hi hk hs
    rcases hs with ⟨_, hall, _⟩ | ⟨rfl, h0, h1, h2⟩
    · obtain ⟨j, hj, hj'⟩ := hex
      exact absurd (hall j (by omega)) hj'
    · have hb := hout b' h0 (by omega)
      have := hM.ml
      simp only [Nat.add_zero, spec_sbShares.l2]
      rw [if_neg (by omega), if_pos (by omega), if_pos h0, if_pos (by omega), w64 (by omega) (by omega), w64 (by omega) (by omega)]
      rfl
  | succ d ih =>
    intro i k b b' hi hk hs
    have hw : rd l (i : Int) ∈ l := rd_mem (by omega) (by omega)
    have hbase := h.base hw
    have hml := hM.ml; have hlen := h.len; have hpos := h.pos
    obtain ⟨K, hK⟩ : ∃ K, K = k + d + 1 := ⟨_, rfl⟩
    rw [show k + (d + 1) + 1 = K + 1 by omega]
    simp only [spec_sbShares.l2]
    rw [if_pos (by omega), if_pos (by omega), if_pos (by omega), spec_l1Has_v met _ (by omega) (by omega), Option.bind_some, w64_succ (by omega)]
    conv => rhs; unfold bestF
    subst hK
    by_cases hmet : (i : Int) ∈ met
    · rw [if_pos (decide_eq_true hmet)]
      have hRi := (hM.iff i (by omega)).1 hmet
      rcases hs with ⟨rfl, hall, rfl⟩ | ⟨rfl, h0, h1, h2⟩
      · have hnot : ¬ rd R (i : Int) > rd R 0 := by
          by_cases e : i = 0
          · subst e; simp
          · have := (hM.iff 0 (by omega)).1 (hall 0 (by omega))
            simp only [Int.natCast_zero] at this
            omega
        rw [if_neg hnot]
        exact ih (i + 1) k 0 (-1) (by omega) hk (.inl ⟨rfl, fun j hj => by
          by_cases e : j = i
          · subst e; exact hmet
          · exact hall j (by omega), rfl⟩)
      · have hRb := hM.rem b'.toNat (by omega) (by rw [show ((b'.toNat : Nat) : Int) = b' by omega]; exact h2)
        rw [show ((b'.toNat : Nat) : Int) = b' by omega] at hRb
        have hbb := (h.base (rd_mem (l := l) (i := b') h0 (by omega))).2.2.1
        rw [if_neg (by omega)]
        exact ih (i + 1) k b' b' (by omega) hk (.inr ⟨rfl, h0, by omega, h2⟩)
    · rw [if_neg (by simpa using hmet)]
      have hRi := hM.rem i (by omega) hmet
      rcases hs with ⟨rfl, hall, rfl⟩ | ⟨rfl, h0, h1, h2⟩
      · rw [if_pos (by omega)]
        by_cases e : i = 0
        · subst e
          rw [if_neg (by simp)]
          exact ih 1 k 0 0 (by omega) hk (.inr ⟨rfl, by omega, by omega, hmet⟩)
        · have hR0 := (hM.iff 0 (by omega)).1 (hall 0 (by omega))
          simp only [Int.natCast_zero] at hR0
          rw [if_pos (by omega)]
          exact ih (i + 1) k _ _ (by omega) hk (.inr ⟨rfl, by omega, by omega, hmet⟩)
      · have hRb := hM.rem b'.toNat (by omega) (by rw [show ((b'.toNat : Nat) : Int) = b' by omega]; exact h2)
        rw [show ((b'.toNat : Nat) : Int) = b' by omega] at hRb
        have hbb := h.base (rd_mem (l := l) (i := b') h0 (by omega))
        rw [if_neg (by omega), if_neg (by omega), if_pos h0, if_pos (by omega), w64 (by omega) (by omega) (x := W * rd l (i : Int)), w64 (by omega) (by omega) (x := W * rd l b'), tmod_nn hbase.2.2.2.2.1, tmod_nn hbb.2.2.2.2.1, ← hRi, ← hRb]
        by_cases hc : rd R (i : Int) > rd R b'
        · rw [if_pos hc, if_pos hc]
          exact ih (i + 1) k _ _ (by omega) hk (.inr ⟨rfl, by omega, by omega, hmet⟩)
        · rw [if_neg hc, if_neg hc]
          exact ih (i + 1) k b' b' (by omega) hk (.inr ⟨rfl, h0, by omega, h2⟩)
/-- some of more places than were met is not met -/
theorem all_met : ∀ (n : Nat) (met : List Int), (∀ j : Nat, j < n → (j : Int) ∈ met) → n ≤ met.length
  | 0, _, _ => Nat.zero_le _
  | n + 1, met, h => by
    have h1 := h n (by omega)
    have h2 := all_met n (met.erase (n : Int)) (fun j hj => (List.mem_erase_of_ne (by omega)).2 (h j (by omega)))
    rw [List.length_erase_of_mem h1] at h2
    have h3 := List.length_pos_of_mem h1
    omega
theorem unmet (n : Nat) (met : List Int) (h : met.length < n) : ∃ j : Nat, j < n ∧ (j : Int) ∉ met := by
  by_cases hc : ∃ j : Nat, j < n ∧ (j : Int) ∉ met
  · exact hc
  · exfalso
    have := all_met n met (fun j hj => by
      by_cases h2 : (j : Int) ∈ met
      · exact h2
      · exact absurd ⟨j, hj, h2⟩ hc)
    omega
theorem met_next {W : Int} {l R met : List Int} (h : Wts W l) (hM : Met W l R met) (hm : met.length < 20) (b : Int) (h0 : 0 ≤ b) (h1 : b < (l.length : Int)) : Met W l (R.set b.toNat (-1)) (met ++ [b]) := by
  have hlen := hM.len
  refine ⟨by simpa using hlen, fun j hj => ?_, fun j hj hn => ?_, by simp; omega⟩
  · rw [rd_set _ (by omega) (by omega), List.mem_append, List.mem_singleton]
    by_cases e : (j : Int) = b
    · rw [if_pos (by omega)]; simp [e]
    · rw [if_neg (by omega), hM.iff j hj]; simp [e]
  · rw [List.mem_append, List.mem_singleton] at hn
    rw [rd_set _ (by omega) (by omega), if_neg (by omega)]
    exact hM.rem j hj (fun hx => hn (.inl hx))
theorem spec_sbShares_l1 {W : Int} {l : List Int} (h : Wts W l) : ∀ (m k : Nat) (out R met : List Int), Met W l R met → out.length = l.length → m * (l.length + 2) + 30 < k → m + met.length < l.length → (∀ j : Int, 0 ≤ j → j < (l.length : Int) → 0 ≤ rd out j ∧ rd out j ≤ 200000000000 - (m : Int)) →
    spec_sbShares.l1 k W l l.sum out (m : Int) met = some (distF R out m) := by
  intro m
  induction m with
  | zero =>
    intro k out R met hM ho hk _ _
    obtain ⟨k, rfl⟩ := k_succ (by omega : 0 < k)
    simp only [spec_sbShares.l1]
    rw [if_neg (by omega)]
    rfl
  | succ m ih =>
    intro k out R met hM ho hk hm hb
    rw [Nat.succ_mul] at hk
    have hlen := h.len; have hRl := hM.len
    obtain ⟨k, rfl⟩ : ∃ q, k = (q + l.length + 1) + 1 := ⟨k - (l.length + 2), by omega⟩
    have hbest := best_ok (R := R) (by omega)
    rw [hRl] at hbest
    have e := spec_sbShares_l2 h out R met hM ((m + 1 : Nat) : Int) ho (fun j h0 h1 => by have := hb j h0 h1; omega) (by omega) (by omega) (unmet l.length met (by omega)) l.length 0 k 0 (-1) (by omega) (by omega) (.inl ⟨rfl, fun j hj => by omega, rfl⟩)
    simp only [spec_sbShares.l1]
    rw [if_pos (by omega)]
    refine Eq.trans e ?_
    rw [show ((m + 1 : Nat) : Int) - 1 = (m : Int) by omega]
    have := ih k (out.set (bestF R 0 0 l.length).toNat (rd out (bestF R 0 0 l.length) + 1)) (R.set (bestF R 0 0 l.length).toNat (-1)) (met ++ [bestF R 0 0 l.length]) (met_next h hM (by omega) _ hbest.1 hbest.2) (by simpa using ho) (by omega) (by simp; omega) (fun j h0 h1 => by
      rw [rd_set j h0 (by omega)]
      have h2 := hb j h0 h1
      have h3 := hb _ hbest.1 hbest.2
      split <;> omega)
    rw [this]
    conv => rhs; unfold distF
    rw [hRl]
theorem spec_sbShares_l0 {W : Int} {l : List Int} (h : Wts W l) : ∀ (d i k : Nat), i + d = l.length →
    spec_sbShares.l0 (k + d + 1) W l l.sum ((baseL W l.sum l).take i) (W - ((baseL W l.sum l).take i).sum) l (l.length : Int) (i : Int) = spec_sbShares.l1 k W l l.sum (baseL W l.sum l) (W - (baseL W l.sum l).sum) [] := by
  intro d
  induction d with
  | zero =>
    intro i k hi
    simp only [Nat.add_zero, spec_sbShares.l0]
    rw [if_neg (by omega), List.take_of_length_le (by rw [baseL_len]; omega)]
  | succ d ih =>
    intro i k hi
    have hw : rd l (i : Int) ∈ l := rd_mem (by omega) (by omega)
    have hb := h.base hw
    have hS := h.pos; have hlen := h.len
    have hbi : (baseL W l.sum l)[i]? = some (W * rd l (i : Int) / l.sum) := by
      unfold baseL; rw [List.getElem?_map, List.getElem?_eq_getElem (by omega), rd_get (by omega)]; rfl
    have ht := h.take i
    have hts : ((baseL W l.sum l).take (i + 1)).sum = ((baseL W l.sum l).take i).sum + W * rd l (i : Int) / l.sum := by
      rw [sum_take_succ _ (by rw [baseL_len]; omega), rd_of_getElem? hbi]
    have htk : (baseL W l.sum l).take (i + 1) = (baseL W l.sum l).take i ++ [W * rd l (i : Int) / l.sum] := by
      rw [List.take_add_one, hbi]; rfl
    have ht1 := h.take (i + 1)
    have hw1 := h.w1
    obtain ⟨K, hK⟩ : ∃ K, K = k + d + 1 := ⟨_, rfl⟩
    rw [show k + (d + 1) + 1 = K + 1 by omega]
    simp only [spec_sbShares.l0]
    rw [if_pos (by omega), if_pos (by omega), if_pos (by omega), if_neg (by omega), if_pos (by rw [List.length_take]; omega), w64 (by omega) (by omega) (x := W * rd l (i : Int)), tdiv_nn hb.2.2.2.2.1, w64 (by omega) (by omega) (x := W * rd l (i : Int) / l.sum), w64 (by omega) (by omega), w64_succ (by omega), ← htk, show W - ((baseL W l.sum l).take i).sum - W * rd l (i : Int) / l.sum = W - ((baseL W l.sum l).take (i + 1)).sum by omega, hK]
    exact ih (i + 1) k (by omega)
theorem spec_sbShares_v {W : Int} {l : List Int} (h : Wts W l) {k : Nat} (hk : 1000 < k) : spec_sbShares.f k W l = some (sharesV W l) := by
  have hl := h.len
  have hlf := h.left
  unfold spec_sbShares.f
  rw [spec_sbSum_v l (by omega) (fun x hx => by have := h.el x hx; omega) (by omega), Option.bind_some]
  obtain ⟨q, rfl⟩ : ∃ q, k = q + l.length + 1 := ⟨k - l.length - 1, by omega⟩
  have e0 := spec_sbShares_l0 h l.length 0 q (by omega)
  simp only [List.take_zero, List.sum_nil, Int.sub_zero] at e0
  refine (show _ = _ from e0).trans ?_
  have hm : (W - (baseL W l.sum l).sum).toNat * (l.length + 2) ≤ 20 * 22 := Nat.mul_le_mul (by omega) (by omega)
  have hrm : Met W l (remL W l.sum l) [] := by
    have hri : ∀ j : Nat, j < l.length → rd (remL W l.sum l) (j : Int) = W * rd l (j : Int) % l.sum := fun j hj => by
      refine rd_of_getElem? ?_
      unfold remL; rw [List.getElem?_map, List.getElem?_eq_getElem hj, rd_get hj]; rfl
    refine ⟨remL_len _ _ _, fun j hj => ?_, fun j hj _ => hri j hj, by simp⟩
    rw [hri j hj]
    have := (h.base (rd_mem (l := l) (i := (j : Int)) (by omega) (by omega))).2.2.1
    constructor
    · intro hx; cases hx
    · intro hx; omega
  have e1 := spec_sbShares_l1 h (W - (baseL W l.sum l).sum).toNat q (baseL W l.sum l) (remL W l.sum l) [] hrm (baseL_len _ _ _) (by omega) (by simp; omega) (fun j h0 h1 => by
    have hmem : rd (baseL W l.sum l) j ∈ baseL W l.sum l := rd_mem h0 (by rw [baseL_len]; exact h1)
    unfold baseL at hmem
    obtain ⟨w, hw, e⟩ := List.mem_map.1 hmem
    have hb := h.base hw
    have e' : rd (baseL W l.sum l) j = W * w / l.sum := e.symm
    omega)
  rw [show ((W - (baseL W l.sum l).sum).toNat : Int) = W - (baseL W l.sum l).sum by omega] at e1
  exact e1
theorem sum_set1 : ∀ (l : List Int) (i : Nat), i < l.length → (l.set i (rd l (i : Int) + 1)).sum = l.sum + 1
  | [], i, h => by simp at h
  | x :: l, 0, _ => by simp [rd]; omega
  | x :: l, i + 1, h => by
    have ih := sum_set1 l i (by simpa using h)
    have e : rd (x :: l) ((i + 1 : Nat) : Int) = rd l (i : Int) := by rw [rd_nat, rd_nat]; rfl
    rw [e]
    simp only [List.set_cons_succ, List.sum_cons, ih]
    omega
theorem distF_all : ∀ (m : Nat) (R out : List Int), R.length = out.length → 0 < out.length → (∀ x ∈ out, 0 ≤ x) → (distF R out m).length = out.length ∧ (distF R out m).sum = out.sum + (m : Int) ∧ ∀ x ∈ distF R out m, 0 ≤ x
  | 0, R, out, _, _, h => ⟨rfl, by simp [distF], h⟩
  | m + 1, R, out, hR, h0, h => by
    have hb := best_ok (R := R) (by omega)
    have hr := h _ (rd_mem (l := out) hb.1 (by omega))
    have ih := distF_all m (R.set (bestF R 0 0 R.length).toNat (-1)) (out.set (bestF R 0 0 R.length).toNat (rd out (bestF R 0 0 R.length) + 1)) (by simpa using hR) (by simpa using h0) (fun x hx => by
      rcases List.mem_or_eq_of_mem_set hx with hx | rfl
      · exact h x hx
      · omega)
    have hs := sum_set1 out (bestF R 0 0 R.length).toNat (by omega)
    rw [show (((bestF R 0 0 R.length).toNat : Nat) : Int) = bestF R 0 0 R.length by omega] at hs
    unfold distF
    refine ⟨by rw [ih.1]; simp, ?_, ih.2.2⟩
    rw [ih.2.1, hs]
    omega
theorem mem_le_sum : ∀ (l : List Int), (∀ x ∈ l, 0 ≤ x) → ∀ x ∈ l, x ≤ l.sum
  | [], _, x, hx => by cases hx
  | y :: l, h, x, hx => by
    have h1 := sum_nn l (fun z hz => h z (by simp [hz]))
    have h2 := h y (by simp)
    rw [List.sum_cons]
    rcases List.mem_cons.1 hx with rfl | hx
    · omega
    · have := mem_le_sum l (fun z hz => h z (by simp [hz])) x hx
      omega
theorem Wts.shares {W : Int} {l : List Int} (h : Wts W l) : (sharesV W l).length = l.length ∧ (sharesV W l).sum = W ∧ ∀ x ∈ sharesV W l, 0 ≤ x ∧ x ≤ W := by
  have hlf := h.left
  have hn : 0 < l.length := by omega
  have hb : ∀ x ∈ baseL W l.sum l, 0 ≤ x := fun x hx => by
    unfold baseL at hx
    obtain ⟨w, hw, rfl⟩ := List.mem_map.1 hx
    exact (h.base hw).1
  have := distF_all (W - (baseL W l.sum l).sum).toNat (remL W l.sum l) (baseL W l.sum l) (by rw [remL_len, baseL_len]) (by rw [baseL_len]; exact hn) hb
  have hs : (sharesV W l).sum = W := by unfold sharesV; rw [this.2.1]; omega
  refine ⟨by unfold sharesV; rw [this.1, baseL_len], hs, fun x hx => ⟨this.2.2 x hx, ?_⟩⟩
  have := mem_le_sum (sharesV W l) this.2.2 x hx
  omega
def zipP (t m : List Int) (r : Int) : List S29 := (List.range t.length).map fun i : Nat => ⟨rd t (i : Int), rd m (i : Int), r⟩
theorem zipP_length (t m : List Int) (r : Int) : (zipP t m r).length = t.length := by simp [zipP]
theorem zipP_get (t m : List Int) (r : Int) {i : Nat} (h : i < t.length) : (zipP t m r)[i]? = some ⟨rd t (i : Int), rd m (i : Int), r⟩ := by
  simp [zipP, h]
theorem impl_SplitPiece_l1 (t m : List Int) (a b r : Int) (ht : t.length ≤ 20) (hm : m.length = t.length) : ∀ (d k i : Nat) (y : List S29), i + d = t.length → d < k → y.length = t.length → (∀ j, j < i → y[j]? = (zipP t m r)[j]?) →
    impl_SplitPiece.l1 k y t m (t.length : Int) (i : Int) a b r = some (zipP t m r, true) := by
  intro d
  induction d with
  | zero =>
    intro k i y hi hk hy hj
    obtain ⟨k, rfl⟩ := k_succ (by omega : 0 < k)
    simp only [impl_SplitPiece.l1]
    rw [if_neg (by omega)]
    have e : y = zipP t m r := by
      refine List.ext_getElem? fun j => ?_
      by_cases h : j < t.length
      · exact hj j (by omega)
      · rw [List.getElem?_eq_none (by omega), List.getElem?_eq_none (by rw [zipP_length]; omega)]
    rw [e]
  | succ d ih =>
    intro k i y hi hk hy hj
    obtain ⟨k, rfl⟩ := k_succ (by omega : 0 < k)
    simp only [impl_SplitPiece.l1]
    rw [if_pos (by omega), if_pos (by omega), if_pos (by omega), if_pos (by omega), if_pos (by omega), w64_succ (by omega), show ((i : Int)).toNat = i by omega]
    refine ih k (i + 1) _ (by omega) (by omega) (by simpa using hy) (fun j hj' => ?_)
    by_cases h : j = i
    · subst h
      rw [List.getElem?_set_self (by omega), zipP_get t m r (by omega)]
    · rw [List.getElem?_set_ne (by omega)]
      exact hj j (by omega)
theorem spec_SplitPiece_l0 (t m : List Int) (a b r : Int) (ht : t.length ≤ 20) (hm : m.length = t.length) : ∀ (d k i : Nat), i + d = t.length → d < k →
    spec_SplitPiece.l0 k m ((zipP t m r).take i) t (t.length : Int) (i : Int) a b r = some (zipP t m r, true) := by
  intro d
  induction d with
  | zero =>
    intro k i hi hk
    obtain ⟨k, rfl⟩ := k_succ (by omega : 0 < k)
    simp only [spec_SplitPiece.l0]
    rw [if_neg (by omega), List.take_of_length_le (by rw [zipP_length]; omega)]
  | succ d ih =>
    intro k i hi hk
    obtain ⟨k, rfl⟩ := k_succ (by omega : 0 < k)
    have htk : (zipP t m r).take (i + 1) = (zipP t m r).take i ++ [⟨rd t (i : Int), rd m (i : Int), r⟩] := by
      rw [List.take_add_one, zipP_get t m r (by omega)]; rfl
    simp only [spec_SplitPiece.l0]
    rw [if_pos (by omega), if_pos (by omega), if_pos (by omega), if_pos (by omega), if_pos (by rw [List.length_take]; omega), w64_succ (by omega), ← htk]
    exact ih k (i + 1) (by omega) (by omega)
def splitOk (T M R : Int) (l : List Int) : Bool := pieceB T M R && decide (1 ≤ l.length ∧ l.length ≤ 20) && ((l.all fun x => decide (0 ≤ x ∧ x ≤ 100)) && decide (l.sum ≠ 0))
def splitV (T M R : Int) (l : List Int) : List S29 := zipP (sharesV T l) (if T > 0 then sharesV M (sharesV T l) else List.replicate l.length 0) R
def splitR (T M R : Int) (l : List Int) : List S29 × Bool := if splitOk T M R l = true then (splitV T M R l, true) else ([], false)
structure Spl (T M R : Int) (l : List Int) : Prop where
  pc : pieceB T M R = true
  l0 : 1 ≤ l.length
  l1 : l.length ≤ 20
  el : ∀ x ∈ l, 0 ≤ x ∧ x ≤ 100
  ne : l.sum ≠ 0
theorem splitOk_t {T M R : Int} {l : List Int} (h : splitOk T M R l = true) : Spl T M R l := by
  unfold splitOk at h
  simp only [Bool.and_eq_true, decide_eq_true_eq, List.all_eq_true] at h
  exact ⟨h.1.1, h.1.2.1, h.1.2.2, h.2.1, h.2.2⟩
theorem Spl.wt {T M R : Int} {l : List Int} (h : Spl T M R l) : Wts T l := by
  have hp := pieceB_t h.pc
  have hs := sum_nn l (fun x hx => (h.el x hx).1)
  have := h.ne
  exact ⟨hp.1, by omega, h.l1, fun x hx => by have := h.el x hx; omega, by omega⟩
theorem Spl.wm {T M R : Int} {l : List Int} (h : Spl T M R l) (hT : T > 0) : Wts M (sharesV T l) := by
  have hp := pieceB_t h.pc
  have hsh := h.wt.shares
  have := h.l1
  exact ⟨by omega, by omega, by omega, fun x hx => by have := hsh.2.2 x hx; omega, by omega⟩
theorem spec_SplitPiece_v (T M R : Int) (l : List Int) (hl : l.length ≤ 1048576) {k : Nat} (hk : 1048586 < k) : spec_SplitPiece.f k T M R l = some (splitR T M R l) := by
  obtain ⟨k, rfl⟩ : ∃ q, k = q + 2 := ⟨k - 2, by omega⟩
  unfold spec_SplitPiece.f splitR
  rw [spec_sbPiece_v]
  simp only [Option.bind_some, spec_l1In_v]
  by_cases hp : pieceB T M R = true
  · rw [if_pos hp]
    by_cases hn : 1 ≤ l.length ∧ l.length ≤ 20
    · rw [if_pos (by simp; omega), spec_l1All_v _ _ l (by omega) (by omega), Option.bind_some]
      by_cases ha : (l.all fun x => decide (0 ≤ x ∧ x ≤ 100)) = true
      · have hel : ∀ x ∈ l, 0 ≤ x ∧ x ≤ 100 := by simpa using ha
        rw [if_pos ha, spec_sbSum_v l (by omega) (fun x hx => by have := hel x hx; omega) (by omega), Option.bind_some]
        simp only [spec_SplitPiece.j0]
        by_cases hs : l.sum = 0
        · rw [if_pos (by simp [hs]), if_neg (by simp [splitOk, hs])]
        · have hok : splitOk T M R l = true := by simp only [splitOk, Bool.and_eq_true, decide_eq_true_eq]; exact ⟨⟨hp, hn⟩, ha, hs⟩
          have hsp := splitOk_t hok
          have hsh := hsp.wt.shares
          rw [if_neg (by simp [hs]), if_pos hok, spec_sbShares_v hsp.wt (by omega), Option.bind_some, if_pos (by omega), if_pos (by omega), show ((l.length : Int)).toNat = l.length by omega]
          unfold splitV
          by_cases hT : T > 0
          · have hsm := (hsp.wm hT).shares
            rw [if_pos hT, if_pos hT, spec_sbShares_v (hsp.wm hT) (by omega), Option.bind_some]
            simp only [spec_SplitPiece.j1]
            have := spec_SplitPiece_l0 (sharesV T l) (sharesV M (sharesV T l)) T M R (by omega) (by omega) (sharesV T l).length k 0 (by omega) (by omega)
            simpa using this
          · rw [if_neg hT, if_neg hT]
            simp only [spec_SplitPiece.j1]
            have := spec_SplitPiece_l0 (sharesV T l) (List.replicate l.length 0) T M R (by omega) (by simp; omega) (sharesV T l).length k 0 (by omega) (by omega)
            simpa using this
      · rw [if_neg ha]
        simp only [spec_SplitPiece.j0]
        rw [if_pos (by simp), if_neg (by simp only [splitOk, Bool.and_eq_true]; exact fun h => ha h.2.1)]
    · rw [if_neg (by simp; omega)]
      simp only [spec_SplitPiece.j0]
      rw [if_pos (by simp), if_neg (by simp only [splitOk, Bool.and_eq_true, decide_eq_true_eq]; exact fun h => hn h.1.2)]
  · rw [if_neg hp]
    simp only [spec_SplitPiece.j0]
    rw [if_pos (by simp), if_neg (by simp only [splitOk, Bool.and_eq_true]; exact fun h => hp h.1.1)]
theorem impl_SplitPiece_l0 {T M R : Int} {l : List Int} (hp : pieceB T M R = true) (hn : 1 ≤ l.length ∧ l.length ≤ 20) : ∀ (d k i : Nat), i + d = l.length → d + 1100 < k → (∀ x ∈ l.take i, 0 ≤ x ∧ x ≤ 100) →
    impl_SplitPiece.l0 k l (l.take i).sum l (l.length : Int) (i : Int) T M R = some (if ((l.drop i).all fun x => decide (0 ≤ x ∧ x ≤ 100)) = true ∧ l.sum ≠ 0 then (splitV T M R l, true) else ([], false)) := by
  intro d
  induction d with
  | zero =>
    intro k i hi hk he
    obtain ⟨k, rfl⟩ : ∃ q, k = q + 2 := ⟨k - 2, by omega⟩
    rw [List.take_of_length_le (by omega)] at he ⊢
    simp only [impl_SplitPiece.l0]
    rw [if_neg (by omega), List.drop_eq_nil_of_le (by omega)]
    by_cases hs : l.sum = 0
    · rw [if_pos hs, if_neg (by simp [hs])]
    · have hsp : Spl T M R l := ⟨hp, hn.1, hn.2, he, hs⟩
      have hsh := hsp.wt.shares
      rw [if_neg hs, if_pos (show 0 ≤ (l.length : Int) by omega), if_pos (by omega), if_pos (show (([] : List Int).all fun x => decide (0 ≤ x ∧ x ≤ 100)) = true ∧ l.sum ≠ 0 from ⟨rfl, hs⟩)]
      simp only [Option.bind_some]
      rw [impl_sharesOf_v hsp.wt (by omega), Option.bind_some, if_pos (by omega), show ((l.length : Int)).toNat = l.length by omega]
      unfold splitV
      by_cases hT : T > 0
      · have hsm := (hsp.wm hT).shares
        rw [if_pos hT, if_pos hT, impl_sharesOf_v (hsp.wm hT) (by omega), Option.bind_some]
        simp only [impl_SplitPiece.j2]
        have := impl_SplitPiece_l1 (sharesV T l) (sharesV M (sharesV T l)) T M R (by omega) (by omega) (sharesV T l).length k 0 (List.replicate l.length z29) (by omega) (by omega) (by simp; omega) (fun j hj => by omega)
        rw [hsh.1] at this
        simpa using this
      · rw [if_neg hT, if_neg hT]
        simp only [impl_SplitPiece.j2]
        have := impl_SplitPiece_l1 (sharesV T l) (List.replicate l.length 0) T M R (by omega) (by simp; omega) (sharesV T l).length k 0 (List.replicate l.length z29) (by omega) (by omega) (by simp; omega) (fun j hj => by omega)
        rw [hsh.1] at this
        simpa using this
  | succ d ih =>
    intro k i hi hk he
    obtain ⟨k, rfl⟩ := k_succ (by omega : 0 < k)
    have hb := (Pure.sum_le 100 (by omega) (l.take i) he)
    have hlt : (l.take i).length ≤ 20 := by rw [List.length_take]; omega
    simp only [impl_SplitPiece.l0]
    rw [if_pos (by omega), if_pos (by omega), if_pos (by omega), drop_rd (by omega : i < l.length), List.all_cons]
    by_cases h : 0 ≤ rd l (i : Int) ∧ rd l (i : Int) ≤ 100
    · rw [if_neg (by omega), if_neg (by omega), w64 (by omega) (by omega), w64_succ (by omega), ← sum_take_succ l (by omega), decide_eq_true h, Bool.true_and]
      refine ih k (i + 1) (by omega) (by omega) (fun x hx => ?_)
      rw [List.take_succ_eq_append_getElem (by omega), List.mem_append, List.mem_singleton] at hx
      rcases hx with hx | rfl
      · exact he x hx
      · rw [← rd_get (by omega)]; exact h
    · rw [if_neg (c := (_ ∧ _)) (by simp only [decide_eq_false h, Bool.false_and]; simp)]
      split
      · rfl
      · rw [if_pos (by omega)]
theorem impl_SplitPiece_v (T M R : Int) (l : List Int) {k : Nat} (hk : 1200 < k) : impl_SplitPiece.f k T M R l = some (splitR T M R l) := by
  obtain ⟨k, rfl⟩ := k_succ (by omega : 0 < k)
  unfold impl_SplitPiece.f splitR
  rw [impl_IsPiece_v]
  simp only [Option.bind_some, impl_SplitPiece.j0]
  by_cases hp : pieceB T M R = true
  · rw [if_pos hp]
    by_cases hn : 1 ≤ l.length ∧ l.length ≤ 20
    · rw [if_neg (by omega), if_neg (by simp; omega)]
      have := impl_SplitPiece_l0 hp hn l.length k 0 (by omega) (by omega) (fun x hx => by simp at hx)
      simp only [List.take_zero, List.sum_nil, List.drop_zero] at this
      refine (show _ = _ from this).trans ?_
      congr 1
      by_cases hc : (l.all fun x => decide (0 ≤ x ∧ x ≤ 100)) = true ∧ l.sum ≠ 0
      · rw [if_pos hc, if_pos (by simp only [splitOk, Bool.and_eq_true, decide_eq_true_eq]; exact ⟨⟨hp, hn⟩, hc⟩)]
      · rw [if_neg hc, if_neg (by simp only [splitOk, Bool.and_eq_true, decide_eq_true_eq]; exact fun h => hc h.2)]
    · rw [if_neg (c := splitOk T M R l = true) (by simp only [splitOk, Bool.and_eq_true, decide_eq_true_eq]; exact fun h => hn h.1.2)]
      split
      · rw [if_pos (by simp)]
      · rw [if_pos (by simp; omega)]
  · rw [if_neg hp, if_pos (by simp), if_neg (by simp only [splitOk, Bool.and_eq_true]; exact fun h => hp h.1.1)]
theorem least_d (a b : Int) : ∃ v, spec_l1Least.f a b = some v ∧ v ≤ a := by
  unfold spec_l1Least.f
  split
  · exact ⟨_, rfl, Int.le_refl _⟩
  · exact ⟨_, rfl, by omega⟩
theorem most_d (a b : Int) : ∃ v, spec_l1Most.f a b = some v ∧ (v = a ∨ v = b) := by
  unfold spec_l1Most.f
  split
  · exact ⟨_, rfl, .inl rfl⟩
  · exact ⟨_, rfl, .inr rfl⟩
theorem piece_j {s : List Int} (hs : Bytes s) (hl : s.length ≤ 9223372036854775807) (p st a b c : Int) (h0 : 0 ≤ p) (h1 : p ≤ 999990000) {k : Nat} (hk : 0 < k) :
    ∃ a' b' c' p' st', spec_l1Cur_piece.j0 k s p st a b c = some (a', b', c', p', st') ∧ p ≤ p' ∧ p' ≤ p + 4 := by
  obtain ⟨k, rfl⟩ := k_succ hk
  obtain ⟨v, p1, st1, e1, _, _, q0, q1⟩ := spec_l1Cur_pick_d hs hl p st 24 h0 (by omega) (by omega)
  rw [spec_l1Cur_piece.j0, e1, Option.bind_some]; dsimp only
  have am : ∀ l : List Int, 1 ≤ l.length → l.length ≤ 1000 → ∃ v p' st', spec_l1Cur_among.f s p1 st1 l = some (v, p', st') ∧ v ∈ l ∧ p1 ≤ p' ∧ p' ≤ p1 + 2 := fun l a b => spec_l1Cur_among_d hs hl p1 st1 l (by omega) (by omega) a b
  by_cases c0 : v = 0
  · rw [if_pos c0]
    obtain ⟨u, p2, st2, e2, _, r0, r1⟩ := am [(-1), 10001] (by simp) (by simp)
    rw [e2, Option.bind_some]; exact ⟨_, _, _, _, _, rfl, by dsimp only; omega, by dsimp only; omega⟩
  · rw [if_neg c0]
    by_cases c1 : v = 1
    · rw [if_pos c1]
      obtain ⟨u, p2, st2, e2, _, r0, r1⟩ := am [(-1), wrap64 (1000 * a), wrap64 ((wrap64 (1000 * a)) + 1)] (by simp) (by simp)
      rw [e2, Option.bind_some]; exact ⟨_, _, _, _, _, rfl, by dsimp only; omega, by dsimp only; omega⟩
    · rw [if_neg c1]
      by_cases c2 : v = 2
      · rw [if_pos c2]
        obtain ⟨u, p2, st2, e2, _, r0, r1⟩ := am [(-1), 4, 5] (by simp) (by simp)
        rw [e2, Option.bind_some]; exact ⟨_, _, _, _, _, rfl, by dsimp only; omega, by dsimp only; omega⟩
      · rw [if_neg c2]; exact ⟨_, _, _, _, _, rfl, by omega, by omega⟩
theorem piece_d {s : List Int} (hs : Bytes s) (hl : s.length ≤ 9223372036854775807) (p st : Int) (h0 : 0 ≤ p) (h1 : p ≤ 999980000) {k : Nat} (hk : 0 < k) :
    ∃ a b c p' st', spec_l1Cur_piece.f k s p st = some (a, b, c, p', st') ∧ p ≤ p' ∧ p' ≤ p + 20 := by
  unfold spec_l1Cur_piece.f
  obtain ⟨v1, p1, st1, e1, _, q1, q1'⟩ := spec_l1Cur_among_d hs hl p st [0, 1, 100, 500, 2500, 10000] h0 (by omega) (by simp) (by simp)
  rw [e1, Option.bind_some]; dsimp only
  obtain ⟨v2, p2, st2, e2, _, _, q2, q2'⟩ := spec_l1Cur_pick_d hs hl p1 st1 5 (by omega) (by omega) (by omega)
  rw [e2, Option.bind_some]; dsimp only
  obtain ⟨v3, p3, st3, e3, _, _, q3, q3'⟩ := spec_l1Cur_pick_d hs hl p2 st2 60 (by omega) (by omega) (by omega)
  rw [e3, Option.bind_some]; dsimp only
  obtain ⟨b, p4, st4, e4, q4, q4'⟩ := spec_l1Cur_one_d hs hl p3 st3 2 (by omega) (by omega) (by omega)
  rw [e4, Option.bind_some]; dsimp only
  by_cases c : b = true
  · rw [if_pos c]
    obtain ⟨u, e5, hu⟩ := least_d 60000 (wrap64 ((wrap64 (1000 * v1)) + 1))
    obtain ⟨u2, e6, hu2⟩ := most_d 1 u
    obtain ⟨v7, p7, st7, e7, _, _, q7, q7'⟩ := spec_l1Cur_pick_d hs hl p4 st4 u2 (by omega) (by omega) (by omega)
    rw [e5, Option.bind_some, e6, Option.bind_some, e7, Option.bind_some]; dsimp only
    obtain ⟨a', b', c', p', st', e, r0, r1⟩ := piece_j hs hl p7 st7 v1 v7 v2 (by omega) (by omega) hk
    exact ⟨a', b', c', p', st', e, by omega, by omega⟩
  · rw [if_neg c]
    obtain ⟨a', b', c', p', st', e, r0, r1⟩ := piece_j hs hl p4 st4 v1 (wrap64 (v1 * v3)) v2 (by omega) (by omega) hk
    exact ⟨a', b', c', p', st', e, by omega, by omega⟩
theorem DrawSplit_l {s : List Int} (hs : Bytes s) (hl : s.length ≤ 9223372036854775807) (n : Nat) (hn : n ≤ 30) : ∀ (d k : Nat) (p st : Int) (acc : List Int), acc.length + d = n → d + 3 < k → 0 ≤ p → p + 2 * (d : Int) ≤ 999970000 →
    ∃ a b c w, spec_DrawSplitPiece.l0 k acc (n : Int) s p st = some (a, b, c, w) ∧ w.length = n := by
  intro d
  induction d with
  | zero =>
    intro k p st acc ha hk h0 h1
    obtain ⟨k, rfl⟩ := k_succ (by omega : 0 < k)
    rw [spec_DrawSplitPiece.l0, if_neg (by omega)]
    have tail : ∀ (b : Bool) (p st : Int) (k : Nat), 0 ≤ p → p ≤ 999970010 → 1 < k → (b = true → 0 < acc.length) → ∃ a b' c w, spec_DrawSplitPiece.j2 k acc b s p st = some (a, b', c, w) ∧ w.length = n := by
      intro b p st k h0 h1 hk hb
      obtain ⟨k, rfl⟩ := k_succ (by omega : 0 < k)
      rw [spec_DrawSplitPiece.j2]
      by_cases c : b = true
      · have := hb c
        obtain ⟨v, p1, st1, e1, _, q0, q1⟩ := spec_l1Cur_among_d hs hl p st [(-1), 101] h0 (by omega) (by simp) (by simp)
        obtain ⟨a, b', c', p2, st2, e2, _, _⟩ := piece_d hs hl p1 st1 (by omega) (by omega) (by omega : 0 < k)
        rw [if_pos c, e1, Option.bind_some, if_pos (by omega)]; dsimp only
        rw [e2, Option.bind_some]
        exact ⟨_, _, _, _, rfl, by rw [List.length_set]; omega⟩
      · obtain ⟨a, b', c', p2, st2, e2, _, _⟩ := piece_d hs hl p st (by omega) (by omega) (by omega : 0 < k)
        rw [if_neg c, e2, Option.bind_some]
        exact ⟨_, _, _, _, rfl, by omega⟩
    by_cases c : (acc.length : Int) > 0
    · obtain ⟨b, p1, st1, e1, q0, q1⟩ := spec_l1Cur_one_d hs hl p st 20 h0 (by omega) (by omega)
      rw [if_pos c, e1, Option.bind_some]; dsimp only
      exact tail b p1 st1 k (by omega) (by omega) (by omega) (fun _ => by omega)
    · rw [if_neg c]
      exact tail false p st k h0 (by omega) (by omega) (fun h => by cases h)
  | succ d ih =>
    intro k p st acc ha hk h0 h1
    obtain ⟨k, rfl⟩ := k_succ (by omega : 0 < k)
    obtain ⟨v, p1, st1, e1, _, q0, q1⟩ := spec_l1Cur_among_d hs hl p st [0, 1, 1, 2, 3, 7, 100] h0 (by omega) (by simp) (by simp)
    rw [spec_DrawSplitPiece.l0, if_pos (by omega), e1, Option.bind_some, if_pos (by omega)]; dsimp only
    exact ih k p1 st1 (acc ++ [v]) (by simp; omega) (by omega) (by omega) (by omega)
theorem DrawSplit_d {s : List Int} (hs : Bytes s) (hl : s.length ≤ 9223372036854775807) {k : Nat} (hk : 50 < k) : ∃ a b c w, spec_DrawSplitPiece.f k s = some (a, b, c, w) ∧ w.length ≤ 30 := by
  unfold spec_DrawSplitPiece.f
  obtain ⟨v1, p1, st1, e1, v0, v1', q1, q1'⟩ := spec_l1Cur_pick_d hs hl 0 0 6 (by omega) (by omega) (by omega)
  rw [e1, Option.bind_some]; dsimp only
  obtain ⟨b, p2, st2, e2, q2, q2'⟩ := spec_l1Cur_one_d hs hl p1 st1 20 (by omega) (by omega) (by omega)
  rw [e2, Option.bind_some]; dsimp only
  obtain ⟨k, rfl⟩ := k_succ (by omega : 0 < k)
  by_cases c : b = true
  · rw [if_pos c]
    obtain ⟨v3, p3, st3, e3, hv, q3, q3'⟩ := spec_l1Cur_among_d hs hl p2 st2 [0, 20, 21] (by omega) (by omega) (by simp) (by simp)
    rw [e3, Option.bind_some, spec_DrawSplitPiece.j0]; dsimp only
    simp only [List.mem_cons, List.not_mem_nil, or_false] at hv
    obtain ⟨n, rfl⟩ : ∃ n : Nat, v3 = (n : Int) := ⟨v3.toNat, by omega⟩
    obtain ⟨a, b', c', w, e4, r0⟩ := DrawSplit_l hs hl n (by omega) n k p3 st3 [] (by simp) (by omega) (by omega) (by omega)
    exact ⟨a, b', c', w, e4, by omega⟩
  · rw [if_neg c, spec_DrawSplitPiece.j0, w64 (by omega) (by omega)]
    obtain ⟨n, hn⟩ : ∃ n : Nat, 1 + v1 = (n : Int) := ⟨(1 + v1).toNat, by omega⟩
    rw [hn]
    obtain ⟨a, b', c', w, e4, r0⟩ := DrawSplit_l hs hl n (by omega) n k p2 st2 [] (by simp) (by omega) (by omega) (by omega)
    exact ⟨a, b', c', w, e4, by omega⟩
theorem DrawRounded_d {s : List Int} (hs : Bytes s) (hl : s.length ≤ 9223372036854775807) {k : Nat} (hk : 50 < k) : ∃ a b c, spec_DrawRoundedGrade.f k s = some (a, b, c) := by
  unfold spec_DrawRoundedGrade.f spec_DrawIsPiece.f
  obtain ⟨a, b, c, p, st, e, _, _⟩ := piece_d hs hl 0 0 (by omega) (by omega) (by omega : 0 < k)
  rw [e, Option.bind_some, Option.bind_some]
  exact ⟨_, _, _, rfl⟩
theorem DrawPieceOf_d {s : List Int} (hs : Bytes s) (hl : s.length ≤ 9223372036854775807) {k : Nat} (hk : 700 < k) : ∃ X Y Z t g r i, spec_DrawPieceOf.f k s = some (X, Y, Z, t, g, r, i) := by
  unfold spec_DrawPieceOf.f
  obtain ⟨X, Y, Z, t, g, r, p, st, e, a1, a2, a3, q0, q1⟩ := spec_l1Cur_anyModel_d hs hl 0 0 (by omega) (by omega) (by omega : 200 < k)
  rw [e, Option.bind_some]; dsimp only
  rw [w64_succ (by omega)]
  obtain ⟨v1, p1, st1, e1, _, _, r0, r1⟩ := spec_l1Cur_pick_d hs hl p st ((t.length + 1 : Nat) : Int) (by omega) (by omega) (by omega)
  rw [e1, Option.bind_some]; dsimp only
  obtain ⟨v2, p2, st2, e2, _, _, _, _⟩ := spec_l1Cur_pick_d hs hl p1 st1 20 (by omega) (by omega) (by omega)
  rw [e2, Option.bind_some]
  exact ⟨_, _, _, _, _, _, _, rfl⟩
theorem qPieces_l (l : List S29) (hn : l.length ≤ 1048576) : ∀ (d k i : Nat), i + d = l.length → d < k → laws_qPieces.l0 k l l (l.length : Int) (i : Int) = some true := by
  intro d
  induction d with
  | zero =>
    intro k i hi hk
    obtain ⟨k, rfl⟩ := k_succ (by omega : 0 < k)
    rw [laws_qPieces.l0, if_neg (by omega)]
  | succ d ih =>
    intro k i hi hk
    obtain ⟨k, rfl⟩ := k_succ (by omega : 0 < k)
    rw [laws_qPieces.l0, if_pos (by omega), if_pos (by omega), if_pos (by omega), if_pos (by omega), if_neg (by simp), w64_succ (by omega)]
    exact ih k (i + 1) (by omega) (by omega)
theorem qPieces_v (l : List S29) (hn : l.length ≤ 1048576) {k : Nat} (hk : l.length < k) : laws_qPieces.f k l l = some true := by
  unfold laws_qPieces.f
  rw [if_pos rfl]
  exact qPieces_l l hn l.length k 0 (by omega) hk
theorem Metal_v {X Y Z : Int} {t g r : List Int} {i : Int} (h : modHas X Y Z t g r i = true) {k : Nat} (hk : 122 < k) : impl_MetalOf.f k X Y Z t g r i = some (rd t i * rd g i, true) := by
  obtain ⟨hm, h0, h1⟩ := modHas_t h
  have := hm.lg
  have hb := hm.rm h0 h1
  unfold impl_MetalOf.f
  rw [impl_IsModel_v X Y Z t g r hk, modelB_iff.2 hm, Option.bind_some, if_pos rfl, if_neg (by omega), if_neg (by omega), if_pos h0, if_pos h1, if_pos (by omega), w64 (by omega) (by omega)]
theorem round_mul {T G : Int} (hT : 0 < T) (hG : 0 ≤ G) : roundV T (T * G) = G := by
  unfold roundV
  rw [if_neg (by omega)]
  have e : 2 * (T * G) + T - 1 = (T - 1) + G * (2 * T) := by rw [← Int.mul_assoc 2 T G, Int.mul_comm (2 * T) G]; omega
  rw [e, Int.add_mul_ediv_right _ _ (by omega), Int.ediv_eq_zero_of_lt (by omega) (by omega)]; omega
theorem grade_law {T M R : Int} (h : (gradeR T M R).2.2 = true) : pieceB T M R = true ∧ ¬ wrap64 (2 * wrap64 (wrap64 (roundV T M * (gradeR T M R).2.1) - (gradeR T M R).1)) ≥ (gradeR T M R).2.1 ∧ ¬ wrap64 (2 * wrap64 ((gradeR T M R).1 - wrap64 (roundV T M * (gradeR T M R).2.1))) > (gradeR T M R).2.1 := by
  unfold gradeR at h ⊢
  by_cases c : pieceB T M R = true ∧ T ≠ 0
  · rw [if_pos c]
    obtain ⟨hp, hT⟩ := c
    obtain ⟨h1, h2, h3, h4, h5, h6⟩ := pieceB_t hp
    refine ⟨hp, ?_⟩
    dsimp only
    have hg : 0 < gcdI M T := by
      unfold gcdI
      have := Nat.gcd_pos_of_pos_right M.toNat (by omega : 0 < T.toNat)
      omega
    obtain ⟨t, ht⟩ : gcdI M T ∣ M := by
      unfold gcdI
      have := Int.ofNat_dvd.2 (Nat.gcd_dvd_left M.toNat T.toNat)
      rwa [Int.toNat_of_nonneg h3] at this
    obtain ⟨b, hb⟩ : gcdI M T ∣ T := by
      unfold gcdI
      have := Int.ofNat_dvd.2 (Nat.gcd_dvd_right M.toNat T.toNat)
      rwa [Int.toNat_of_nonneg h1] at this
    generalize hgg : gcdI M T = g at *
    have e1 : Int.tdiv M g = t := by rw [ht, Int.mul_tdiv_cancel_left _ (by omega)]
    have e2 : Int.tdiv T g = b := by rw [hb, Int.mul_tdiv_cancel_left _ (by omega)]
    rw [e1, e2]
    have t0 : 0 ≤ t := by
      by_cases c : 0 ≤ t
      · exact c
      · have := Int.mul_neg_of_pos_of_neg hg (by omega : t < 0); omega
    have b0 : 0 < b := by
      by_cases c : 0 < b
      · exact c
      · have := Int.mul_nonneg (by omega : 0 ≤ g) (by omega : 0 ≤ -b); rw [Int.mul_neg] at this; omega
    have t1 : t ≤ M := by have := Int.mul_le_mul_of_nonneg_right (by omega : 1 ≤ g) t0; omega
    have b1 : b ≤ T := by have := Int.mul_le_mul_of_nonneg_right (by omega : 1 ≤ g) (by omega : 0 ≤ b); omega
    have hr : roundV T M = (2 * M + T - 1) / (2 * T) := by unfold roundV; rw [if_neg hT]
    have r1 := Int.mul_ediv_add_emod (2 * M + T - 1) (2 * T)
    have r2 := Int.emod_nonneg (2 * M + T - 1) (by omega : 2 * T ≠ 0)
    have r3 := Int.emod_lt_of_pos (2 * M + T - 1) (by omega : 0 < 2 * T)
    rw [← hr] at r1
    generalize roundV T M = q at *
    have q0 : 0 ≤ q := by rw [hr]; exact Int.ediv_nonneg (by omega) (by omega)
    have q1 : q ≤ 20010000 := by rw [hr]; exact Int.le_trans (Int.ediv_le_self _ (by omega)) (by omega)
    have qb := mul_bd q0 q1 (by omega : 0 ≤ b) (by omega : b ≤ 10000)
    rw [w64 (x := t) (by omega) (by omega), w64 (x := b) (by omega) (by omega), w64 (x := q * b) (by omega) (by omega), w64 (x := q * b - t) (by omega) (by omega), w64 (x := t - q * b) (by omega) (by omega), w64 (by omega) (by omega), w64 (by omega) (by omega)]
    have e3 : 2 * T * q = g * (2 * (q * b)) := by rw [hb]; rw [Int.mul_comm q b, Int.mul_assoc 2, Int.mul_left_comm g 2, Int.mul_assoc g b q]
    have f1 : g * (2 * (q * b) - 2 * t) < g * b := by
      rw [Int.mul_sub, ← e3, Int.mul_left_comm g 2 t, ← ht, ← hb]; omega
    have f2 : g * (2 * t - 2 * (q * b)) ≤ g * b := by
      rw [Int.mul_sub, ← e3, Int.mul_left_comm g 2 t, ← ht, ← hb]; omega
    have f3 := Int.lt_of_mul_lt_mul_left f1 (by omega)
    have f4 := Int.le_of_mul_le_mul_left f2 hg
    omega
  · rw [if_neg c] at h; cases h
def posS : List Int → Int
  | [] => 0
  | x :: l => (if 0 < x then x else 0) + posS l
theorem posS_nn : ∀ l, 0 ≤ posS l
  | [] => by simp [posS]
  | x :: l => by
    have := posS_nn l
    unfold posS
    split <;> omega
theorem posS_of_nn : ∀ l : List Int, (∀ x ∈ l, 0 ≤ x) → posS l = l.sum
  | [], _ => rfl
  | x :: l, h => by
    have h1 := h x (by simp)
    rw [posS, posS_of_nn l (fun y hy => h y (by simp [hy])), List.sum_cons]
    split <;> omega
theorem posS_set : ∀ (l : List Int) (i : Nat), i < l.length → 0 < rd l (i : Int) → posS (l.set i (-1)) = posS l - rd l (i : Int)
  | [], i, h, _ => by simp at h
  | x :: l, 0, _, h => by
    have e : rd (x :: l) ((0 : Nat) : Int) = x := by rw [rd_nat]; rfl
    rw [e] at h ⊢
    rw [List.set_cons_zero, posS, posS, if_neg (by omega), if_pos h]; omega
  | x :: l, i + 1, hi, h => by
    have e : rd (x :: l) ((i + 1 : Nat) : Int) = rd l (i : Int) := by rw [rd_nat, rd_nat]; rfl
    rw [e] at h ⊢
    rw [List.set_cons_succ, posS, posS, posS_set l i (by simpa using hi) h]; omega
theorem posS_pos : ∀ l : List Int, 0 < posS l → ∃ j : Nat, j < l.length ∧ 0 < rd l (j : Int)
  | [], h => by simp [posS] at h
  | x :: l, h => by
    by_cases c : 0 < x
    · exact ⟨0, by simp, by rw [rd_nat]; exact c⟩
    · rw [posS, if_neg c] at h
      obtain ⟨j, hj, hp⟩ := posS_pos l (by omega)
      exact ⟨j + 1, by simpa using hj, by rw [rd_nat] at hp ⊢; exact hp⟩
theorem dist_cap (S : Int) (hS : 0 < S) (cap : Int → Int) : ∀ (m : Nat) (R out : List Int), R.length = out.length → (∀ j : Nat, j < R.length → rd R (j : Int) < S) → (m : Int) * S ≤ posS R →
    (∀ j : Nat, j < R.length → 0 < rd R (j : Int) → rd out (j : Int) + 1 ≤ cap (j : Int)) → (∀ j : Nat, j < R.length → rd out (j : Int) ≤ cap (j : Int)) → ∀ j : Nat, j < R.length → rd (distF R out m) (j : Int) ≤ cap (j : Int) := by
  intro m
  induction m with
  | zero => intro R out _ _ _ _ h j hj; exact h j hj
  | succ m ih =>
    intro R out hl hR hm h1 h2 j hj
    have hp := best_ok (R := R) (by omega)
    obtain ⟨b, hb⟩ : ∃ b : Nat, bestF R 0 0 R.length = (b : Int) := ⟨(bestF R 0 0 R.length).toNat, by omega⟩
    have hmax := bestF_max R R.length 0 0 (fun j hj => by omega)
    rw [hb] at hp hmax
    have hms : ((m + 1 : Nat) : Int) * S = (m : Int) * S + S := by rw [show ((m + 1 : Nat) : Int) = (m : Int) + 1 by omega, Int.add_mul, Int.one_mul]
    rw [hms] at hm
    have hm0 : 0 ≤ (m : Int) * S := Int.mul_nonneg (by omega) (by omega)
    obtain ⟨j', hj', hpj⟩ := posS_pos R (by omega)
    have hbp : 0 < rd R (b : Int) := by have := hmax j' (by omega); omega
    have hbl : b < R.length := by omega
    unfold distF
    rw [hb, Int.toNat_natCast]
    have hRs : ∀ i : Nat, i < R.length → rd (R.set b (-1)) (i : Int) = if (i : Int) = (b : Int) then -1 else rd R (i : Int) := fun i hi => rd_set (i : Int) (by omega) hbl
    have hOs : ∀ i : Nat, i < R.length → rd (out.set b (rd out (b : Int) + 1)) (i : Int) = if (i : Int) = (b : Int) then rd out (b : Int) + 1 else rd out (i : Int) := fun i hi => rd_set (i : Int) (by omega) (by omega)
    have hbb := hR b hbl
    refine ih (R.set b (-1)) (out.set b (rd out (b : Int) + 1)) (by simp; omega) (fun i hi => ?_) (by rw [posS_set R b hbl hbp]; omega) (fun i hi => ?_) (fun i hi => ?_) j (by simpa using hj)
    · rw [List.length_set] at hi
      rw [hRs i hi]
      split
      · omega
      · exact hR i hi
    · rw [List.length_set] at hi
      rw [hRs i hi, hOs i hi]
      by_cases c : (i : Int) = (b : Int)
      · rw [if_pos c]; intro h; omega
      · rw [if_neg c, if_neg c]; exact h1 i hi
    · rw [List.length_set] at hi
      rw [hOs i hi]
      by_cases c : (i : Int) = (b : Int)
      · rw [if_pos c, c]; exact h1 b hbl hbp
      · rw [if_neg c]; exact h2 i hi
theorem rd_map (f : Int → Int) {l : List Int} {j : Nat} (h : j < l.length) : rd (l.map f) (j : Int) = f (rd l (j : Int)) := by
  rw [rd_get (by rw [List.length_map]; exact h), List.getElem_map, rd_get h]
theorem shares_cap {W : Int} {l : List Int} (h : Wts W l) (C : Int) (hW : W ≤ C * l.sum) {j : Nat} (hj : j < l.length) : rd (sharesV W l) (j : Int) ≤ C * rd l (j : Int) := by
  have hp := h.pos
  have hlf := h.left
  have e := base_rem W l.sum l
  have e2 : (W - (baseL W l.sum l).sum) * l.sum = (remL W l.sum l).sum := by rw [Int.sub_mul]; omega
  have hnn : ∀ x ∈ remL W l.sum l, 0 ≤ x := fun x hx => by
    unfold remL at hx
    obtain ⟨w, hw, rfl⟩ := List.mem_map.1 hx
    exact (h.base hw).2.2.1
  have key : ∀ i : Nat, i < l.length → W * rd l (i : Int) / l.sum * l.sum + W * rd l (i : Int) % l.sum = W * rd l (i : Int) ∧ W * rd l (i : Int) ≤ C * rd l (i : Int) * l.sum ∧ 0 ≤ W * rd l (i : Int) % l.sum ∧ W * rd l (i : Int) % l.sum < l.sum := fun i hi => by
    have hw := rd_mem (l := l) (i := (i : Int)) (by omega) (by omega)
    have hb := h.base hw
    have h0 := (h.el _ hw).1
    have h2 := Int.mul_le_mul_of_nonneg_right hW h0
    rw [Int.mul_assoc, Int.mul_comm l.sum, ← Int.mul_assoc] at h2
    exact ⟨by rw [Int.mul_comm (W * rd l (i : Int) / l.sum)]; exact Int.mul_ediv_add_emod _ _, h2, hb.2.2.1, hb.2.2.2.1⟩
  have hR : ∀ i : Nat, i < l.length → rd (remL W l.sum l) (i : Int) = W * rd l (i : Int) % l.sum := fun i hi => rd_map (fun w => W * w % l.sum) hi
  have hB : ∀ i : Nat, i < l.length → rd (baseL W l.sum l) (i : Int) = W * rd l (i : Int) / l.sum := fun i hi => rd_map (fun w => W * w / l.sum) hi
  unfold sharesV
  refine dist_cap l.sum hp (fun i => C * rd l i) _ _ _ (by rw [remL_len, baseL_len]) (fun i hi => ?_) ?_ (fun i hi => ?_) (fun i hi => ?_) j (by rw [remL_len]; exact hj)
  · rw [remL_len] at hi
    rw [hR i hi]; exact (key i hi).2.2.2
  · rw [posS_of_nn _ hnn, ← e2, show (((W - (baseL W l.sum l).sum).toNat : Nat) : Int) = W - (baseL W l.sum l).sum by omega]; exact Int.le_refl _
  · rw [remL_len] at hi
    rw [hR i hi, hB i hi]
    intro hr
    obtain ⟨k1, k2, k3, k4⟩ := key i hi
    have : W * rd l (i : Int) / l.sum * l.sum < C * rd l (i : Int) * l.sum := by omega
    have := Int.lt_of_mul_lt_mul_right this (by omega)
    show _ ≤ C * rd l (i : Int)
    omega
  · rw [remL_len] at hi
    rw [hB i hi]
    obtain ⟨k1, k2, k3, k4⟩ := key i hi
    have : W * rd l (i : Int) / l.sum * l.sum ≤ C * rd l (i : Int) * l.sum := by omega
    exact Int.le_of_mul_le_mul_right this hp
structure Fit (T M R : Int) (A B : List Int) : Prop where
  la : A.length ≤ 20
  l1 : 1 ≤ A.length
  lb : B.length = A.length
  pc : ∀ i : Nat, i < A.length → pieceB (rd A (i : Int)) (rd B (i : Int)) R = true
  sa : A.sum = T
  sb : B.sum = M
theorem replicate_sum : ∀ n : Nat, (List.replicate n (0 : Int)).sum = 0
  | 0 => rfl
  | n + 1 => by rw [List.replicate_succ, List.sum_cons, replicate_sum n]; rfl
theorem rd_replicate (n : Nat) (i : Int) : rd (List.replicate n (0 : Int)) i = 0 := by
  unfold rd
  rw [List.getD_eq_getElem?_getD, List.getElem?_replicate]
  split <;> rfl
theorem Spl.fit {T M R : Int} {l : List Int} (h : Spl T M R l) : Fit T M R (sharesV T l) (if T > 0 then sharesV M (sharesV T l) else List.replicate l.length 0) := by
  have hp := pieceB_t h.pc
  obtain ⟨p1, p2, p3, p4, p5, p6⟩ := hp
  have hs := h.wt.shares
  have h0 := h.l0
  have h1 := h.l1
  refine ⟨by omega, by omega, ?_, fun i hi => ?_, hs.2.1, ?_⟩
  · by_cases c : T > 0
    · rw [if_pos c, (h.wm c).shares.1]
    · rw [if_neg c, List.length_replicate]; exact hs.1.symm
  · have ha := hs.2.2 _ (rd_mem (l := sharesV T l) (i := (i : Int)) (by omega) (by omega))
    by_cases c : T > 0
    · rw [if_pos c]
      have hm := (h.wm c).shares
      have hb := hm.2.2 _ (rd_mem (l := sharesV M (sharesV T l)) (i := (i : Int)) (by omega) (by omega))
      have hc := shares_cap (h.wm c) 1000 (by rw [hs.2.1]; exact p4) hi
      exact decide_eq_true ⟨ha.1, by omega, hb.1, hc, p5, p6⟩
    · rw [if_neg c, rd_replicate]
      exact decide_eq_true ⟨ha.1, by omega, by omega, by omega, p5, p6⟩
  · by_cases c : T > 0
    · rw [if_pos c]; exact (h.wm c).shares.2.1
    · rw [if_neg c, replicate_sum]; omega
theorem zipP_rd (t m : List Int) (r : Int) {i : Nat} (h : i < t.length) : rd_T29 (zipP t m r) (i : Int) = ⟨rd t (i : Int), rd m (i : Int), r⟩ := by
  unfold rd_T29
  rw [Int.toNat_natCast, List.getD_eq_getElem?_getD, zipP_get t m r h]; rfl
theorem pieces_all {T M R : Int} {A B : List Int} (h : Fit T M R A B) : ∀ (d k i : Nat), i + d = (zipP A B R).length → d < k → impl_arePieces.l0 k (zipP A B R) ((zipP A B R).length : Int) (i : Int) = some true := by
  have hl := zipP_length A B R
  have := h.la
  intro d
  induction d with
  | zero =>
    intro k i hi hk
    obtain ⟨k, rfl⟩ := k_succ (by omega : 0 < k)
    rw [impl_arePieces.l0, if_neg (by omega)]
  | succ d ih =>
    intro k i hi hk
    obtain ⟨k, rfl⟩ := k_succ (by omega : 0 < k)
    have hp := h.pc i (by omega)
    rw [impl_arePieces.l0, if_pos (by omega), if_pos (by omega), if_pos (by omega), zipP_rd A B R (by omega), impl_IsPiece_v, hp, Option.bind_some, if_pos rfl, w64_succ (by omega)]
    exact ih k (i + 1) (by omega) (by omega)
theorem arePieces_fit {T M R : Int} {A B : List Int} (h : Fit T M R A B) {k : Nat} (hk : 40 < k) : impl_arePieces.f k (zipP A B R) = some true := by
  have hl := zipP_length A B R
  have := h.la
  have := h.l1
  obtain ⟨k, rfl⟩ := k_succ (by omega : 0 < k)
  unfold impl_arePieces.f
  rw [if_neg (by omega), impl_arePieces.j0, decide_eq_false (by omega), if_neg (by decide)]
  exact pieces_all h (zipP A B R).length k 0 (by omega) (by omega)
theorem join_l1 (T M R : Int) (x : List Int) (hT : T ≤ 10000) (hR0 : 0 ≤ R) (hR : R ≤ 4) (hx : ∀ j : Int, 0 ≤ j → j < 5 → rd x j = if j = R then T else 0) (hp : 0 < T) : ∀ (d k : Nat) (i b : Int), i + (d : Int) = 5 → 0 ≤ i → d < k → 0 ≤ b → b < 5 → (R < i → b = R) → (¬ R < i → b = 0) →
    impl_joinPieces.l1 k x i T M b = some (T, M, R, true) := by
  intro d
  induction d with
  | zero =>
    intro k i b hi h0 hk b0 b1 h2 h3
    obtain ⟨k, rfl⟩ := k_succ (by omega : 0 < k)
    rw [impl_joinPieces.l1, if_neg (by omega), if_neg (by omega), h2 (by omega)]
  | succ d ih =>
    intro k i b hi h0 hk b0 b1 h2 h3
    obtain ⟨k, rfl⟩ := k_succ (by omega : 0 < k)
    rw [impl_joinPieces.l1, if_pos (by omega), if_pos h0, if_pos b0, if_pos b1, hx i h0 (by omega), hx b b0 b1, w64 (by omega) (by omega)]
    by_cases c : i = R
    · rw [if_pos c]
      by_cases e : b = R
      · rw [if_pos e, if_neg (by omega)]
        exact ih k (i + 1) b (by omega) (by omega) (by omega) b0 b1 (fun _ => e) (fun h => by omega)
      · rw [if_neg e, if_pos hp]
        exact ih k (i + 1) i (by omega) (by omega) (by omega) h0 (by omega) (fun _ => c) (fun h => by omega)
    · rw [if_neg c]
      have nn : ¬ (0 : Int) > if b = R then T else 0 := by split <;> omega
      rw [if_neg nn]
      exact ih k (i + 1) b (by omega) (by omega) (by omega) b0 b1 (fun h => h2 (by omega)) (fun h => h3 (by omega))
theorem join_l1z (M : Int) (x : List Int) (hx : ∀ j : Int, 0 ≤ j → j < 5 → rd x j = 0) : ∀ (d k : Nat) (i : Int), i + (d : Int) = 5 → 0 ≤ i → d < k →
    impl_joinPieces.l1 k x i 0 M 0 = some (0, M, 0, true) := by
  intro d
  induction d with
  | zero =>
    intro k i hi h0 hk
    obtain ⟨k, rfl⟩ := k_succ (by omega : 0 < k)
    rw [impl_joinPieces.l1, if_neg (by omega), if_neg (by omega)]
  | succ d ih =>
    intro k i hi h0 hk
    obtain ⟨k, rfl⟩ := k_succ (by omega : 0 < k)
    rw [impl_joinPieces.l1, if_pos (by omega), if_pos h0, if_pos (by omega), if_pos (by omega), hx i h0 (by omega), hx 0 (by omega) (by omega), if_neg (by omega), w64 (by omega) (by omega)]
    exact ih k (i + 1) (by omega) (by omega) (by omega)
theorem Fit.tk {T M R : Int} {A B : List Int} (h : Fit T M R A B) (hT : T ≤ 10000) (hM : M ≤ 10000000) (i : Nat) (hi : i ≤ A.length) : (0 ≤ (A.take i).sum ∧ (A.take i).sum ≤ T) ∧ (0 ≤ (B.take i).sum ∧ (B.take i).sum ≤ M) := by
  have ha : ∀ x ∈ A, 0 ≤ x := fun x hx => by
    obtain ⟨j, hj, rfl⟩ := List.getElem_of_mem hx
    have := pieceB_t (h.pc j hj)
    rw [rd_get hj] at this; omega
  have hb : ∀ x ∈ B, 0 ≤ x := fun x hx => by
    obtain ⟨j, hj, rfl⟩ := List.getElem_of_mem hx
    have := pieceB_t (h.pc j (by have := h.lb; omega))
    rw [rd_get hj] at this; omega
  have h1 := sum_take_le A i ha
  have h2 := sum_take_le B i hb
  rw [h.sa] at h1
  rw [h.sb] at h2
  exact ⟨h1, h2⟩
theorem join_l0 {T M R : Int} {A B : List Int} (h : Fit T M R A B) (hT : T ≤ 10000) (hM : M ≤ 10000000) (hR0 : 0 ≤ R) (hR : R ≤ 4) : ∀ (d k i : Nat) (x : List Int), i + d = A.length → d + 10 < k → x.length = 5 → (∀ j : Int, 0 ≤ j → j < 5 → rd x j = if j = R then (A.take i).sum else 0) →
    ∃ q, impl_joinPieces.l0 k x (zipP A B R) ((zipP A B R).length : Int) (i : Int) (A.take i).sum (B.take i).sum 0 = some (T, M, q, true) ∧ (0 < T → q = R) := by
  have hl := zipP_length A B R
  have hla := h.la
  have hlb := h.lb
  intro d
  induction d with
  | zero =>
    intro k i x hi hk hx hj
    obtain ⟨k, rfl⟩ := k_succ (by omega : 0 < k)
    have e1 : (A.take i).sum = T := by rw [List.take_of_length_le (by omega), h.sa]
    have e2 : (B.take i).sum = M := by rw [List.take_of_length_le (by omega), h.sb]
    have ht := (h.tk hT hM i (by omega)).1
    rw [impl_joinPieces.l0, if_neg (by omega), e1, e2]
    rw [e1] at hj ht
    by_cases c : 0 < T
    · exact ⟨R, join_l1 T M R x hT hR0 hR hj c 5 k 0 0 (by omega) (by omega) (by omega) (by omega) (by omega) (fun h => by omega) (fun _ => rfl), fun _ => rfl⟩
    · obtain rfl : T = 0 := by omega
      exact ⟨0, join_l1z M x (fun j h0 h1 => by rw [hj j h0 h1]; split <;> rfl) 5 k 0 (by omega) (by omega) (by omega), fun h => by omega⟩
  | succ d ih =>
    intro k i x hi hk hx hj
    obtain ⟨k, rfl⟩ := k_succ (by omega : 0 < k)
    have ht := h.tk hT hM i (by omega)
    have ht2 := h.tk hT hM (i + 1) (by omega)
    rw [sum_take_succ A (by omega), sum_take_succ B (by omega)] at ht2
    have hxR := hj R hR0 (by omega)
    rw [if_pos rfl] at hxR
    rw [impl_joinPieces.l0, if_pos (by omega), if_pos (by omega), if_pos (by omega), zipP_rd A B R (by omega)]
    dsimp only
    rw [if_pos hR0, if_pos (by omega), hxR, w64 (x := (A.take i).sum + rd A (i : Int)) (by omega) (by omega), w64 (x := (B.take i).sum + rd B (i : Int)) (by omega) (by omega), w64_succ (by omega)]
    obtain ⟨q, e, hq⟩ := ih k (i + 1) (x.set R.toNat ((A.take i).sum + rd A (i : Int))) (by omega) (by omega) (by rw [List.length_set]; exact hx) (fun j h0 h1 => by
      rw [rd_set j h0 (by omega), show ((R.toNat : Nat) : Int) = R by omega, sum_take_succ A (by omega)]
      by_cases c : j = R
      · rw [if_pos c, if_pos c]
      · rw [if_neg c, if_neg c, hj j h0 h1, if_neg c])
    rw [sum_take_succ A (by omega), sum_take_succ B (by omega)] at e
    exact ⟨q, e, hq⟩
theorem Join_v {T M R : Int} {A B : List Int} (h : Fit T M R A B) (hp : pieceB T M R = true) {k : Nat} (hk : 60 < k) : ∃ q, impl_JoinPieces.f k (zipP A B R) = some (T, M, q, true) ∧ (0 < T → q = R) := by
  obtain ⟨p1, p2, p3, p4, p5, p6⟩ := pieceB_t hp
  have := h.la
  obtain ⟨q, e, hq⟩ := join_l0 h p2 (by omega) p5 p6 A.length k 0 (List.replicate 5 0) (by omega) (by omega) (by simp) (fun j h0 h1 => by
    rw [rd_replicate]
    split <;> simp)
  rw [List.take_zero, List.take_zero] at e
  refine ⟨q, ?_, hq⟩
  unfold impl_JoinPieces.f impl_joinPieces.f
  rw [arePieces_fit h (by omega), Option.bind_some, if_pos rfl]
  have e2 : impl_joinPieces.l0 k (List.replicate 5 0) (zipP A B R) ((zipP A B R).length : Int) 0 0 0 0 = some (T, M, q, true) := e
  rw [e2]; rfl
theorem want_l {T M R : Int} {A B : List Int} (h : Fit T M R A B) (hp : pieceB T M R = true) (w : List Int) (hw : w.length = A.length) : ∀ (d k i : Nat), i + d = A.length → d + 70 < k →
    laws_FnPieces.l0 k w (zipP A B R) (zipP A B R) (A.take i).sum (B.take i).sum (zipP A B R) ((zipP A B R).length : Int) (i : Int) T M R = some true := by
  obtain ⟨p1, p2, p3, p4, p5, p6⟩ := pieceB_t hp
  have hl := zipP_length A B R
  have hla := h.la
  have hlb := h.lb
  intro d
  induction d with
  | zero =>
    intro k i hi hk
    obtain ⟨k, rfl⟩ := k_succ (by omega : 0 < k)
    have e1 : (A.take i).sum = T := by rw [List.take_of_length_le (by omega), h.sa]
    have e2 : (B.take i).sum = M := by rw [List.take_of_length_le (by omega), h.sb]
    obtain ⟨q, e, hq⟩ := Join_v h hp (by omega : 60 < k)
    rw [laws_FnPieces.l0, if_neg (by omega), e, Option.bind_some, if_pos e1, if_pos e2, if_pos rfl]
    dsimp only
    rw [hl, hw, beq_self_eq_true, beq_self_eq_true, beq_self_eq_true]
    by_cases c : 0 < T
    · rw [hq c, beq_self_eq_true, if_pos (by rfl)]
    · rw [if_pos (show T = 0 by omega)]
      split <;> rfl
  | succ d ih =>
    intro k i hi hk
    obtain ⟨k, rfl⟩ := k_succ (by omega : 0 < k)
    have ht := h.tk p2 (by omega) i (by omega)
    have ht2 := h.tk p2 (by omega) (i + 1) (by omega)
    have hpi := h.pc i (by omega)
    rw [sum_take_succ A (by omega), sum_take_succ B (by omega)] at ht2
    have := ih k (i + 1) (by omega) (by omega)
    rw [sum_take_succ A (by omega), sum_take_succ B (by omega)] at this
    rw [laws_FnPieces.l0, if_pos (by omega), if_pos (by omega), if_pos (by omega), zipP_rd A B R (by omega)]
    dsimp only
    rw [impl_IsPiece_v, hpi, Option.bind_some, if_pos rfl, w64 (x := (A.take i).sum + rd A (i : Int)) (by omega) (by omega), w64 (x := (B.take i).sum + rd B (i : Int)) (by omega) (by omega), w64_succ (by omega)]
    exact this
theorem end_pieces (T M R : Int) (w : List Int) {k : Nat} (hk : 200 < k) : laws_FnPieces.j2 k w (splitR T M R w).1 (splitR T M R w).2 (splitR T M R w).1 T M R = some true := by
  obtain ⟨k, rfl⟩ := k_succ (by omega : 0 < k)
  rw [laws_FnPieces.j2]
  unfold splitR
  by_cases h : splitOk T M R w = true
  · have hs := splitOk_t h
    have hf := hs.fit
    have hlw := hs.wt.shares.1
    have hla := hf.la
    rw [if_pos h, if_pos rfl]
    exact want_l hf hs.pc w hlw.symm _ k 0 (Nat.zero_add _) (by omega)
  · rw [if_neg h, if_neg (by decide)]
theorem splitR_le (T M R : Int) (l : List Int) : (splitR T M R l).1.length ≤ 20 := by
  unfold splitR
  split
  · rename_i h
    have hs := splitOk_t h
    have := hs.wt.shares.1
    have := hs.l1
    show (splitV T M R l).length ≤ 20
    unfold splitV
    rw [zipP_length]; omega
  · simp
theorem pure_FnPieces (a b : List Int) (ha : a.length ≤ maxLen) (wa : ∀ x ∈ a, (Lit.int .u8 x).wf = true) (hb : b.length ≤ maxLen) (wb : ∀ x ∈ b, (Lit.int .u8 x).wf = true) : ∃ k, laws_FnPieces.f k a b = some true := by
  obtain ⟨K, hK⟩ : ∃ K : Nat, 1060000 < K := ⟨_, Nat.lt_succ_self _⟩
  refine ⟨K, ?_⟩
  unfold laws_FnPieces.f
  have ha : a.length ≤ 9223372036854775807 := ha
  have hb : b.length ≤ 9223372036854775807 := hb
  by_cases hab : wrap64 ((a.length : Int) + (b.length : Int)) > 1048576
  · rw [if_pos hab]
  · rw [if_neg hab]
    have hA := bytes_of_wf wa
    have hB := bytes_of_wf wb
    obtain ⟨T, M, R, w, e1, hw⟩ := DrawSplit_d hA ha (by omega : 50 < K)
    obtain ⟨T2, M2, R2, e2⟩ := DrawRounded_d hB hb (by omega : 50 < K)
    obtain ⟨X, Y, Z, t, g, r, i, e3⟩ := DrawPieceOf_d hB hb (by omega : 700 < K)
    have hsl := splitR_le T M R w
    rw [e1, Option.bind_some]; dsimp only
    rw [impl_SplitPiece_v _ _ _ _ (by omega), Option.bind_some, spec_SplitPiece_v _ _ _ _ (by omega) (by omega), Option.bind_some, e2, Option.bind_some]
    dsimp only
    rw [impl_RoundedGrade_v, Option.bind_some, spec_RoundedGrade_v, Option.bind_some, impl_PieceGrade_v _ _ _ (by omega), Option.bind_some, spec_PieceGrade_v _ _ _ (by omega), Option.bind_some, e3, Option.bind_some]
    dsimp only
    rw [impl_PieceOf_v _ _ _ _ _ _ _ (by omega), Option.bind_some, spec_PieceOf_v _ _ _ _ _ _ _ (by omega), Option.bind_some]
    simp only [bne_self_eq_false, beq_self_eq_true, Bool.not_true, Bool.or_self, Bool.false_eq_true, if_false]
    rw [qPieces_v _ (by omega) (by omega), Option.bind_some, if_pos rfl, if_pos trivial, if_pos trivial, if_pos trivial, impl_IsPiece_v, Option.bind_some]
    unfold spec_IsPiece.f
    rw [spec_sbPiece_v, Option.bind_some, Option.bind_some, bne_self_eq_false]
    obtain ⟨K, rfl⟩ := k_succ (by omega : 0 < K)
    rw [laws_FnPieces.j0, if_neg (by decide)]
    have hj1 : ∀ k, 1000 < k → laws_FnPieces.j1 k w (splitR T M R w).1 (splitR T M R w).2 (splitR T M R w).1 i (pieceOfR X Y Z t g r i).2.2.2 false T M R X Y Z t g r (pieceOfR X Y Z t g r i).1 (pieceOfR X Y Z t g r i).2.1 (pieceOfR X Y Z t g r i).2.2.1 (pieceOfR X Y Z t g r i).1 (pieceOfR X Y Z t g r i).2.1 (pieceOfR X Y Z t g r i).2.2.1 = some true := by
      intro k hk
      obtain ⟨k, rfl⟩ := k_succ (by omega : 0 < k)
      have he := end_pieces T M R w (by omega : 200 < k)
      rw [laws_FnPieces.j1, if_neg (by decide)]
      unfold pieceOfR
      by_cases c : modHas X Y Z t g r i = true
      · obtain ⟨hm, h0, h1⟩ := modHas_t c
        have hlg := hm.lg
        have a1 := hm.rt h0 h1; have a2 := hm.rg h0 h1; have a3 := hm.rr h0 h1; have a4 := hm.rm h0 h1
        have e : rd t i * rd g i ≤ rd t i * 1000 := Int.mul_le_mul_of_nonneg_left a2.2 a1.1
        have hp : pieceB (rd t i) (rd t i * rd g i) (rd r i) = true := decide_eq_true ⟨a1.1, a1.2, a4.1, by omega, a3.1, a3.2⟩
        rw [if_pos c]; dsimp only
        rw [if_pos rfl, Metal_v c (by omega), Option.bind_some, impl_RoundedGrade_v, if_pos hp, Option.bind_some]
        dsimp only
        rw [if_pos rfl, if_pos rfl, if_pos rfl]
        by_cases d : rd t i > 0
        · rw [if_pos d, if_pos h0, if_pos (by omega), if_pos (round_mul d a2.1)]; exact he
        · rw [if_neg d]; exact he
      · rw [if_neg c]; dsimp only
        rw [if_neg (by decide)]; exact he
    by_cases c : (gradeR T2 M2 R2).2.2 = true
    · obtain ⟨hp, g1, g2⟩ := grade_law c
      rw [if_pos c, if_pos hp]
      dsimp only
      rw [if_neg g1, decide_eq_false g2]
      exact hj1 K (by omega)
    · rw [if_neg c]
      exact hj1 K (by omega)
theorem W0 : wrap64 (0 + 1) = 1 := w64 (by decide) (by decide)
theorem W1 : wrap64 (1 + 1) = 2 := w64 (by decide) (by decide)
theorem W2 : wrap64 (2 + 1) = 3 := w64 (by decide) (by decide)
theorem W3 : wrap64 (3 + 1) = 4 := w64 (by decide) (by decide)

end Go.Proofs.Ytceajigggcihnaa.Pure
