/- What the printed Lean functions behind FnExactPieceGrade come to, and from that the pure statement of FnExactPieceGrade: it answers true. No condition beyond those that the given statement itself has. -/
import Derived.Test.YtfbgdfdeaffodaaPFnExactPieceGradex1
import Derived.Lib.SmallJoins
namespace Go.Proofs.Ytfbgdfdeaffodaa.Pure
open Go.RowKit Go.Proofs.Ytfbgdfdeaffodaa.PFnExactPieceGrade Go.Proofs.YtfbgdfdeaffodaaW.PrintWords Go.Proofs.YtfbgdfdeaffodaaW.PrintLast Go.Proofs.YtfbgdfdeaffodaaW.PrintMore
set_option linter.unusedVariables false
set_option linter.unusedSimpArgs false

theorem w64 {x : Int} (h1 : -9223372036854775808 ≤ x) (h2 : x ≤ 9223372036854775807) : wrap64 x = x := by unfold wrap64; omega
theorem wf_i64 {x : Int} (h : (Lit.int .i64 x).wf = true) : -9223372036854775808 ≤ x ∧ x ≤ 9223372036854775807 := Go.Joins.in64_of_wf h
theorem mul_bd {a b A B : Int} (ha : 0 ≤ a) (hA : a ≤ A) (hb : 0 ≤ b) (hB : b ≤ B) : 0 ≤ a * b ∧ a * b ≤ A * B :=
  ⟨Int.mul_nonneg ha hb, Int.mul_le_mul hA hB hb (by omega)⟩
theorem rd_nat (l : List Int) (i : Nat) : rd l (i : Int) = l.getD i 0 := by simp [rd]
theorem rd_get {l : List Int} {i : Nat} (h : i < l.length) : rd l (i : Int) = l[i] := by rw [rd_nat, List.getD_eq_getElem?_getD, List.getElem?_eq_getElem h]; rfl
theorem drop_rd {l : List Int} {i : Nat} (h : i < l.length) : l.drop i = rd l (i : Int) :: l.drop (i + 1) := by
  rw [rd_get h]; exact List.drop_eq_getElem_cons h
theorem w64_succ {i : Nat} (h : i < 9223372036854775807) : wrap64 ((i : Int) + 1) = ((i + 1 : Nat) : Int) := by rw [w64 (by omega) (by omega)]; omega
theorem k_succ {k : Nat} (h : 0 < k) : ∃ m, k = m + 1 := ⟨k - 1, by omega⟩
/-- from some number of rounds on -/
theorem Ev.use {α : Type} {g : Nat → Option α} {r : α} (h : Ev g r) : ∃ K, ∀ k, K ≤ k → g k = some r := h
theorem spec_l1In_v (a lo hi : Int) : spec_l1In.f a lo hi = some (decide (lo ≤ a ∧ a ≤ hi)) := by
  unfold spec_l1In.f
  split
  · congr 1; rw [decide_eq_decide]; omega
  · congr 1; symm; rw [decide_eq_false_iff_not]; omega
def gridB (X Y Z : Int) : Bool := decide (1 ≤ X ∧ X ≤ 8 ∧ 1 ≤ Y ∧ Y ≤ 6 ∧ 1 ≤ Z ∧ Z ≤ 5 ∧ X * Y * Z ≤ 120)
theorem gridB_t {X Y Z : Int} (h : gridB X Y Z = true) : 1 ≤ X ∧ X ≤ 8 ∧ 1 ≤ Y ∧ Y ≤ 6 ∧ 1 ≤ Z ∧ Z ≤ 5 ∧ X * Y * Z ≤ 120 := of_decide_eq_true h
theorem wrapXYZ {X Y Z : Int} (h1 : 1 ≤ X) (h2 : X ≤ 8) (h3 : 1 ≤ Y) (h4 : Y ≤ 6) (h5 : 1 ≤ Z) (h6 : Z ≤ 5) : wrap64 (wrap64 (X * Y) * Z) = X * Y * Z := by
  have a := mul_bd (by omega : 0 ≤ X) h2 (by omega : 0 ≤ Y) h4
  have b := mul_bd a.1 a.2 (by omega : 0 ≤ Z) h6
  rw [w64 (by omega) (by omega) (x := X * Y), w64 (by omega) (by omega)]
theorem grid_pos {X Y Z : Int} (h : gridB X Y Z = true) : 1 ≤ X * Y * Z ∧ X * Y * Z ≤ 120 := by
  obtain ⟨h1, h2, h3, h4, h5, h6, h7⟩ := gridB_t h
  have a : 0 < X * Y := Int.mul_pos (by omega) (by omega)
  have b : 0 < X * Y * Z := Int.mul_pos a (by omega)
  omega
def hasB (X Y Z i : Int) : Bool := gridB X Y Z && decide (0 ≤ i ∧ i < X * Y * Z)
theorem hasB_t {X Y Z i : Int} (h : hasB X Y Z i = true) : gridB X Y Z = true ∧ 0 ≤ i ∧ i < X * Y * Z := by
  unfold hasB at h; rw [Bool.and_eq_true, decide_eq_true_eq] at h; exact h
theorem at_w {X Y x y z : Int} (hX : 0 ≤ X) (hX' : X ≤ 8) (hY : 0 ≤ Y) (hY' : Y ≤ 6) (hx : 0 ≤ x) (hx' : x ≤ 8) (hy : 0 ≤ y) (hy' : y ≤ 6) (hz : 0 ≤ z) (hz' : z ≤ 5) :
    wrap64 (wrap64 (wrap64 (wrap64 (z * Y) + y) * X) + x) = (z * Y + y) * X + x ∧ 0 ≤ (z * Y + y) * X + x := by
  have a := mul_bd hz hz' hY hY'
  have b := mul_bd (by omega : 0 ≤ z * Y + y) (by omega : z * Y + y ≤ 36) hX hX'
  rw [w64 (by omega) (by omega) (x := z * Y), w64 (by omega) (by omega) (x := z * Y + y), w64 (by omega) (by omega) (x := (z * Y + y) * X), w64 (by omega) (by omega)]
  exact ⟨rfl, by omega⟩
def inB (X Y Z x y z : Int) : Bool := decide (0 ≤ x ∧ x < X ∧ 0 ≤ y ∧ y < Y ∧ 0 ≤ z ∧ z < Z)
theorem tdiv_nn {a b : Int} (h : 0 ≤ a) : Int.tdiv a b = a / b := Int.tdiv_eq_ediv_of_nonneg h
theorem tmod_nn {a b : Int} (h : 0 ≤ a) : Int.tmod a b = a % b := Int.tmod_eq_emod_of_nonneg h
theorem place_bd {X Y Z i : Int} (h : hasB X Y Z i = true) : (0 ≤ i % X ∧ i % X < X) ∧ (0 ≤ i / X % Y ∧ i / X % Y < Y) ∧ (0 ≤ i / X / Y ∧ i / X / Y < Z) ∧ 0 ≤ i / X ∧ i / X ≤ i := by
  obtain ⟨hg, hi, hi'⟩ := hasB_t h
  obtain ⟨h1, h2, h3, h4, h5, h6, h7⟩ := gridB_t hg
  have a : 0 ≤ i / X := Int.ediv_nonneg hi (by omega)
  refine ⟨⟨Int.emod_nonneg _ (by omega), Int.emod_lt_of_pos _ (by omega)⟩, ⟨Int.emod_nonneg _ (by omega), Int.emod_lt_of_pos _ (by omega)⟩, ⟨Int.ediv_nonneg a (by omega), ?_⟩, a, Int.ediv_le_self _ hi⟩
  rw [Int.ediv_ediv_of_nonneg (by omega)]
  refine Int.ediv_lt_of_lt_mul (Int.mul_pos (by omega) (by omega)) ?_
  rw [Int.mul_comm Z]
  exact hi'
def coarseV (X Y i : Int) : Int := (i / X / Y * ((Y + 1) / 2) + i / X % Y / 2) * ((X + 1) / 2) + i % X / 2
def pieceB (T M R : Int) : Bool := decide (0 ≤ T ∧ T ≤ 10000 ∧ 0 ≤ M ∧ M ≤ 1000 * T ∧ 0 ≤ R ∧ R ≤ 4)
theorem pieceB_t {T M R : Int} (h : pieceB T M R = true) : 0 ≤ T ∧ T ≤ 10000 ∧ 0 ≤ M ∧ M ≤ 1000 * T ∧ 0 ≤ R ∧ R ≤ 4 := of_decide_eq_true h
theorem impl_IsPiece_v (T M R : Int) : impl_IsPiece.f T M R = some (pieceB T M R) := by
  unfold impl_IsPiece.f pieceB
  by_cases h : 0 ≤ T ∧ T ≤ 10000
  · rw [w64 (by omega) (by omega)]
    repeat' split
    all_goals first
      | (congr 1; rw [decide_eq_decide]; omega)
      | (congr 1; symm; rw [decide_eq_false_iff_not]; omega)
  · have e : decide (0 ≤ T ∧ T ≤ 10000 ∧ 0 ≤ M ∧ M ≤ 1000 * T ∧ 0 ≤ R ∧ R ≤ 4) = false := by rw [decide_eq_false_iff_not]; omega
    rw [e]
    split
    · rw [if_neg (by omega)]
    · rfl
theorem spec_sbPiece_v (T M R : Int) : spec_sbPiece.f T M R = some (pieceB T M R) := by
  unfold spec_sbPiece.f pieceB
  simp only [spec_l1In_v, Option.bind_some, decide_eq_true_eq]
  by_cases h : 0 ≤ T ∧ T ≤ 10000
  · rw [w64 (by omega) (by omega)]
    repeat' split
    all_goals first
      | (congr 1; rw [decide_eq_decide]; omega)
      | (congr 1; symm; rw [decide_eq_false_iff_not]; omega)
  · have e : decide (0 ≤ T ∧ T ≤ 10000 ∧ 0 ≤ M ∧ M ≤ 1000 * T ∧ 0 ≤ R ∧ R ≤ 4) = false := by rw [decide_eq_false_iff_not]; omega
    rw [e, if_neg h]
def gcdI (x y : Int) : Int := (Nat.gcd x.toNat y.toNat : Nat)
theorem gcdI_step {x y : Int} (hx : 0 ≤ x) (hy : 0 ≤ y) : gcdI y (x % y) = gcdI x y := by
  unfold gcdI
  rw [Int.toNat_emod hx hy, Nat.gcd_comm, ← Nat.gcd_rec, Nat.gcd_comm]
theorem gcdI_zero {x : Int} (hx : 0 ≤ x) : gcdI x 0 = x := by
  unfold gcdI
  simp; omega
theorem spec_moPart_l (a b : Int) : ∀ (d k : Nat) (x y : Int), 0 ≤ x → 0 ≤ y → 0 < x + y → y.toNat ≤ d → d < k →
    spec_moPart.l0 k a b x y = some (wrap64 (Int.tdiv a (gcdI x y)), wrap64 (Int.tdiv b (gcdI x y))) := by
  intro d
  induction d with
  | zero =>
    intro k x y hx hy hp hd hk
    obtain ⟨k, rfl⟩ := k_succ (by omega : 0 < k)
    obtain rfl : y = 0 := by omega
    have e : gcdI x 0 = x := gcdI_zero hx
    simp only [spec_moPart.l0]
    rw [if_neg (by omega), if_neg (by omega), e]
  | succ d ih =>
    intro k x y hx hy hp hd hk
    obtain ⟨k, rfl⟩ := k_succ (by omega : 0 < k)
    by_cases h0 : y = 0
    · subst h0
      have e : gcdI x 0 = x := gcdI_zero hx
      simp only [spec_moPart.l0]
      rw [if_neg (by omega), if_neg (by omega), e]
    · have h1 := Int.emod_nonneg x h0
      have h2 := Int.emod_lt_of_pos x (by omega : 0 < y)
      simp only [spec_moPart.l0]
      rw [if_pos (by omega), if_neg h0, tmod_nn hx, ih k y (x % y) hy h1 (by omega) (by omega) (by omega), gcdI_step hx hy]
theorem spec_moPart_v {a b : Int} (ha : 0 ≤ a) (hb : 0 < b) {k : Nat} (hk : b.toNat < k) : spec_moPart.f k a b = some (wrap64 (Int.tdiv a (gcdI a b)), wrap64 (Int.tdiv b (gcdI a b))) := by
  unfold spec_moPart.f
  exact spec_moPart_l a b b.toNat k a b ha (by omega) (by omega) (by omega) hk
theorem impl_lowest_l (a b : Int) : ∀ (d k : Nat) (x y : Int), 0 ≤ x → 0 ≤ y → 0 < x + y → y.toNat ≤ d → d < k →
    impl_lowest.l0 k a b x y = some (wrap64 (Int.tdiv a (gcdI x y)), wrap64 (Int.tdiv b (gcdI x y))) := by
  intro d
  induction d with
  | zero =>
    intro k x y hx hy hp hd hk
    obtain ⟨k, rfl⟩ := k_succ (by omega : 0 < k)
    obtain rfl : y = 0 := by omega
    have e : gcdI x 0 = x := gcdI_zero hx
    simp only [impl_lowest.l0]
    rw [if_pos (by simp), if_neg (by omega), e]
  | succ d ih =>
    intro k x y hx hy hp hd hk
    obtain ⟨k, rfl⟩ := k_succ (by omega : 0 < k)
    by_cases h0 : y = 0
    · subst h0
      have e : gcdI x 0 = x := gcdI_zero hx
      simp only [impl_lowest.l0]
      rw [if_pos (by simp), if_neg (by omega), e]
    · have h1 := Int.emod_nonneg x h0
      have h2 := Int.emod_lt_of_pos x (by omega : 0 < y)
      simp only [impl_lowest.l0]
      rw [if_neg h0, tmod_nn hx, ih k y (x % y) hy h1 (by omega) (by omega) (by omega), gcdI_step hx hy]
theorem impl_abs_nn {a : Int} (h : 0 ≤ a) (h' : a ≤ 9223372036854775807) : impl_abs.f a = some a := by
  unfold impl_abs.f mx
  rw [w64 (by omega) (by omega), if_neg (by omega)]
theorem impl_lowest_v {a b : Int} (ha : 0 ≤ a) (ha' : a ≤ 9223372036854775807) (hb : 0 < b) {k : Nat} (hk : b.toNat < k) : impl_lowest.f k a b = some (wrap64 (Int.tdiv a (gcdI a b)), wrap64 (Int.tdiv b (gcdI a b))) := by
  unfold impl_lowest.f
  rw [impl_abs_nn ha ha', Option.bind_some]
  exact impl_lowest_l a b b.toNat k a b ha (by omega) (by omega) (by omega) hk
def gradeR (T M R : Int) : Int × Int × Bool := if pieceB T M R = true ∧ T ≠ 0 then (wrap64 (Int.tdiv M (gcdI M T)), wrap64 (Int.tdiv T (gcdI M T)), true) else (0, 0, false)
theorem impl_PieceGrade_v (T M R : Int) {k : Nat} (hk : 10000 < k) : impl_PieceGrade.f k T M R = some (gradeR T M R) := by
  unfold impl_PieceGrade.f gradeR
  rw [impl_IsPiece_v]
  cases h : pieceB T M R with
  | false => simp
  | true =>
    obtain ⟨h1, h2, h3, h4, h5, h6⟩ := pieceB_t h
    by_cases e : T = 0
    · simp [e]
    · simp only [Option.bind_some, if_true, if_neg e]
      rw [impl_lowest_v h3 (by omega) (by omega) (by omega), if_pos ⟨trivial, e⟩]
      rfl
theorem spec_PieceGrade_v (T M R : Int) {k : Nat} (hk : 10000 < k) : spec_PieceGrade.f k T M R = some (gradeR T M R) := by
  unfold spec_PieceGrade.f gradeR
  rw [spec_sbPiece_v]
  cases h : pieceB T M R with
  | false => simp
  | true =>
    obtain ⟨h1, h2, h3, h4, h5, h6⟩ := pieceB_t h
    by_cases e : T = 0
    · simp [e]
    · simp only [Option.bind_some, if_true, if_neg e]
      rw [spec_moPart_v h3 (by omega) (by omega), if_pos ⟨trivial, e⟩]
      rfl
theorem pure_FnExactPieceGrade (T M R : Int) : ∃ k, laws_FnExactPieceGrade.f k T M R = some true := by
  refine ⟨10001, ?_⟩
  simp only [laws_FnExactPieceGrade.f, laws_toPiece.f, Option.bind_some, spec_PieceGrade_v T M R (show 10000 < 10001 by omega), impl_PieceGrade_v T M R (show 10000 < 10001 by omega)]
  simp

end Go.Proofs.Ytfbgdfdeaffodaa.Pure
