-- Laid for this claim by wip/tools/print2.sh, a changed copy of the kit's print (wip/tools/patch_print.py): not by print.sh.
import Derived.Test.YtceajigggcihnaaPFnCoarsex3
import Derived.Test.YtceajigggcihnaaVFnCoarse
namespace Go.Proofs.Ytceajigggcihnaa.PFnCoarse
open Go.RowKit Go.Proofs.YtceajigggcihnaaW.PrintWords Go.Proofs.YtceajigggcihnaaW.PrintLast Go.Proofs.YtceajigggcihnaaW.PrintMore
attribute [local go_sem] max2_int min2_int max_two min_two max_three min_three max_four min_four
set_option linter.unusedVariables false
set_option linter.unusedSimpArgs false

/-! ### impl_arePieces: function 68 -/
mutual
def impl_arePieces.j0 : Nat → List (S29) → Bool → Option (Bool)
 | 0, _, _ => none
 | k + 1, x0, x12 => if x12 = true then (some false) else (impl_arePieces.l0 k x0 (x0.length : Int) 0)
def impl_arePieces.l0 : Nat → List (S29) → Int → Int → Option (Bool)
 | 0, _, _, _ => none
 | k + 1, x13, x14, x15 => if x15 < x14 then (if 0 ≤ x15 then (if x15 < (x13.length : Int) then ((impl_IsPiece.f ((rd_T29 x13 x15).f0) ((rd_T29 x13 x15).f1) ((rd_T29 x13 x15).f2)).bind fun t132 => (if t132 = true then (impl_arePieces.l0 k x13 x14 (wrap64 (x15 + 1))) else (some false))) else (none)) else (none)) else (some true)
end
def impl_arePieces.f (k : Nat) (l0 : List (S29)) : Option (Bool) := if (l0.length : Int) < 1 then (impl_arePieces.j0 k l0 true) else (impl_arePieces.j0 k l0 (decide ((l0.length : Int) > 20)))
set_option maxHeartbeats 8000000 in
set_option maxRecDepth 100000 in
theorem impl_arePieces.calls (k : Nat) (A0 : Option Addr) (c0 : Nat) (l0 : List (S29)) (r : Bool) (w : World) (hr0 : Kd.C k29 w A0 l0.length l0) (hc0 : l0.length ≤ c0) (h : impl_arePieces.f k l0 = some r) :
  Calls Try.prog 68 #[.slice A0 l0.length c0] w fun e w' => e = .returned (.bool r) ∧ Below w.heap.size w w' := by
 have hu29 := Try.underlying29
 have HR0 := Aside0.mk hr0
 have HC0 := Aside0.mk hc0
 clear hr0 hc0
 have HB := Aside0.mk (Below.refl w.heap.size w)
 have H := h
 unfold impl_arePieces.f at H
 clear h
 have HC2 := Aside0.mk H
 clear H
 go_enter Try.func68, Try.ntmps68
 go_upto_region 1 with (fail)
 go_cut [12] (fun v12 wc => ∃ (kq : Nat) (x12_1 : Bool), v12 = .bool x12_1 ∧ Aside0 (impl_arePieces.j0 kq l0 x12_1 = some r) ∧ Aside0 (kq ≤ k) ∧ Aside0 (Below w.heap.size w wc))
 case first =>
  have H := HC2.out
  clear HC2
  by_cases c3 : (l0.length : Int) < 1
  ·rw [if_pos c3] at H
   have c3b0 := decide_eq_true c3
   have c3b1 : decide (l0.length < 1) = true := decide_eq_true (by omega)
   clear c3
   (first | rw [c3b0] | (simp only [i64_w, i32_w]; rw [c3b0]) | skip)
   have H' := Aside0.mk H
   clear H
   go_wp2
   go_meet
   case rel => exact ⟨_, (true), (by first | rfl | (simp; done) | (simp [*]; done)), H', ⟨by first | omega | exact Nat.le_refl _⟩, ⟨hb_ HB⟩⟩
  rw [if_neg c3] at H
  have c3b0 := decide_eq_false c3
  have c3b1 : decide (l0.length < 1) = false := decide_eq_false (by omega)
  clear c3
  (first | rw [c3b0] | (simp only [i64_w, i32_w]; rw [c3b0]) | skip)
  have H' := Aside0.mk H
  clear H
  go_wp2
  go_meet
  case rel => exact ⟨_, (decide ((l0.length : Int) > 20)), (by first | rfl | (simp; done) | (simp [*]; done)), H', ⟨by first | omega | exact Nat.le_refl _⟩, ⟨hb_ HB⟩⟩
 clear HC2
 obtain ⟨kq, x12_1, rfl, HA, HJ1, HB⟩ := hcut
 cases kq with
 | zero => exact absurd HA.out (by simp [impl_arePieces.j0])
 | succ kj1 => ?_
 have H := HA.out
 clear HA
 simp only [impl_arePieces.j0] at H
 by_cases c4 : x12_1 = true
 ·subst c4
  rw [if_pos rfl] at H
  obtain rfl := Option.some.inj H
  go_wp2
  go_ret
  exact ad_ (hb_ HB)
 replace c4 := Bool.eq_false_iff.mpr c4
 subst c4
 rw [if_neg (show ¬ (false = true) by decide)] at H
 have H' := Aside0.mk H
 clear H
 go_wp2
 go_loopg [15] kj1 (fun kq v15 w' => ∃ (x15_2 : Int), v15 = .int .i64 x15_2 ∧ Aside0 (impl_arePieces.l0 kq l0 (l0.length : Int) x15_2 = some r) ∧ Aside0 (kq ≤ kj1) ∧ Aside0 (Below w.heap.size w w'))
 case atStart => exact ⟨(0), (by first | rfl | (simp; done) | (simp [*]; done)), H', ⟨Nat.le_refl _⟩, ⟨hb_ HB⟩⟩
 clear H'
 obtain ⟨x15_2, rfl, HA, HK2, HB⟩ := hrel
 cases gk with
 | zero => exact absurd HA.out (by simp [impl_arePieces.l0])
 | succ k2 => ?_
 have H := HA.out
 clear HA
 simp only [impl_arePieces.l0] at H
 by_cases c5 : x15_2 < (l0.length : Int)
 case neg => rw [if_neg c5] at H; have c5b0 := decide_eq_false c5; clear c5; obtain rfl := Option.some.inj H; go_wp2; go_ret; exact ad_ (hb_ HB)
 rw [if_pos c5] at H
 have c5b0 := decide_eq_true c5
 clear c5
 by_cases c6 : 0 ≤ x15_2
 case neg => rw [if_neg c6] at H; exact absurd H (by simp)
 rw [if_pos c6] at H
 have c6b0 := decide_eq_true c6
 clear c6
 by_cases c7 : x15_2 < (l0.length : Int)
 case neg => rw [if_neg c7] at H; exact absurd H (by simp)
 rw [if_pos c7] at H
 have c7b0 := decide_eq_true c7
 clear c7
 replace H := Option.bind_eq_some_iff.mp H
 obtain ⟨t132, A80, H⟩ := H
 try dsimp only at H
 have A8 := Aside0.mk A80
 clear A80
 by_cases c9 : t132 = true
 ·subst c9
  rw [if_pos rfl] at H
  have H' := Aside0.mk H
  clear H
  have p130 : 0 ≤ (x15_2 : Int) := of_decide_eq_true (by first | (with_reducible assumption) | assumption)
  have q130 : x15_2 < (l0.length : Int) := of_decide_eq_true (by first | (with_reducible assumption) | assumption)
  obtain ⟨ad130, e130, hx130_0, hx130_1, hx130_2⟩ := at_T29 HR0.out x15_2 p130 q130
  cases e130
  replace hx130_0 := hc_ HB hx130_0
  replace hx130_1 := hc_ HB hx130_1
  replace hx130_2 := hc_ HB hx130_2
  replace p130 := eq_true p130
  replace q130 := eq_true q130
  go_wp2_with (first | ((with_reducible refine gate_dst (N := 4) rfl ?_); (try (refine gate_guard (by rfl) ?_; dsimp only)); refine bv_ 4 (cs := #[.int .i64 0, .int .i64 0, .int .i64 0]) (t := 29) ?_; intro gb131 hg w10 hbox hb; have BK131 := Aside0.mk (hbox); have GW131 := gs_ hg HB; have GE131 := gs_ hg HB; replace HB := hbs_ HB hb; clear hb hbox hg; obtain ⟨hcz11_0, hcz11_1, hcz11_2, hfz11_0, hfz11_1, hfz11_2⟩ := bx3 BK131) | ((with_reducible refine gate_callee (f := 47) rfl ?_); refine gl_ (some 20) Try.func47 #[.agg #[.int .i64 ((rd_T29 l0 x15_2).f0), .int .i64 ((rd_T29 l0 x15_2).f1), .int .i64 ((rd_T29 l0 x15_2).f2)]] rfl rfl rfl ?_; (with_reducible refine (impl_IsPiece.calls ((rd_T29 l0 x15_2).f0) ((rd_T29 l0 x15_2).f1) ((rd_T29 l0 x15_2).f2) true _ A8.out).mono ?_); rintro e w12 ⟨rfl, hb⟩; refine ⟨_, rfl, ?_⟩; replace BK131 := Aside0.mk (blk_below (g := gb131) (o := .cells #[.int .i64 ((rd_T29 l0 x15_2).f0), .int .i64 ((rd_T29 l0 x15_2).f1), .int .i64 ((rd_T29 l0 x15_2).f2)] 29 (0, 0)) (kpq_ (kputs BK131 [(0, _), (1, _), (2, _)])) hb); replace HB := hbs_ HB hb))
  go_roundg k2
  case measure => have := HJ1.out; have := HK2.out; omega
  case rel => exact ⟨(wrap64 (x15_2 + 1)), (by first | rfl | (simp; done) | (simp [*]; done)), H', ⟨by have := HJ1.out; have := HK2.out; omega⟩, ⟨hb_ HB⟩⟩
 replace c9 := Bool.eq_false_iff.mpr c9
 subst c9
 rw [if_neg (show ¬ (false = true) by decide)] at H
 obtain rfl := Option.some.inj H
 have p130 : 0 ≤ (x15_2 : Int) := of_decide_eq_true (by first | (with_reducible assumption) | assumption)
 have q130 : x15_2 < (l0.length : Int) := of_decide_eq_true (by first | (with_reducible assumption) | assumption)
 obtain ⟨ad130, e130, hx130_0, hx130_1, hx130_2⟩ := at_T29 HR0.out x15_2 p130 q130
 cases e130
 replace hx130_0 := hc_ HB hx130_0
 replace hx130_1 := hc_ HB hx130_1
 replace hx130_2 := hc_ HB hx130_2
 replace p130 := eq_true p130
 replace q130 := eq_true q130
 go_wp2_with (first | ((with_reducible refine gate_dst (N := 4) rfl ?_); (try (refine gate_guard (by rfl) ?_; dsimp only)); refine bv_ 4 (cs := #[.int .i64 0, .int .i64 0, .int .i64 0]) (t := 29) ?_; intro gb131 hg w13 hbox hb; have BK131 := Aside0.mk (hbox); have GW131 := gs_ hg HB; have GE131 := gs_ hg HB; replace HB := hbs_ HB hb; clear hb hbox hg; obtain ⟨hcz14_0, hcz14_1, hcz14_2, hfz14_0, hfz14_1, hfz14_2⟩ := bx3 BK131) | ((with_reducible refine gate_callee (f := 47) rfl ?_); refine gl_ (some 20) Try.func47 #[.agg #[.int .i64 ((rd_T29 l0 x15_2).f0), .int .i64 ((rd_T29 l0 x15_2).f1), .int .i64 ((rd_T29 l0 x15_2).f2)]] rfl rfl rfl ?_; (with_reducible refine (impl_IsPiece.calls ((rd_T29 l0 x15_2).f0) ((rd_T29 l0 x15_2).f1) ((rd_T29 l0 x15_2).f2) false _ A8.out).mono ?_); rintro e w15 ⟨rfl, hb⟩; refine ⟨_, rfl, ?_⟩; replace BK131 := Aside0.mk (blk_below (g := gb131) (o := .cells #[.int .i64 ((rd_T29 l0 x15_2).f0), .int .i64 ((rd_T29 l0 x15_2).f1), .int .i64 ((rd_T29 l0 x15_2).f2)] 29 (0, 0)) (kpq_ (kputs BK131 [(0, _), (1, _), (2, _)])) hb); replace HB := hbs_ HB hb))
 go_ret
 exact ad_ (hb_ HB)

/-! ### impl_joinPieces: function 69 -/
mutual
def impl_joinPieces.l0 : Nat → List Int → List (S29) → Int → Int → Int → Int → Int → Option (Int × Int × Int × Bool)
 | 0, _, _, _, _, _, _, _ => none
 | k + 1, x5, x11, x12, x13, x135000, x135001, x135002 => if x13 < x12 then (if 0 ≤ x13 then (if x13 < (x11.length : Int) then (if 0 ≤ ((rd_T29 x11 x13).f2) then (if ((rd_T29 x11 x13).f2) < 5 then (impl_joinPieces.l0 k (x5.set (((rd_T29 x11 x13).f2) : Int).toNat (wrap64 ((rd x5 ((rd_T29 x11 x13).f2)) + ((rd_T29 x11 x13).f0)))) x11 x12 (wrap64 (x13 + 1)) (wrap64 (x135000 + ((rd_T29 x11 x13).f0))) (wrap64 (x135001 + ((rd_T29 x11 x13).f1))) x135002) else (none)) else (none)) else (none)) else (none)) else (impl_joinPieces.l1 k x5 0 x135000 x135001 x135002)
def impl_joinPieces.l1 : Nat → List Int → Int → Int → Int → Int → Option (Int × Int × Int × Bool)
 | 0, _, _, _, _, _ => none
 | k + 1, x5, x38, x135000, x135001, x135002 => if x38 < 5 then (if 0 ≤ x38 then (if 0 ≤ x135002 then (if x135002 < 5 then (if (rd x5 x38) > (rd x5 x135002) then (impl_joinPieces.l1 k x5 (wrap64 (x38 + 1)) x135000 x135001 x38) else (impl_joinPieces.l1 k x5 (wrap64 (x38 + 1)) x135000 x135001 x135002)) else (none)) else (none)) else (none)) else (if x135000 > 10000 then (some (0, 0, 0, false)) else (some (x135000, x135001, x135002, true)))
end
def impl_joinPieces.f (k : Nat) (l0 : List (S29)) : Option (Int × Int × Int × Bool) := impl_joinPieces.l0 k (List.replicate 5 0) l0 (l0.length : Int) 0 0 0 0
def impl_joinPieces.T8 : Bool × List (List Nat × List Nat) := (true, [([], []), ([0], [0]), ([1], [1]), ([2], [2]), ([], []), ([4], [4]), ([3, 5], [3, 5]), ([1, 0, 1, 2, 3, 4, 5, 6], [1]), ([7, 6, 0, 1, 2, 3, 4, 5, 6], [6, 7])])
def impl_joinPieces.B8 : List Nat := [0, 1, 3, 7, 0, 16, 63, 127, 255]
theorem impl_joinPieces.tab8 : rtab .any (opsOf Try.f69 8) = impl_joinPieces.T8 := by kernel_rfl
theorem impl_joinPieces.bits8 : waitsOk impl_joinPieces.T8.2 impl_joinPieces.B8 = true := by kernel_rfl
def impl_joinPieces.T13 : Bool × List (List Nat × List Nat) := (true, [([], []), ([0], [0]), ([1], [1]), ([], []), ([3], [3]), ([4], [4]), ([5], [5]), ([2, 6], [2, 6])])
def impl_joinPieces.B13 : List Nat := [0, 1, 3, 0, 8, 24, 56, 127]
theorem impl_joinPieces.tab13 : rtab .any (opsOf Try.f69 13) = impl_joinPieces.T13 := by kernel_rfl
theorem impl_joinPieces.bits13 : waitsOk impl_joinPieces.T13.2 impl_joinPieces.B13 = true := by kernel_rfl
set_option maxHeartbeats 8000000 in
set_option maxRecDepth 100000 in
theorem impl_joinPieces.calls (k : Nat) (A0 : Option Addr) (c0 : Nat) (l0 : List (S29)) (r1 : Int) (r2 : Int) (r3 : Int) (r4 : Bool) (w : World) (hr0 : Kd.C k29 w A0 l0.length l0) (hc0 : l0.length ≤ c0) (h : impl_joinPieces.f k l0 = some (r1, r2, r3, r4)) :
  Calls Try.prog 69 #[.slice A0 l0.length c0] w fun e w' => e = .returned (.tuple #[.agg #[.int .i64 r1, .int .i64 r2, .int .i64 r3], .bool r4]) ∧ Below w.heap.size w w' := by
 have hu29 := Try.underlying29
 have HR0 := Aside0.mk hr0
 have HC0 := Aside0.mk hc0
 clear hr0 hc0
 have HB := Aside0.mk (Below.refl w.heap.size w)
 have H := h
 unfold impl_joinPieces.f at H
 clear h
 obtain ⟨y136, hy136⟩ : ∃ y_ : List Int, y_ = (List.replicate 5 0) := ⟨_, rfl⟩
 (try with_reducible replace H := (Option.bind_some _ _).symm.trans H); (try dsimp only at H); (try rw [← hy136] at H)
 have Ny136 := Aside0.mk hy136
 clear hy136
 have H' := Aside0.mk H
 clear H
 go_enter Try.func69, Try.ntmps69
 go_wp2_with (first | ((with_reducible refine gate_dst (N := 2) rfl ?_); refine bv_ 2 (cs := #[.int .i64 0, .int .i64 0, .int .i64 0]) (t := 29) ?_; intro gb133 hg w2 hbox hb; have BK133 := Aside0.mk (hbox); have GW133 := gs_ hg HB; have GE133 := gs_ hg HB; replace HB := hbs_ HB hb; clear hb hbox hg) | ((with_reducible refine gate_dst (N := 4) rfl ?_); refine bv_ 4 (cs := #[.int .i64 0, .int .i64 0, .int .i64 0]) (t := 29) ?_; intro gb134 hg w3 hbox hb; have BK134 := Aside0.mk (hbox); have GW134 := gs_ hg HB; have GE134 := gs_ hg HB; have NB133_134 := nl_ hg BK133; have NB134_133 := ng_ hg BK133; replace BK133 := kb_ BK133 hb; replace HB := hbs_ HB hb; clear hb hbox hg; have := NB134_133.out; have := NB133_134.out; obtain ⟨hcz5_0, hcz5_1, hcz5_2, hfz5_0, hfz5_1, hfz5_2⟩ := bx3 BK134) | ((with_reducible refine gate_dst (N := 5) rfl ?_); refine bv_ 5 (cs := #[.int .i64 0, .int .i64 0, .int .i64 0, .int .i64 0, .int .i64 0]) (t := 123) ?_; intro gb135 hg w6 hbox hb; have BK135 := Aside0.mk (hbox); have GW135 := gs_ hg HB; have GE135 := gs_ hg HB; have NB133_135 := Aside0.mk ((by rw [hg]; exact Nat.ne_of_lt (blk_lt (kf_ BK133 NB133_134)) : gb133 ≠ gb135)); have NB135_133 := Aside0.mk ((by rw [hg]; exact Nat.ne_of_gt (blk_lt (kf_ BK133 NB133_134)) : gb135 ≠ gb133)); have NB134_135 := Aside0.mk ((by rw [hg]; exact Nat.ne_of_lt (blk_lt (g := gb134) (o := .cells #[.int .i64 0, .int .i64 0, .int .i64 0] 29 (0, 0)) (kpq_ (kputs BK134 [(0, _), (1, _), (2, _)]))) : gb134 ≠ gb135)); have NB135_134 := Aside0.mk ((by rw [hg]; exact Nat.ne_of_gt (blk_lt (g := gb134) (o := .cells #[.int .i64 0, .int .i64 0, .int .i64 0] 29 (0, 0)) (kpq_ (kputs BK134 [(0, _), (1, _), (2, _)]))) : gb135 ≠ gb134)); replace BK133 := kfb_ BK133 NB133_134 hb; replace BK134 := Aside0.mk (blk_below (g := gb134) (o := .cells #[.int .i64 0, .int .i64 0, .int .i64 0] 29 (0, 0)) (kpq_ (kputs BK134 [(0, _), (1, _), (2, _)])) hb); replace HB := hbs_ HB hb; clear hb hbox hg; have := NB135_133.out; have := NB133_135.out; have := NB135_134.out; have := NB134_135.out; obtain ⟨hcz9_0, hcz9_1, hcz9_2, hcz9_3, hcz9_4, hfz9_0, hfz9_1, hfz9_2, hfz9_3, hfz9_4⟩ := bx5 BK135) | ((with_reducible refine gate_store (t := 123) (p := 5) rfl ?_); refine store_event (t := 123) (p := 5) (v := ?vo_w10) (w1 := (((((w6.setCell ⟨gb135, 0, none⟩ (.int .i64 0)).setCell ⟨gb135, 1, none⟩ (.int .i64 0)).setCell ⟨gb135, 2, none⟩ (.int .i64 0)).setCell ⟨gb135, 3, none⟩ (.int .i64 0)).setCell ⟨gb135, 4, none⟩ (.int .i64 0))) ?hg ?ho ?hn ?hr ?_; (case ho => rfl); (case hg => rfl); (case hn => rfl); (case hr => first | (go_simp; done) | (go_simp; rfl)); intro w10 hw; have n0_ : Aside0 (w10.heap[gb133]? = some (.cells #[.int .i64 0, .int .i64 0, .int .i64 0] 29 (0, 0))) := ⟨(by rw [hw]; exact (kf_ BK133 NB133_135))⟩; have n1_ : Aside0 (w10.heap[gb134]? = some (.cells #[.int .i64 0, .int .i64 0, .int .i64 0] 29 (0, 0))) := ⟨(by rw [hw]; exact (kf_ BK134 NB134_135))⟩; have n2_ : Aside0 (w10.heap[gb135]? = some (.cells #[.int .i64 0, .int .i64 0, .int .i64 0, .int .i64 0, .int .i64 0] 123 (0, 0))) := ⟨(by rw [hw]; exact (kpq_ (kputs BK135 [(0, _), (1, _), (2, _), (3, _), (4, _)])))⟩; have n3_ : Aside0 (Below w.heap.size w w10) := ⟨(by rw [hw]; exact (hb_ HB))⟩; clear hw BK133 BK134 BK135 HB; have BK133 := n0_; have BK134 := n1_; have BK135 := n2_; have HB := n3_; clear n0_ n1_ n2_ n3_; have HO137 := Aside0.mk (Kd.R_arr (k := .i64) (base := w.heap.size) y136 BK135.out (by rw [Ny136.out] <;> rfl) (by rw [Ny136.out] <;> rfl) GE135.out); have GB135 := GE135; have GG135 := Aside0.mk (show ∃ cells, (_ : World).heap[gb135]? = some (.cells cells 123 (0, 0)) from ⟨_, BK135.out⟩); try clear NB135_133; try clear NB133_135; try clear NB135_134; try clear NB134_135; clear BK135))
 go_loopg [13] k (fun kq v13 w' => ∃ (x5_1 : List Int) (x13_1 : Int) (x135000_1 : Int) (x135001_1 : Int), v13 = .int .i64 x13_1 ∧ Aside0 (impl_joinPieces.l0 kq x5_1 l0 (l0.length : Int) x13_1 x135000_1 x135001_1 0 = some (r1, r2, r3, r4)) ∧ Aside0 (kq ≤ k) ∧ Aside0 (Kd.R (Kd.int .i64) 123 w' w.heap.size (fun _ => True) (.slice (some ⟨gb135, 0, none⟩) 5 5) x5_1) ∧ Aside0 (w'.heap[gb133]? = some (.cells #[.int .i64 0, .int .i64 0, .int .i64 0] 29 (0, 0))) ∧ Aside0 (w'.heap[gb134]? = some (.cells #[.int .i64 x135000_1, .int .i64 x135001_1, .int .i64 0] 29 (0, 0))) ∧ Aside0 (Below w.heap.size w w'))
 case atStart => exact ⟨(y136), (0), (0), (0), (by first | rfl | (simp; done) | (simp [*]; done)), H', ⟨Nat.le_refl _⟩, ⟨Kd.R_p HO137⟩, ⟨kp_ BK133⟩, ⟨kp_ BK134⟩, ⟨hb_ HB⟩⟩
 clear H'
 obtain ⟨x5_1, x13_1, x135000_1, x135001_1, rfl, HA, HK1, HO_5, BK133, BK134, HB⟩ := hrel
 cases gk with
 | zero => exact absurd HA.out (by simp [impl_joinPieces.l0])
 | succ k1 => ?_
 have H := HA.out
 clear HA
 simp only [impl_joinPieces.l0] at H
 by_cases c11 : x13_1 < (l0.length : Int)
 ·rw [if_pos c11] at H
  have c11b0 := decide_eq_true c11
  clear c11
  by_cases c12 : 0 ≤ x13_1
  case neg => rw [if_neg c12] at H; exact absurd H (by simp)
  rw [if_pos c12] at H
  have c12b0 := decide_eq_true c12
  clear c12
  by_cases c13 : x13_1 < (l0.length : Int)
  case neg => rw [if_neg c13] at H; exact absurd H (by simp)
  rw [if_pos c13] at H
  have c13b0 := decide_eq_true c13
  clear c13
  by_cases c14 : 0 ≤ ((rd_T29 l0 x13_1).f2)
  case neg => rw [if_neg c14] at H; exact absurd H (by simp)
  rw [if_pos c14] at H
  have c14b0 := decide_eq_true c14
  clear c14
  by_cases c15 : ((rd_T29 l0 x13_1).f2) < 5
  case neg => rw [if_neg c15] at H; exact absurd H (by simp)
  rw [if_pos c15] at H
  have c15b0 := decide_eq_true c15
  clear c15
  obtain ⟨y141, hy141⟩ : ∃ y_ : List Int, y_ = (x5_1.set (((rd_T29 l0 x13_1).f2) : Int).toNat (wrap64 ((rd x5_1 ((rd_T29 l0 x13_1).f2)) + ((rd_T29 l0 x13_1).f0)))) := ⟨_, rfl⟩
  (try with_reducible replace H := (Option.bind_some _ _).symm.trans H); (try dsimp only at H); (try rw [← hy141] at H)
  have Ny141 := Aside0.mk hy141
  clear hy141
  have H' := Aside0.mk H
  clear H
  have p138 : 0 ≤ (x13_1 : Int) := of_decide_eq_true (by first | (with_reducible assumption) | assumption)
  have q138 : x13_1 < (l0.length : Int) := of_decide_eq_true (by first | (with_reducible assumption) | assumption)
  obtain ⟨ad138, e138, hx138_0, hx138_1, hx138_2⟩ := at_T29 HR0.out x13_1 p138 q138
  cases e138
  replace hx138_0 := hc_ HB hx138_0
  replace hx138_1 := hc_ HB hx138_1
  replace hx138_2 := hc_ HB hx138_2
  replace p138 := eq_true p138
  replace q138 := eq_true q138
  try go_wp2_with (first | ((with_reducible refine gate_dst (N := 7) rfl ?_); refine bv_ 7 (cs := #[.int .i64 0, .int .i64 0, .int .i64 0]) (t := 29) ?_; intro gb139 hg w17 hbox hb; have BK139 := Aside0.mk (hbox); have GW139 := gs_ hg HB; have GE139 := gs_ hg HB; have NB133_139 := nl_ hg BK133; have NB139_133 := ng_ hg BK133; have NB134_139 := nl_ hg BK134; have NB139_134 := ng_ hg BK134; replace HO_5 := Kd.R_b HO_5 hb; replace BK133 := kb_ BK133 hb; replace BK134 := kb_ BK134 hb; replace HB := hbs_ HB hb; clear hb hbox hg; have := NB139_133.out; have := NB133_139.out; have := NB139_134.out; have := NB134_139.out; obtain ⟨hcz20_0, hcz20_1, hcz20_2, hfz20_0, hfz20_1, hfz20_2⟩ := bx3 BK139; have := NB134_133.out; have := NB133_134.out; obtain ⟨hcz22_0, hcz22_1, hcz22_2, hfz22_0, hfz22_1, hfz22_2⟩ := bx3 BK134))
  have n0_ : Aside0 (Kd.R (Kd.int .i64) 123 (((((w17.setCell ⟨gb139, 0, none⟩ (.int .i64 ((rd_T29 l0 x13_1).f0))).setCell ⟨gb139, 1, none⟩ (.int .i64 ((rd_T29 l0 x13_1).f1))).setCell ⟨gb139, 2, none⟩ (.int .i64 ((rd_T29 l0 x13_1).f2))).setCell ⟨gb134, 0, none⟩ (.int .i64 (wrap64 (x135000_1 + ((rd_T29 l0 x13_1).f0))))).setCell ⟨gb134, 1, none⟩ (.int .i64 (wrap64 (x135001_1 + ((rd_T29 l0 x13_1).f1))))) w.heap.size (fun _ => True) (.slice (some ⟨gb135, 0, none⟩) 5 5) x5_1) := ⟨rm_ (h := rf_ (rf_ (rf_ (rf_ (rf_ (rt_ (rt_ HO_5.out BK139) BK134))))))⟩
  have n1_ : Aside0 ((((((w17.setCell ⟨gb139, 0, none⟩ (.int .i64 ((rd_T29 l0 x13_1).f0))).setCell ⟨gb139, 1, none⟩ (.int .i64 ((rd_T29 l0 x13_1).f1))).setCell ⟨gb139, 2, none⟩ (.int .i64 ((rd_T29 l0 x13_1).f2))).setCell ⟨gb134, 0, none⟩ (.int .i64 (wrap64 (x135000_1 + ((rd_T29 l0 x13_1).f0))))).setCell ⟨gb134, 1, none⟩ (.int .i64 (wrap64 (x135001_1 + ((rd_T29 l0 x13_1).f1))))).heap[gb133]? = some (.cells #[.int .i64 0, .int .i64 0, .int .i64 0] 29 (0, 0))) := ⟨kq_ (h := bf_ (hn := NB133_134) (h := bf_ (hn := NB133_134) (h := bf_ (hn := NB133_139) (h := bf_ (hn := NB133_139) (h := bf_ (hn := NB133_139) (h := BK133.out))))))⟩
  have n2_ : Aside0 ((((((w17.setCell ⟨gb139, 0, none⟩ (.int .i64 ((rd_T29 l0 x13_1).f0))).setCell ⟨gb139, 1, none⟩ (.int .i64 ((rd_T29 l0 x13_1).f1))).setCell ⟨gb139, 2, none⟩ (.int .i64 ((rd_T29 l0 x13_1).f2))).setCell ⟨gb134, 0, none⟩ (.int .i64 (wrap64 (x135000_1 + ((rd_T29 l0 x13_1).f0))))).setCell ⟨gb134, 1, none⟩ (.int .i64 (wrap64 (x135001_1 + ((rd_T29 l0 x13_1).f1))))).heap[gb134]? = some (.cells #[.int .i64 (wrap64 (x135000_1 + ((rd_T29 l0 x13_1).f0))), .int .i64 (wrap64 (x135001_1 + ((rd_T29 l0 x13_1).f1))), .int .i64 0] 29 (0, 0))) := ⟨kq_ (h := bp_ (h := bp_ (h := bf_ (hn := NB134_139) (h := bf_ (hn := NB134_139) (h := bf_ (hn := NB134_139) (h := BK134.out))))))⟩
  have n3_ : Aside0 ((((((w17.setCell ⟨gb139, 0, none⟩ (.int .i64 ((rd_T29 l0 x13_1).f0))).setCell ⟨gb139, 1, none⟩ (.int .i64 ((rd_T29 l0 x13_1).f1))).setCell ⟨gb139, 2, none⟩ (.int .i64 ((rd_T29 l0 x13_1).f2))).setCell ⟨gb134, 0, none⟩ (.int .i64 (wrap64 (x135000_1 + ((rd_T29 l0 x13_1).f0))))).setCell ⟨gb134, 1, none⟩ (.int .i64 (wrap64 (x135001_1 + ((rd_T29 l0 x13_1).f1))))).heap[gb139]? = some (.cells #[.int .i64 ((rd_T29 l0 x13_1).f0), .int .i64 ((rd_T29 l0 x13_1).f1), .int .i64 ((rd_T29 l0 x13_1).f2)] 29 (0, 0))) := ⟨kq_ (h := bf_ (hn := NB139_134) (h := bf_ (hn := NB139_134) (h := bp_ (h := bp_ (h := bp_ (h := BK139.out))))))⟩
  have n4_ : Aside0 (Below w.heap.size w (((((w17.setCell ⟨gb139, 0, none⟩ (.int .i64 ((rd_T29 l0 x13_1).f0))).setCell ⟨gb139, 1, none⟩ (.int .i64 ((rd_T29 l0 x13_1).f1))).setCell ⟨gb139, 2, none⟩ (.int .i64 ((rd_T29 l0 x13_1).f2))).setCell ⟨gb134, 0, none⟩ (.int .i64 (wrap64 (x135000_1 + ((rd_T29 l0 x13_1).f0))))).setCell ⟨gb134, 1, none⟩ (.int .i64 (wrap64 (x135001_1 + ((rd_T29 l0 x13_1).f1)))))) := ⟨hb_ HB⟩
  generalize (((((w17.setCell ⟨gb139, 0, none⟩ (.int .i64 ((rd_T29 l0 x13_1).f0))).setCell ⟨gb139, 1, none⟩ (.int .i64 ((rd_T29 l0 x13_1).f1))).setCell ⟨gb139, 2, none⟩ (.int .i64 ((rd_T29 l0 x13_1).f2))).setCell ⟨gb134, 0, none⟩ (.int .i64 (wrap64 (x135000_1 + ((rd_T29 l0 x13_1).f0))))).setCell ⟨gb134, 1, none⟩ (.int .i64 (wrap64 (x135001_1 + ((rd_T29 l0 x13_1).f1))))) = w23 at n0_ n1_ n2_ n3_ n4_ ⊢
  have HO_5 := n0_
  have BK133 := n1_
  have BK134 := n2_
  have BK139 := n3_
  have HB := n4_
  clear n0_ n1_ n2_ n3_ n4_
  replace HO_5 := Aside0.mk (Kd.R_drew HO_5.out)
  replace BK133 := Aside0.mk (blk_drew BK133.out)
  replace BK134 := Aside0.mk (blk_drew BK134.out)
  replace BK139 := Aside0.mk (blk_drew BK139.out)
  replace HB := Aside0.mk (below_drew1 HB.out)
  have p140 : 0 ≤ (((rd_T29 l0 x13_1).f2) : Int) := of_decide_eq_true (by first | (with_reducible assumption) | assumption)
  have q140 : ((rd_T29 l0 x13_1).f2) < (x5_1.length : Int) := (by have h_ : (((rd_T29 l0 x13_1).f2) : Int) < (5 : Int) := of_decide_eq_true (by first | (with_reducible assumption) | assumption); have e_ := (Kd.R_reads' HO_5.out).1; omega)
  have ql140 : ((((rd_T29 l0 x13_1).f2) : Int) < (5 : Int)) = True := eq_true (of_decide_eq_true (by first | (with_reducible assumption) | assumption))
  obtain ⟨ad140, e140, hx140_0⟩ := Kd.at_int (Kd.R_reads' HO_5.out).2.2 ((rd_T29 l0 x13_1).f2) p140 q140
  obtain rfl : (⟨gb135, 0, none⟩ : Addr) = ad140 := (by injection e140)
  (first | simp only [add_plain] at hx140_0 | simp only [add_at] at hx140_0 | simp only [Addr.add, Nat.zero_add] at hx140_0 | skip)
  replace p140 := eq_true p140
  replace q140 := eq_true q140
  have p16 : 0 ≤ (((rd_T29 l0 x13_1).f2) : Int) := of_decide_eq_true (by first | (with_reducible assumption) | assumption)
  have q16 : (((rd_T29 l0 x13_1).f2) : Int) < (5 : Int) := of_decide_eq_true (by first | (with_reducible assumption) | assumption)
  obtain ⟨hx16_0, hf16_0⟩ := Kd.R_celln 0 HO_5.out (((rd_T29 l0 x13_1).f2) : Int) p16 q16
  replace p16 := eq_true p16
  replace q16 := eq_true q16
  have HP25 := Kd.R_putn HO_5.out (((rd_T29 l0 x13_1).f2) : Int) (wrap64 ((rd x5_1 ((rd_T29 l0 x13_1).f2)) + ((rd_T29 l0 x13_1).f0)))
  rw [← Ny141.out] at HP25
  have HQ25 := Aside0.mk HP25
  clear HP25
  refine start_ (n := 9) (S := fun w' => w'.cell? ⟨gb139, 0, none⟩ = some (.int .i64 ((rd_T29 l0 x13_1).f0)) ∧ w'.cell? ⟨gb139, 1, none⟩ = some (.int .i64 ((rd_T29 l0 x13_1).f1)) ∧ w'.cell? ⟨gb139, 2, none⟩ = some (.int .i64 ((rd_T29 l0 x13_1).f2)) ∧ w'.cell? ⟨gb135, (((rd_T29 l0 x13_1).f2)).toNat, none⟩ = some (.int .i64 (rd x5_1 ((rd_T29 l0 x13_1).f2)))) (ds := [8]) (bb 9 0) (by kernel_rfl) rfl rfl ⟨(blk_cell BK139.out 0).trans rfl, (blk_cell BK139.out 1).trans rfl, (blk_cell BK139.out 2).trans rfl, hx140_0⟩ (fun hHeld => ?_); refine with_tabW impl_joinPieces.tab8 impl_joinPieces.bits8 (fun HT_ HW_ => ?_)
  generalize w23.drew = w24 at HO_5 BK133 BK134 BK139 HB HQ25 hf16_0 hx140_0 hx16_0 hHeld ⊢
  refine pl_ HT_ 0 (some 29) (bb 9 1) (h := ?_)
  refine pl_ HT_ 4 (some 33) (bb 9 17) (h := ?_)
  refine tk_ HT_ HW_ hHeld 1 (some 30) (bb 9 19) (h := ?_)
  refine pl_ HT_ 2 (some 31) (bb 9 23) (h := ?_)
  refine tk_ HT_ HW_ hHeld 3 (some 32) (bb 9 31) (h := ?_)
  refine tk_ HT_ HW_ hHeld 5 (some 34) (bb 9 63) (h := ?_)
  refine pl_ HT_ 6 (some 35) (bb 9 127) (h := ?_)
  refine pl_ HT_ 7 (some 36) (bb 9 255) (h := ?_)
  refine last_ (i := 8) (N := none) (bb 9 511) rfl rfl (one_of HT_.out (by kernel_rfl)) (by decide) (fun K hK => ?_)
  refine skip_ (w1 := ?_) (by rfl) rfl ?_ ?_
  rotate_left
  ·go_simp
   rfl
  refine hK.out _ _ ?_
  clear hK K
  refine done_ (done_of HT_.out (by kernel_rfl)) ?_
  try go_wp2
  go_roundg k1
  case measure => have := HK1.out; omega
  case rel => exact ⟨(y141), (wrap64 (x13_1 + 1)), (wrap64 (x135000_1 + ((rd_T29 l0 x13_1).f0))), (wrap64 (x135001_1 + ((rd_T29 l0 x13_1).f1))), (by first | rfl | (simp; done) | (simp [*]; done)), H', ⟨by have := HK1.out; omega⟩, ⟨Kd.R_p HQ25⟩, ⟨by (with_reducible repeat (first | refine blk_drewN ?_ _ | refine blk_drew ?_ | refine blk_alloc ?_ _)); refine blk_far ?_ (by have h_ := Kd.R_ne HO_5.out BK133.out (by decide); intro e_; exact h_ (by rw [e_]; rfl)) _; (with_reducible repeat (first | refine blk_drewN ?_ _ | refine blk_drew ?_ | refine blk_alloc ?_ _)); exact BK133.out⟩, ⟨by (with_reducible repeat (first | refine blk_drewN ?_ _ | refine blk_drew ?_ | refine blk_alloc ?_ _)); refine blk_far ?_ (by have h_ := Kd.R_ne HO_5.out BK134.out (by decide); intro e_; exact h_ (by rw [e_]; rfl)) _; (with_reducible repeat (first | refine blk_drewN ?_ _ | refine blk_drew ?_ | refine blk_alloc ?_ _)); exact BK134.out⟩, ⟨by repeat (first | (with_reducible first | exact HB.out | apply below_alloc | apply pw_below_drewN | apply below_drew1 | refine below_set ?_ GB135.out | refine below_set ?_ GE133.out | refine below_set ?_ GE134.out | refine below_set ?_ GE139.out) | exact HB.out)⟩⟩
 rw [if_neg c11] at H
 have c11b0 := decide_eq_false c11
 clear c11
 have H' := Aside0.mk H
 clear H
 go_wp2
 go_loopg [38] k1 (fun kq v38 w' => ∃ (x38_2 : Int) (x135002_2 : Int), v38 = .int .i64 x38_2 ∧ Aside0 (impl_joinPieces.l1 kq x5_1 x38_2 x135000_1 x135001_1 x135002_2 = some (r1, r2, r3, r4)) ∧ Aside0 (kq ≤ k1) ∧ Aside0 (Kd.R (Kd.int .i64) 123 w' w.heap.size (fun _ => True) (.slice (some ⟨gb135, 0, none⟩) 5 5) x5_1) ∧ Aside0 (w'.heap[gb133]? = some (.cells #[.int .i64 0, .int .i64 0, .int .i64 0] 29 (0, 0))) ∧ Aside0 (w'.heap[gb134]? = some (.cells #[.int .i64 x135000_1, .int .i64 x135001_1, .int .i64 x135002_2] 29 (0, 0))) ∧ Aside0 (Below w.heap.size w w'))
 case atStart => exact ⟨(0), (0), (by first | rfl | (simp; done) | (simp [*]; done)), H', ⟨Nat.le_refl _⟩, ⟨Kd.R_p HO_5⟩, ⟨kp_ BK133⟩, ⟨kp_ BK134⟩, ⟨hb_ HB⟩⟩
 clear H'
 obtain ⟨x38_2, x135002_2, rfl, HA, HK2, HO_5, BK133, BK134, HB⟩ := hrel
 cases gk with
 | zero => exact absurd HA.out (by simp [impl_joinPieces.l1])
 | succ k2 => ?_
 have H := HA.out
 clear HA
 simp only [impl_joinPieces.l1] at H
 by_cases c26 : x38_2 < 5
 ·rw [if_pos c26] at H
  have c26b0 := decide_eq_true c26
  clear c26
  by_cases c27 : 0 ≤ x38_2
  case neg => rw [if_neg c27] at H; exact absurd H (by simp)
  rw [if_pos c27] at H
  have c27b0 := decide_eq_true c27
  clear c27
  by_cases c28 : 0 ≤ x135002_2
  case neg => rw [if_neg c28] at H; exact absurd H (by simp)
  rw [if_pos c28] at H
  have c28b0 := decide_eq_true c28
  clear c28
  by_cases c29 : x135002_2 < 5
  case neg => rw [if_neg c29] at H; exact absurd H (by simp)
  rw [if_pos c29] at H
  have c29b0 := decide_eq_true c29
  clear c29
  by_cases c30 : (rd x5_1 x38_2) > (rd x5_1 x135002_2)
  ·rw [if_pos c30] at H
   have c30b0 : decide ((rd x5_1 x135002_2) < (rd x5_1 x38_2)) = true := decide_eq_true c30
   clear c30
   have H' := Aside0.mk H
   clear H
   try go_wp2
   replace HO_5 := Aside0.mk (Kd.R_drew HO_5.out)
   replace BK133 := Aside0.mk (blk_drew BK133.out)
   replace BK134 := Aside0.mk (blk_drew BK134.out)
   replace HB := Aside0.mk (below_drew1 HB.out)
   have p142 : 0 ≤ (x38_2 : Int) := of_decide_eq_true (by first | (with_reducible assumption) | assumption)
   have q142 : x38_2 < (x5_1.length : Int) := (by have h_ : (x38_2 : Int) < (5 : Int) := of_decide_eq_true (by first | (with_reducible assumption) | assumption); have e_ := (Kd.R_reads' HO_5.out).1; omega)
   have ql142 : ((x38_2 : Int) < (5 : Int)) = True := eq_true (of_decide_eq_true (by first | (with_reducible assumption) | assumption))
   obtain ⟨ad142, e142, hx142_0⟩ := Kd.at_int (Kd.R_reads' HO_5.out).2.2 x38_2 p142 q142
   obtain rfl : (⟨gb135, 0, none⟩ : Addr) = ad142 := (by injection e142)
   (first | simp only [add_plain] at hx142_0 | simp only [add_at] at hx142_0 | simp only [Addr.add, Nat.zero_add] at hx142_0 | skip)
   replace p142 := eq_true p142
   replace q142 := eq_true q142
   have p143 : 0 ≤ (x135002_2 : Int) := of_decide_eq_true (by first | (with_reducible assumption) | assumption)
   have q143 : x135002_2 < (x5_1.length : Int) := (by have h_ : (x135002_2 : Int) < (5 : Int) := of_decide_eq_true (by first | (with_reducible assumption) | assumption); have e_ := (Kd.R_reads' HO_5.out).1; omega)
   have ql143 : ((x135002_2 : Int) < (5 : Int)) = True := eq_true (of_decide_eq_true (by first | (with_reducible assumption) | assumption))
   obtain ⟨ad143, e143, hx143_0⟩ := Kd.at_int (Kd.R_reads' HO_5.out).2.2 x135002_2 p143 q143
   obtain rfl : (⟨gb135, 0, none⟩ : Addr) = ad143 := (by injection e143)
   (first | simp only [add_plain] at hx143_0 | simp only [add_at] at hx143_0 | simp only [Addr.add, Nat.zero_add] at hx143_0 | skip)
   replace p143 := eq_true p143
   replace q143 := eq_true q143
   refine start_ (n := 8) (S := fun w' => w'.cell? ⟨gb134, 0, none⟩ = some (.int .i64 x135000_1) ∧ w'.cell? ⟨gb134, 1, none⟩ = some (.int .i64 x135001_1) ∧ w'.cell? ⟨gb134, 2, none⟩ = some (.int .i64 x135002_2) ∧ w'.cell? ⟨gb135, (x38_2).toNat, none⟩ = some (.int .i64 (rd x5_1 x38_2)) ∧ w'.cell? ⟨gb135, (x135002_2).toNat, none⟩ = some (.int .i64 (rd x5_1 x135002_2))) (ds := []) (bb 8 0) (by kernel_rfl) rfl rfl ⟨(blk_cell BK134.out 0).trans rfl, (blk_cell BK134.out 1).trans rfl, (blk_cell BK134.out 2).trans rfl, hx142_0, hx143_0⟩ (fun hHeld => ?_); refine with_tabW impl_joinPieces.tab13 impl_joinPieces.bits13 (fun HT_ HW_ => ?_)
   generalize wr.drew = w31 at HO_5 BK133 BK134 HB hx142_0 hx143_0 hHeld ⊢
   refine pl_ HT_ 0 (some 41) (bb 8 1) (h := ?_)
   refine pl_ HT_ 1 (some 42) (bb 8 3) (h := ?_)
   refine pl_ HT_ 3 (some 44) (bb 8 11) (h := ?_)
   refine tk_ HT_ HW_ hHeld 2 (some 43) (bb 8 15) (h := ?_)
   refine tk_ HT_ HW_ hHeld 4 (some 45) (bb 8 31) (h := ?_)
   refine pl_ HT_ 5 (some 46) (bb 8 63) (h := ?_)
   refine tk_ HT_ HW_ hHeld 6 (some 47) (bb 8 127) (h := ?_)
   refine pl_ HT_ 7 (some 48) (bb 8 255) (h := ?_)
   refine done_ (done_of HT_.out (by kernel_rfl)) ?_
   have := NB134_133.out
   have := NB133_134.out
   obtain ⟨hcz33_0, hcz33_1, hcz33_2, hfz33_0, hfz33_1, hfz33_2⟩ := bx3 BK134
   try go_wp2
   go_roundg k2
   case measure => have := HK1.out; have := HK2.out; omega
   case rel => exact ⟨(wrap64 (x38_2 + 1)), (x38_2), (by first | rfl | (simp; done) | (simp [*]; done)), H', ⟨by have := HK1.out; have := HK2.out; omega⟩, ⟨Kd.R_mono (Kd.R_s HO_5 BK134) (fun _ hk => trivial)⟩, ⟨kf_ BK133 NB133_134⟩, ⟨kpq_ (kputs BK134 [(2, _)])⟩, ⟨hb_ HB⟩⟩
  rw [if_neg c30] at H
  have c30b0 : decide ((rd x5_1 x135002_2) < (rd x5_1 x38_2)) = false := decide_eq_false c30
  clear c30
  have H' := Aside0.mk H
  clear H
  try go_wp2
  replace HO_5 := Aside0.mk (Kd.R_drew HO_5.out)
  replace BK133 := Aside0.mk (blk_drew BK133.out)
  replace BK134 := Aside0.mk (blk_drew BK134.out)
  replace HB := Aside0.mk (below_drew1 HB.out)
  have p142 : 0 ≤ (x38_2 : Int) := of_decide_eq_true (by first | (with_reducible assumption) | assumption)
  have q142 : x38_2 < (x5_1.length : Int) := (by have h_ : (x38_2 : Int) < (5 : Int) := of_decide_eq_true (by first | (with_reducible assumption) | assumption); have e_ := (Kd.R_reads' HO_5.out).1; omega)
  have ql142 : ((x38_2 : Int) < (5 : Int)) = True := eq_true (of_decide_eq_true (by first | (with_reducible assumption) | assumption))
  obtain ⟨ad142, e142, hx142_0⟩ := Kd.at_int (Kd.R_reads' HO_5.out).2.2 x38_2 p142 q142
  obtain rfl : (⟨gb135, 0, none⟩ : Addr) = ad142 := (by injection e142)
  (first | simp only [add_plain] at hx142_0 | simp only [add_at] at hx142_0 | simp only [Addr.add, Nat.zero_add] at hx142_0 | skip)
  replace p142 := eq_true p142
  replace q142 := eq_true q142
  have p143 : 0 ≤ (x135002_2 : Int) := of_decide_eq_true (by first | (with_reducible assumption) | assumption)
  have q143 : x135002_2 < (x5_1.length : Int) := (by have h_ : (x135002_2 : Int) < (5 : Int) := of_decide_eq_true (by first | (with_reducible assumption) | assumption); have e_ := (Kd.R_reads' HO_5.out).1; omega)
  have ql143 : ((x135002_2 : Int) < (5 : Int)) = True := eq_true (of_decide_eq_true (by first | (with_reducible assumption) | assumption))
  obtain ⟨ad143, e143, hx143_0⟩ := Kd.at_int (Kd.R_reads' HO_5.out).2.2 x135002_2 p143 q143
  obtain rfl : (⟨gb135, 0, none⟩ : Addr) = ad143 := (by injection e143)
  (first | simp only [add_plain] at hx143_0 | simp only [add_at] at hx143_0 | simp only [Addr.add, Nat.zero_add] at hx143_0 | skip)
  replace p143 := eq_true p143
  replace q143 := eq_true q143
  refine start_ (n := 8) (S := fun w' => w'.cell? ⟨gb134, 0, none⟩ = some (.int .i64 x135000_1) ∧ w'.cell? ⟨gb134, 1, none⟩ = some (.int .i64 x135001_1) ∧ w'.cell? ⟨gb134, 2, none⟩ = some (.int .i64 x135002_2) ∧ w'.cell? ⟨gb135, (x38_2).toNat, none⟩ = some (.int .i64 (rd x5_1 x38_2)) ∧ w'.cell? ⟨gb135, (x135002_2).toNat, none⟩ = some (.int .i64 (rd x5_1 x135002_2))) (ds := []) (bb 8 0) (by kernel_rfl) rfl rfl ⟨(blk_cell BK134.out 0).trans rfl, (blk_cell BK134.out 1).trans rfl, (blk_cell BK134.out 2).trans rfl, hx142_0, hx143_0⟩ (fun hHeld => ?_); refine with_tabW impl_joinPieces.tab13 impl_joinPieces.bits13 (fun HT_ HW_ => ?_)
  generalize wr.drew = w34 at HO_5 BK133 BK134 HB hx142_0 hx143_0 hHeld ⊢
  refine pl_ HT_ 0 (some 41) (bb 8 1) (h := ?_)
  refine pl_ HT_ 1 (some 42) (bb 8 3) (h := ?_)
  refine pl_ HT_ 3 (some 44) (bb 8 11) (h := ?_)
  refine tk_ HT_ HW_ hHeld 2 (some 43) (bb 8 15) (h := ?_)
  refine tk_ HT_ HW_ hHeld 4 (some 45) (bb 8 31) (h := ?_)
  refine pl_ HT_ 5 (some 46) (bb 8 63) (h := ?_)
  refine tk_ HT_ HW_ hHeld 6 (some 47) (bb 8 127) (h := ?_)
  refine pl_ HT_ 7 (some 48) (bb 8 255) (h := ?_)
  refine done_ (done_of HT_.out (by kernel_rfl)) ?_
  try go_wp2
  go_roundg k2
  case measure => have := HK1.out; have := HK2.out; omega
  case rel => exact ⟨(wrap64 (x38_2 + 1)), (x135002_2), (by first | rfl | (simp; done) | (simp [*]; done)), H', ⟨by have := HK1.out; have := HK2.out; omega⟩, ⟨Kd.R_p HO_5⟩, ⟨kp_ BK133⟩, ⟨kp_ BK134⟩, ⟨hb_ HB⟩⟩
 rw [if_neg c26] at H
 have c26b0 := decide_eq_false c26
 clear c26
 by_cases c35 : x135000_1 > 10000
 ·rw [if_pos c35] at H
  have c35b0 : decide (10000 < x135000_1) = true := decide_eq_true c35
  clear c35
  simp only [Option.some.injEq, Prod.mk.injEq] at H
  obtain ⟨rfl, rfl, rfl, rfl⟩ := H
  have := NB134_133.out
  have := NB133_134.out
  obtain ⟨hcz37_0, hcz37_1, hcz37_2, hfz37_0, hfz37_1, hfz37_2⟩ := bx3 BK134
  obtain ⟨hcz38_0, hcz38_1, hcz38_2, hfz38_0, hfz38_1, hfz38_2⟩ := bx3 BK133
  go_wp2
  refine bodyPost_ret (results_ct rfl _ _ gb133 29 #[.int .i64 0, .int .i64 0, .int .i64 0] (0, 0) _ rfl (kpq_ (kputs BK133 [(0, _), (1, _), (2, _)])) Try.underlying29 rfl (by kernel_rfl)) rfl ?_
  exact ad_ (hb_ HB)
 rw [if_neg c35] at H
 have c35b0 : decide (10000 < x135000_1) = false := decide_eq_false c35
 clear c35
 simp only [Option.some.injEq, Prod.mk.injEq] at H
 obtain ⟨rfl, rfl, rfl, rfl⟩ := H
 have := NB134_133.out
 have := NB133_134.out
 obtain ⟨hcz40_0, hcz40_1, hcz40_2, hfz40_0, hfz40_1, hfz40_2⟩ := bx3 BK134
 obtain ⟨hcz41_0, hcz41_1, hcz41_2, hfz41_0, hfz41_1, hfz41_2⟩ := bx3 BK133
 go_wp2
 refine bodyPost_ret (results_ct rfl _ _ gb133 29 #[.int .i64 x135000_1, .int .i64 x135001_1, .int .i64 x135002_2] (0, 0) _ rfl (kpq_ (kputs BK133 [(0, _), (1, _), (2, _)])) Try.underlying29 rfl (by kernel_rfl)) rfl ?_
 exact ad_ (hb_ HB)

end Go.Proofs.Ytceajigggcihnaa.PFnCoarse
