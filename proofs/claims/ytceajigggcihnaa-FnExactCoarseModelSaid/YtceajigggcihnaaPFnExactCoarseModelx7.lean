-- Laid for this claim by wip/tools/print2.sh, a changed copy of the kit's print (wip/tools/patch_print.py): not by print.sh.
import Derived.Test.YtceajigggcihnaaPFnExactCoarseModelx0
namespace Go.Proofs.Ytceajigggcihnaa.PFnExactCoarseModel
open Go.RowKit Go.Proofs.YtceajigggcihnaaW.PrintWords Go.Proofs.YtceajigggcihnaaW.PrintLast Go.Proofs.YtceajigggcihnaaW.PrintMore
attribute [local go_sem] max2_int min2_int max_two min_two max_three min_three max_four min_four   -- for this text's walks alone
set_option linter.unusedVariables false
set_option linter.unusedSimpArgs false

/-! ### impl_joinPieces: function 69 -/
mutual
def impl_joinPieces.l0 : Nat → List Int → List (S29) → Int → Int → Int → Int → Int → Option (Int × Int × Int × Bool)
 | 0, _, _, _, _, _, _, _ => none
 | k + 1, x5, x11, x12, x13, x259000, x259001, x259002 => if x13 < x12 then (if 0 ≤ x13 then (if x13 < (x11.length : Int) then (if 0 ≤ ((rd_T29 x11 x13).f2) then (if ((rd_T29 x11 x13).f2) < 5 then (impl_joinPieces.l0 k (x5.set (((rd_T29 x11 x13).f2) : Int).toNat (wrap64 ((rd x5 ((rd_T29 x11 x13).f2)) + ((rd_T29 x11 x13).f0)))) x11 x12 (wrap64 (x13 + 1)) (wrap64 (x259000 + ((rd_T29 x11 x13).f0))) (wrap64 (x259001 + ((rd_T29 x11 x13).f1))) x259002) else (none)) else (none)) else (none)) else (none)) else (impl_joinPieces.l1 k x5 0 x259000 x259001 x259002)
def impl_joinPieces.l1 : Nat → List Int → Int → Int → Int → Int → Option (Int × Int × Int × Bool)
 | 0, _, _, _, _, _ => none
 | k + 1, x5, x38, x259000, x259001, x259002 => if x38 < 5 then (if 0 ≤ x38 then (if 0 ≤ x259002 then (if x259002 < 5 then (if (rd x5 x38) > (rd x5 x259002) then (impl_joinPieces.l1 k x5 (wrap64 (x38 + 1)) x259000 x259001 x38) else (impl_joinPieces.l1 k x5 (wrap64 (x38 + 1)) x259000 x259001 x259002)) else (none)) else (none)) else (none)) else (if x259000 > 10000 then (some (0, 0, 0, false)) else (some (x259000, x259001, x259002, true)))
end
def impl_joinPieces.f (k : Nat) (l0 : List (S29)) : Option (Int × Int × Int × Bool) := impl_joinPieces.l0 k (List.replicate 5 0) l0 (l0.length : Int) 0 0 0 0
def impl_joinPieces.T8 : Bool × List (List Nat × List Nat) := (true, [([], []), ([0], [0]), ([1], [1]), ([2], [2]), ([], []), ([4], [4]), ([3, 5], [3, 5]), ([1, 0, 1, 2, 3, 4, 5, 6], [1]), ([7, 6, 0, 1, 2, 3, 4, 5, 6], [6, 7])])
def impl_joinPieces.B8 : List Nat := [0, 1, 3, 7, 0, 16, 63, 127, 255]
theorem impl_joinPieces.tab8 : rtab .any (opsOf Try.f69 8) = impl_joinPieces.T8 := by kernel_rfl
theorem impl_joinPieces.bits8 : waitsOk impl_joinPieces.T8.2 impl_joinPieces.B8 = true := by kernel_rfl
def impl_joinPieces.T13 : Bool × List (List Nat × List Nat) := (true, [([], []), ([0], [0]), ([1], [1]), ([], []), ([3], [3]), ([4], [4]), ([5], [5]), ([2, 6], [2, 6])])
def impl_joinPieces.B13 : List Nat := [0, 1, 3, 0, 8, 24, 56, 127]
theorem impl_joinPieces.tab13 : rtab .any (opsOf Try.f69 13) = impl_joinPieces.T13 := by kernel_rfl
theorem impl_joinPieces.bits13 : waitsOk impl_joinPieces.T13.2 impl_joinPieces.B13 = true := by kernel_rfl
set_option maxHeartbeats 8000000 in
set_option maxRecDepth 100000 in
theorem impl_joinPieces.calls (k : Nat) (A0 : Option Addr) (c0 : Nat) (l0 : List (S29)) (r1 : Int) (r2 : Int) (r3 : Int) (r4 : Bool) (w : World) (hr0 : Kd.C k29 w A0 l0.length l0) (hc0 : l0.length ≤ c0) (h : impl_joinPieces.f k l0 = some (r1, r2, r3, r4)) :
  Calls Try.prog 69 #[.slice A0 l0.length c0] w fun e w' => e = .returned (.tuple #[.agg #[.int .i64 r1, .int .i64 r2, .int .i64 r3], .bool r4]) ∧ Below w.heap.size w w' := by
 have hu29 := Try.underlying29
 have HR0 := Aside0.mk hr0
 have HC0 := Aside0.mk hc0
 clear hr0 hc0
 have HB := Aside0.mk (Below.refl w.heap.size w)
 have H : (impl_joinPieces.l0 k (List.replicate 5 0) l0 (l0.length : Int) 0 0 0 0) = some (r1, r2, r3, r4) := h
 clear h
 obtain ⟨y260, hy260⟩ : ∃ y_ : List Int, y_ = (List.replicate 5 0) := ⟨_, rfl⟩
 replace H : (impl_joinPieces.l0 k y260 l0 (l0.length : Int) 0 0 0 0) = some (r1, r2, r3, r4) := by first | (rw [hy260]; with_reducible exact H) | (have H2_ := (Option.bind_some _ _).symm.trans H; rw [hy260]; with_reducible exact H2_) | (have H2_ := (Option.bind_some _ _).symm.trans H; with_reducible exact H2_) | with_reducible exact H | (rw [hy260]; exact H) | exact H
 have Ny260 := Aside0.mk hy260
 clear hy260
 have H' := Aside0.mk H
 clear H
 go_enter Try.func69, Try.ntmps69
 go_wp2_with (first | ((with_reducible refine gate_dst (N := 2) rfl ?_); refine box_event ?hg (N := 2) ?hd (cs := #[.int .i64 0, .int .i64 0, .int .i64 0]) (t := 29) ?hr ?_; (case hd => rfl); (case hg => rfl); (case hr => first | (go_simp; done) | (go_simp; rfl)); intro gb257 hg w2 hbox hb; have BK257 := Aside0.mk (hbox); have GW257 := gs_ hg HB; have GE257 := gs_ hg HB; replace HB := hbs_ HB hb; clear hb hbox hg) | ((with_reducible refine gate_dst (N := 4) rfl ?_); refine box_event ?hg (N := 4) ?hd (cs := #[.int .i64 0, .int .i64 0, .int .i64 0]) (t := 29) ?hr ?_; (case hd => rfl); (case hg => rfl); (case hr => first | (go_simp; done) | (go_simp; rfl)); intro gb258 hg w3 hbox hb; have BK258 := Aside0.mk (hbox); have GW258 := gs_ hg HB; have GE258 := gs_ hg HB; have NB257_258 := nl_ hg BK257; have NB258_257 := ng_ hg BK257; replace BK257 := kb_ BK257 hb; replace HB := hbs_ HB hb; clear hb hbox hg; have hnb4 := NB258_257.out; have hnc4 := NB257_258.out; obtain ⟨hcz5_0, hcz5_1, hcz5_2, hfz5_0, hfz5_1, hfz5_2⟩ := bx3 BK258) | ((with_reducible refine gate_dst (N := 5) rfl ?_); refine box_event ?hg (N := 5) ?hd (cs := #[.int .i64 0, .int .i64 0, .int .i64 0, .int .i64 0, .int .i64 0]) (t := 123) ?hr ?_; (case hd => rfl); (case hg => rfl); (case hr => first | (go_simp; done) | (go_simp; rfl)); intro gb259 hg w6 hbox hb; have BK259 := Aside0.mk (hbox); have GW259 := gs_ hg HB; have GE259 := gs_ hg HB; have NB257_259 := Aside0.mk ((by rw [hg]; exact Nat.ne_of_lt (blk_lt (kf_ BK257 NB257_258)) : gb257 ≠ gb259)); have NB259_257 := Aside0.mk ((by rw [hg]; exact Nat.ne_of_gt (blk_lt (kf_ BK257 NB257_258)) : gb259 ≠ gb257)); have NB258_259 := Aside0.mk ((by rw [hg]; exact Nat.ne_of_lt (blk_lt (g := gb258) (o := .cells #[.int .i64 0, .int .i64 0, .int .i64 0] 29 (0, 0)) (kpq_ (kputs BK258 [(0, _), (1, _), (2, _)]))) : gb258 ≠ gb259)); have NB259_258 := Aside0.mk ((by rw [hg]; exact Nat.ne_of_gt (blk_lt (g := gb258) (o := .cells #[.int .i64 0, .int .i64 0, .int .i64 0] 29 (0, 0)) (kpq_ (kputs BK258 [(0, _), (1, _), (2, _)]))) : gb259 ≠ gb258)); replace BK257 := kfb_ BK257 NB257_258 hb; replace BK258 := Aside0.mk (blk_below (g := gb258) (o := .cells #[.int .i64 0, .int .i64 0, .int .i64 0] 29 (0, 0)) (kpq_ (kputs BK258 [(0, _), (1, _), (2, _)])) hb); replace HB := hbs_ HB hb; clear hb hbox hg; have hnb7 := NB259_257.out; have hnc7 := NB257_259.out; have hnb8 := NB259_258.out; have hnc8 := NB258_259.out; obtain ⟨hcz9_0, hcz9_1, hcz9_2, hcz9_3, hcz9_4, hfz9_0, hfz9_1, hfz9_2, hfz9_3, hfz9_4⟩ := bx5 BK259) | ((with_reducible refine gate_store (t := 123) (p := 5) rfl ?_); refine store_event (t := 123) (p := 5) (v := ?vo_w10) (w1 := (((((w6.setCell ⟨gb259, 0, none⟩ (.int .i64 0)).setCell ⟨gb259, 1, none⟩ (.int .i64 0)).setCell ⟨gb259, 2, none⟩ (.int .i64 0)).setCell ⟨gb259, 3, none⟩ (.int .i64 0)).setCell ⟨gb259, 4, none⟩ (.int .i64 0))) ?hg ?ho ?hn ?hr ?_; (case ho => rfl); (case hg => rfl); (case hn => rfl); (case hr => first | (go_simp; done) | (go_simp; rfl)); intro w10 hw; have n0_ : Aside0 (w10.heap[gb257]? = some (.cells #[.int .i64 0, .int .i64 0, .int .i64 0] 29 (0, 0))) := ⟨(by rw [hw]; exact (kf_ BK257 NB257_259))⟩; have n1_ : Aside0 (w10.heap[gb258]? = some (.cells #[.int .i64 0, .int .i64 0, .int .i64 0] 29 (0, 0))) := ⟨(by rw [hw]; exact (kf_ BK258 NB258_259))⟩; have n2_ : Aside0 (w10.heap[gb259]? = some (.cells #[.int .i64 0, .int .i64 0, .int .i64 0, .int .i64 0, .int .i64 0] 123 (0, 0))) := ⟨(by rw [hw]; exact (kpq_ (kputs BK259 [(0, _), (1, _), (2, _), (3, _), (4, _)])))⟩; have n3_ : Aside0 (Below w.heap.size w w10) := ⟨(by rw [hw]; exact (hb_ HB))⟩; clear hw BK257 BK258 BK259 HB; have BK257 := n0_; have BK258 := n1_; have BK259 := n2_; have HB := n3_; clear n0_ n1_ n2_ n3_; have HO261 := Aside0.mk (Kd.R_arr (k := .i64) (base := w.heap.size) y260 BK259.out (by rw [Ny260.out] <;> rfl) (by rw [Ny260.out] <;> rfl) GE259.out); have GB259 := GE259; have GG259 := Aside0.mk (show ∃ cells, (_ : World).heap[gb259]? = some (.cells cells 123 (0, 0)) from ⟨_, BK259.out⟩); try clear NB259_257; try clear NB257_259; try clear NB259_258; try clear NB258_259; clear BK259))
 go_loopg [13] k (fun kq v13 w' => ∃ (x5_1 : List Int) (x13_1 : Int) (x259000_1 : Int) (x259001_1 : Int), v13 = .int .i64 x13_1 ∧ Aside0 (impl_joinPieces.l0 kq x5_1 l0 (l0.length : Int) x13_1 x259000_1 x259001_1 0 = some (r1, r2, r3, r4)) ∧ Aside0 (kq ≤ k) ∧ Aside0 (Kd.R (Kd.int .i64) 123 w' w.heap.size (fun _ => True) (.slice (some ⟨gb259, 0, none⟩) 5 5) x5_1) ∧ Aside0 (w'.heap[gb257]? = some (.cells #[.int .i64 0, .int .i64 0, .int .i64 0] 29 (0, 0))) ∧ Aside0 (w'.heap[gb258]? = some (.cells #[.int .i64 x259000_1, .int .i64 x259001_1, .int .i64 0] 29 (0, 0))) ∧ Aside0 (Below w.heap.size w w'))
 case atStart => exact ⟨(y260), (0), (0), (0), (by first | rfl | (simp; done) | (simp [*]; done)), H', ⟨Nat.le_refl _⟩, ⟨Kd.R_p HO261⟩, ⟨kp_ BK257⟩, ⟨kp_ BK258⟩, ⟨hb_ HB⟩⟩
 case round =>
  clear H'
  (try clear p2); (try clear c4); (try clear c6); (try clear c7); (try clear c8); (try clear hcz5_0); (try clear hcz5_1); (try clear hcz5_2); (try clear hcz9_0); (try clear hcz9_1); (try clear hcz9_2); (try clear hcz9_3); (try clear hcz9_4); (try clear hfz5_0); (try clear hfz5_1); (try clear hfz5_2); (try clear hfz9_0); (try clear hfz9_1); (try clear hfz9_2); (try clear hfz9_3); (try clear hfz9_4)
  obtain ⟨x5_1, x13_1, x259000_1, x259001_1, rfl, HA, HK1, HO_5, BK257, BK258, HB⟩ := hrel
  cases gk with
  | zero => exact absurd HA.out (by simp [impl_joinPieces.l0])
  | succ k1 =>
   have H := HA.out
   clear HA
   simp only [impl_joinPieces.l0] at H
   by_cases c11 : x13_1 < (l0.length : Int)
   ·rw [if_pos c11] at H
    have c11b0 : decide (x13_1 < (l0.length : Int)) = true := decide_eq_true c11
    clear c11
    by_cases c12 : 0 ≤ x13_1
    ·rw [if_pos c12] at H
     have c12b0 : decide (0 ≤ x13_1) = true := decide_eq_true c12
     clear c12
     by_cases c13 : x13_1 < (l0.length : Int)
     ·rw [if_pos c13] at H
      have c13b0 : decide (x13_1 < (l0.length : Int)) = true := decide_eq_true c13
      clear c13
      by_cases c14 : 0 ≤ ((rd_T29 l0 x13_1).f2)
      ·rw [if_pos c14] at H
       have c14b0 : decide (0 ≤ ((rd_T29 l0 x13_1).f2)) = true := decide_eq_true c14
       clear c14
       by_cases c15 : ((rd_T29 l0 x13_1).f2) < 5
       ·rw [if_pos c15] at H
        have c15b0 : decide (((rd_T29 l0 x13_1).f2) < 5) = true := decide_eq_true c15
        clear c15
        obtain ⟨y265, hy265⟩ : ∃ y_ : List Int, y_ = (x5_1.set (((rd_T29 l0 x13_1).f2) : Int).toNat (wrap64 ((rd x5_1 ((rd_T29 l0 x13_1).f2)) + ((rd_T29 l0 x13_1).f0)))) := ⟨_, rfl⟩
        replace H : (impl_joinPieces.l0 k1 y265 l0 (l0.length : Int) (wrap64 (x13_1 + 1)) (wrap64 (x259000_1 + ((rd_T29 l0 x13_1).f0))) (wrap64 (x259001_1 + ((rd_T29 l0 x13_1).f1))) 0) = some (r1, r2, r3, r4) := by first | (rw [hy265]; with_reducible exact H) | (have H2_ := (Option.bind_some _ _).symm.trans H; rw [hy265]; with_reducible exact H2_) | (have H2_ := (Option.bind_some _ _).symm.trans H; with_reducible exact H2_) | with_reducible exact H | (rw [hy265]; exact H) | exact H
        have Ny265 := Aside0.mk hy265
        clear hy265
        have H' := Aside0.mk H
        clear H
        have p262 : 0 ≤ (x13_1 : Int) := of_decide_eq_true (by first | (with_reducible assumption) | assumption)
        have q262 : x13_1 < (l0.length : Int) := of_decide_eq_true (by first | (with_reducible assumption) | assumption)
        obtain ⟨ad262, e262, hx262_0, hx262_1, hx262_2⟩ := at_T29 HR0.out x13_1 p262 q262
        cases e262
        replace hx262_0 := (HB.out.cell (World.block_lt_of_cell? w _ hx262_0)).trans hx262_0
        replace hx262_1 := (HB.out.cell (World.block_lt_of_cell? w _ hx262_1)).trans hx262_1
        replace hx262_2 := (HB.out.cell (World.block_lt_of_cell? w _ hx262_2)).trans hx262_2
        replace p262 := eq_true p262
        replace q262 := eq_true q262
        try go_wp2_with (first | ((with_reducible refine gate_dst (N := 7) rfl ?_); refine box_event ?hg (N := 7) ?hd (cs := #[.int .i64 0, .int .i64 0, .int .i64 0]) (t := 29) ?hr ?_; (case hd => rfl); (case hg => rfl); (case hr => first | (go_simp; done) | (go_simp; rfl)); intro gb263 hg w17 hbox hb; have BK263 := Aside0.mk (hbox); have GW263 := gs_ hg HB; have GE263 := gs_ hg HB; have NB257_263 := nl_ hg BK257; have NB263_257 := ng_ hg BK257; have NB258_263 := nl_ hg BK258; have NB263_258 := ng_ hg BK258; replace HO_5 := Kd.R_b HO_5 hb; replace BK257 := kb_ BK257 hb; replace BK258 := kb_ BK258 hb; replace HB := hbs_ HB hb; clear hb hbox hg; have hnb18 := NB263_257.out; have hnc18 := NB257_263.out; have hnb19 := NB263_258.out; have hnc19 := NB258_263.out; obtain ⟨hcz20_0, hcz20_1, hcz20_2, hfz20_0, hfz20_1, hfz20_2⟩ := bx3 BK263; have hnb21 := NB258_257.out; have hnc21 := NB257_258.out; obtain ⟨hcz22_0, hcz22_1, hcz22_2, hfz22_0, hfz22_1, hfz22_2⟩ := bx3 BK258))
        have n0_ : Aside0 (Kd.R (Kd.int .i64) 123 (((((w17.setCell ⟨gb263, 0, none⟩ (.int .i64 ((rd_T29 l0 x13_1).f0))).setCell ⟨gb263, 1, none⟩ (.int .i64 ((rd_T29 l0 x13_1).f1))).setCell ⟨gb263, 2, none⟩ (.int .i64 ((rd_T29 l0 x13_1).f2))).setCell ⟨gb258, 0, none⟩ (.int .i64 (wrap64 (x259000_1 + ((rd_T29 l0 x13_1).f0))))).setCell ⟨gb258, 1, none⟩ (.int .i64 (wrap64 (x259001_1 + ((rd_T29 l0 x13_1).f1))))) w.heap.size (fun _ => True) (.slice (some ⟨gb259, 0, none⟩) 5 5) x5_1) := ⟨Kd.R_pp (Kd.R_mono (Kd.R_far (p := ⟨gb258, 1, none⟩) (Kd.R_far (p := ⟨gb258, 0, none⟩) (Kd.R_far (p := ⟨gb263, 2, none⟩) (Kd.R_far (p := ⟨gb263, 1, none⟩) (Kd.R_far (p := ⟨gb263, 0, none⟩) (Kd.R_types (Kd.R_types HO_5.out BK263.out (by decide)) BK258.out (by decide)) (fun _ hk => hk.1.2) (.int .i64 ((rd_T29 l0 x13_1).f0))) (fun _ hk => hk.1.2) (.int .i64 ((rd_T29 l0 x13_1).f1))) (fun _ hk => hk.1.2) (.int .i64 ((rd_T29 l0 x13_1).f2))) (fun _ hk => hk.2) (.int .i64 (wrap64 (x259000_1 + ((rd_T29 l0 x13_1).f0))))) (fun _ hk => hk.2) (.int .i64 (wrap64 (x259001_1 + ((rd_T29 l0 x13_1).f1))))) (fun _ hk => trivial))⟩
        have n1_ : Aside0 ((((((w17.setCell ⟨gb263, 0, none⟩ (.int .i64 ((rd_T29 l0 x13_1).f0))).setCell ⟨gb263, 1, none⟩ (.int .i64 ((rd_T29 l0 x13_1).f1))).setCell ⟨gb263, 2, none⟩ (.int .i64 ((rd_T29 l0 x13_1).f2))).setCell ⟨gb258, 0, none⟩ (.int .i64 (wrap64 (x259000_1 + ((rd_T29 l0 x13_1).f0))))).setCell ⟨gb258, 1, none⟩ (.int .i64 (wrap64 (x259001_1 + ((rd_T29 l0 x13_1).f1))))).heap[gb257]? = some (.cells #[.int .i64 0, .int .i64 0, .int .i64 0] 29 (0, 0))) := ⟨by (with_reducible repeat (first | refine blk_drewN ?_ _ | refine blk_drew ?_ | refine blk_alloc ?_ _)); refine blk_far ?_ NB257_258.out _; (with_reducible repeat (first | refine blk_drewN ?_ _ | refine blk_drew ?_ | refine blk_alloc ?_ _)); refine blk_far ?_ NB257_258.out _; (with_reducible repeat (first | refine blk_drewN ?_ _ | refine blk_drew ?_ | refine blk_alloc ?_ _)); refine blk_far ?_ NB257_263.out _; (with_reducible repeat (first | refine blk_drewN ?_ _ | refine blk_drew ?_ | refine blk_alloc ?_ _)); refine blk_far ?_ NB257_263.out _; (with_reducible repeat (first | refine blk_drewN ?_ _ | refine blk_drew ?_ | refine blk_alloc ?_ _)); refine blk_far ?_ NB257_263.out _; (with_reducible repeat (first | refine blk_drewN ?_ _ | refine blk_drew ?_ | refine blk_alloc ?_ _)); exact BK257.out⟩
        have n2_ : Aside0 ((((((w17.setCell ⟨gb263, 0, none⟩ (.int .i64 ((rd_T29 l0 x13_1).f0))).setCell ⟨gb263, 1, none⟩ (.int .i64 ((rd_T29 l0 x13_1).f1))).setCell ⟨gb263, 2, none⟩ (.int .i64 ((rd_T29 l0 x13_1).f2))).setCell ⟨gb258, 0, none⟩ (.int .i64 (wrap64 (x259000_1 + ((rd_T29 l0 x13_1).f0))))).setCell ⟨gb258, 1, none⟩ (.int .i64 (wrap64 (x259001_1 + ((rd_T29 l0 x13_1).f1))))).heap[gb258]? = some (.cells #[.int .i64 (wrap64 (x259000_1 + ((rd_T29 l0 x13_1).f0))), .int .i64 (wrap64 (x259001_1 + ((rd_T29 l0 x13_1).f1))), .int .i64 0] 29 (0, 0))) := ⟨by (with_reducible repeat (first | refine blk_drewN ?_ _ | refine blk_drew ?_ | refine blk_alloc ?_ _)); refine blk_put (cs := #[.int .i64 (wrap64 (x259000_1 + ((rd_T29 l0 x13_1).f0))), .int .i64 x259001_1, .int .i64 0]) ?_ 1 _ rfl; (with_reducible repeat (first | refine blk_drewN ?_ _ | refine blk_drew ?_ | refine blk_alloc ?_ _)); refine blk_put (cs := #[.int .i64 x259000_1, .int .i64 x259001_1, .int .i64 0]) ?_ 0 _ rfl; (with_reducible repeat (first | refine blk_drewN ?_ _ | refine blk_drew ?_ | refine blk_alloc ?_ _)); refine blk_far ?_ NB258_263.out _; (with_reducible repeat (first | refine blk_drewN ?_ _ | refine blk_drew ?_ | refine blk_alloc ?_ _)); refine blk_far ?_ NB258_263.out _; (with_reducible repeat (first | refine blk_drewN ?_ _ | refine blk_drew ?_ | refine blk_alloc ?_ _)); refine blk_far ?_ NB258_263.out _; (with_reducible repeat (first | refine blk_drewN ?_ _ | refine blk_drew ?_ | refine blk_alloc ?_ _)); exact BK258.out⟩
        have n3_ : Aside0 ((((((w17.setCell ⟨gb263, 0, none⟩ (.int .i64 ((rd_T29 l0 x13_1).f0))).setCell ⟨gb263, 1, none⟩ (.int .i64 ((rd_T29 l0 x13_1).f1))).setCell ⟨gb263, 2, none⟩ (.int .i64 ((rd_T29 l0 x13_1).f2))).setCell ⟨gb258, 0, none⟩ (.int .i64 (wrap64 (x259000_1 + ((rd_T29 l0 x13_1).f0))))).setCell ⟨gb258, 1, none⟩ (.int .i64 (wrap64 (x259001_1 + ((rd_T29 l0 x13_1).f1))))).heap[gb263]? = some (.cells #[.int .i64 ((rd_T29 l0 x13_1).f0), .int .i64 ((rd_T29 l0 x13_1).f1), .int .i64 ((rd_T29 l0 x13_1).f2)] 29 (0, 0))) := ⟨by (with_reducible repeat (first | refine blk_drewN ?_ _ | refine blk_drew ?_ | refine blk_alloc ?_ _)); refine blk_far ?_ NB263_258.out _; (with_reducible repeat (first | refine blk_drewN ?_ _ | refine blk_drew ?_ | refine blk_alloc ?_ _)); refine blk_far ?_ NB263_258.out _; (with_reducible repeat (first | refine blk_drewN ?_ _ | refine blk_drew ?_ | refine blk_alloc ?_ _)); refine blk_put (cs := #[.int .i64 ((rd_T29 l0 x13_1).f0), .int .i64 ((rd_T29 l0 x13_1).f1), .int .i64 0]) ?_ 2 _ rfl; (with_reducible repeat (first | refine blk_drewN ?_ _ | refine blk_drew ?_ | refine blk_alloc ?_ _)); refine blk_put (cs := #[.int .i64 ((rd_T29 l0 x13_1).f0), .int .i64 0, .int .i64 0]) ?_ 1 _ rfl; (with_reducible repeat (first | refine blk_drewN ?_ _ | refine blk_drew ?_ | refine blk_alloc ?_ _)); refine blk_put (cs := #[.int .i64 0, .int .i64 0, .int .i64 0]) ?_ 0 _ rfl; (with_reducible repeat (first | refine blk_drewN ?_ _ | refine blk_drew ?_ | refine blk_alloc ?_ _)); exact BK263.out⟩
        have n4_ : Aside0 (Below w.heap.size w (((((w17.setCell ⟨gb263, 0, none⟩ (.int .i64 ((rd_T29 l0 x13_1).f0))).setCell ⟨gb263, 1, none⟩ (.int .i64 ((rd_T29 l0 x13_1).f1))).setCell ⟨gb263, 2, none⟩ (.int .i64 ((rd_T29 l0 x13_1).f2))).setCell ⟨gb258, 0, none⟩ (.int .i64 (wrap64 (x259000_1 + ((rd_T29 l0 x13_1).f0))))).setCell ⟨gb258, 1, none⟩ (.int .i64 (wrap64 (x259001_1 + ((rd_T29 l0 x13_1).f1)))))) := ⟨hb_ HB⟩
        (try clear HO_5)
        (try clear BK257)
        (try clear BK258)
        (try clear BK263)
        (try clear HB)
        generalize (((((w17.setCell ⟨gb263, 0, none⟩ (.int .i64 ((rd_T29 l0 x13_1).f0))).setCell ⟨gb263, 1, none⟩ (.int .i64 ((rd_T29 l0 x13_1).f1))).setCell ⟨gb263, 2, none⟩ (.int .i64 ((rd_T29 l0 x13_1).f2))).setCell ⟨gb258, 0, none⟩ (.int .i64 (wrap64 (x259000_1 + ((rd_T29 l0 x13_1).f0))))).setCell ⟨gb258, 1, none⟩ (.int .i64 (wrap64 (x259001_1 + ((rd_T29 l0 x13_1).f1))))) = w23 at n0_ n1_ n2_ n3_ n4_ ⊢
        have HO_5 := n0_
        have BK257 := n1_
        have BK258 := n2_
        have BK263 := n3_
        have HB := n4_
        clear n0_ n1_ n2_ n3_ n4_
        have n0_ := Aside0.mk (Kd.R_drew HO_5.out)
        have n1_ := Aside0.mk (blk_drew BK257.out)
        have n2_ := Aside0.mk (blk_drew BK258.out)
        have n3_ := Aside0.mk (blk_drew BK263.out)
        have n4_ := Aside0.mk (below_drew1 HB.out)
        clear HO_5
        clear BK257
        clear BK258
        clear BK263
        clear HB
        have HO_5 := n0_
        have BK257 := n1_
        have BK258 := n2_
        have BK263 := n3_
        have HB := n4_
        clear n0_ n1_ n2_ n3_ n4_
        have p264 : 0 ≤ (((rd_T29 l0 x13_1).f2) : Int) := of_decide_eq_true (by first | (with_reducible assumption) | assumption)
        have q264 : ((rd_T29 l0 x13_1).f2) < (x5_1.length : Int) := (by have h_ : (((rd_T29 l0 x13_1).f2) : Int) < (5 : Int) := of_decide_eq_true (by first | (with_reducible assumption) | assumption); have e_ := (Kd.R_reads' HO_5.out).1; omega)
        have ql264 : ((((rd_T29 l0 x13_1).f2) : Int) < (5 : Int)) = True := eq_true (of_decide_eq_true (by first | (with_reducible assumption) | assumption))
        obtain ⟨ad264, e264, hx264_0⟩ := Kd.at_int (Kd.R_reads' HO_5.out).2.2 ((rd_T29 l0 x13_1).f2) p264 q264
        obtain rfl : (⟨gb259, 0, none⟩ : Addr) = ad264 := (by injection e264)
        (first | simp only [add_plain] at hx264_0 | simp only [add_at] at hx264_0 | simp only [Addr.add, Nat.zero_add] at hx264_0 | skip)
        replace p264 := eq_true p264
        replace q264 := eq_true q264
        have p16 : 0 ≤ (((rd_T29 l0 x13_1).f2) : Int) := of_decide_eq_true (by first | (with_reducible assumption) | assumption)
        have q16 : (((rd_T29 l0 x13_1).f2) : Int) < (5 : Int) := of_decide_eq_true (by first | (with_reducible assumption) | assumption)
        obtain ⟨hx16_0, hf16_0⟩ := Kd.R_celln 0 HO_5.out (((rd_T29 l0 x13_1).f2) : Int) p16 q16
        replace p16 := eq_true p16
        replace q16 := eq_true q16
        have HP25 := Kd.R_putn HO_5.out (((rd_T29 l0 x13_1).f2) : Int) (wrap64 ((rd x5_1 ((rd_T29 l0 x13_1).f2)) + ((rd_T29 l0 x13_1).f0)))
        rw [← Ny265.out] at HP25
        have HQ25 := Aside0.mk HP25
        clear HP25
        refine start_ (n := 9) (S := fun w' => w'.cell? ⟨gb263, 0, none⟩ = some (.int .i64 ((rd_T29 l0 x13_1).f0)) ∧ w'.cell? ⟨gb263, 1, none⟩ = some (.int .i64 ((rd_T29 l0 x13_1).f1)) ∧ w'.cell? ⟨gb263, 2, none⟩ = some (.int .i64 ((rd_T29 l0 x13_1).f2)) ∧ w'.cell? ⟨gb259, (((rd_T29 l0 x13_1).f2)).toNat, none⟩ = some (.int .i64 (rd x5_1 ((rd_T29 l0 x13_1).f2)))) (ds := [8]) #[false, false, false, false, false, false, false, false, false] (by kernel_rfl) rfl rfl ⟨(blk_cell BK263.out 0).trans rfl, (blk_cell BK263.out 1).trans rfl, (blk_cell BK263.out 2).trans rfl, hx264_0⟩ (fun hHeld => ?_); refine with_tabW impl_joinPieces.tab8 impl_joinPieces.bits8 (fun HT_ HW_ => ?_)
        generalize w23.drew = w24 at HO_5 BK257 BK258 BK263 HB HQ25 hf16_0 hx16_0 hx264_0 hHeld ⊢
        refine pure_ (i := 0) (N := some 29) (v := ?_) (a' := ?_) #[true, false, false, false, false, false, false, false, false] rfl rfl (any_of HT_.out (by kernel_rfl)) (fun _ _ _ h => h) (Or.inl ⟨by rfl, ?_⟩) ?_ ?_
        rotate_left
        ·intro w'
         go_simp
         with_reducible rfl
        rotate_left
        ·simp only [Act.put, List.setIfInBounds_toArray, List.set_cons_zero, List.set_cons_succ, i64_w, i32_w]
         rfl
        refine pure_ (i := 4) (N := some 33) (v := ?_) (a' := ?_) #[true, false, false, false, true, false, false, false, false] rfl rfl (any_of HT_.out (by kernel_rfl)) (fun _ _ _ h => h) (Or.inl ⟨by rfl, ?_⟩) ?_ ?_
        rotate_left
        ·intro w'
         go_simp
         with_reducible rfl
        rotate_left
        ·simp only [Act.put, List.setIfInBounds_toArray, List.set_cons_zero, List.set_cons_succ, i64_w, i32_w]
         rfl
        refine take_ (i := 1) (N := some 30) (v := ?_) (a' := ?_) #[true, true, false, false, true, false, false, false, false] rfl rfl (take_ofW HT_.out HW_.out (by kernel_rfl)) (fun _ _ _ h => h) (Or.inl ⟨by rfl, ?_⟩) hHeld ?_ ?_
        rotate_left
        ·rintro w' ⟨s0, s1, s2, s3⟩
         go_simp
         with_reducible rfl
        rotate_left
        ·simp only [Act.put, List.setIfInBounds_toArray, List.set_cons_zero, List.set_cons_succ, i64_w, i32_w]
         rfl
        refine pure_ (i := 2) (N := some 31) (v := ?_) (a' := ?_) #[true, true, true, false, true, false, false, false, false] rfl rfl (any_of HT_.out (by kernel_rfl)) (fun _ _ _ h => h) (Or.inl ⟨by rfl, ?_⟩) ?_ ?_
        rotate_left
        ·intro w'
         go_simp
         with_reducible rfl
        rotate_left
        ·simp only [Act.put, List.setIfInBounds_toArray, List.set_cons_zero, List.set_cons_succ, i64_w, i32_w]
         rfl
        refine take_ (i := 3) (N := some 32) (v := ?_) (a' := ?_) #[true, true, true, true, true, false, false, false, false] rfl rfl (take_ofW HT_.out HW_.out (by kernel_rfl)) (fun _ _ _ h => h) (Or.inl ⟨by rfl, ?_⟩) hHeld ?_ ?_
        rotate_left
        ·rintro w' ⟨s0, s1, s2, s3⟩
         go_simp
         with_reducible rfl
        rotate_left
        ·simp only [Act.put, List.setIfInBounds_toArray, List.set_cons_zero, List.set_cons_succ, i64_w, i32_w]
         rfl
        refine take_ (i := 5) (N := some 34) (v := ?_) (a' := ?_) #[true, true, true, true, true, true, false, false, false] rfl rfl (take_ofW HT_.out HW_.out (by kernel_rfl)) (fun _ _ _ h => h) (Or.inl ⟨by rfl, ?_⟩) hHeld ?_ ?_
        rotate_left
        ·rintro w' ⟨s0, s1, s2, s3⟩
         go_simp
         with_reducible rfl
        rotate_left
        ·simp only [Act.put, List.setIfInBounds_toArray, List.set_cons_zero, List.set_cons_succ, i64_w, i32_w]
         rfl
        refine pure_ (i := 6) (N := some 35) (v := ?_) (a' := ?_) #[true, true, true, true, true, true, true, false, false] rfl rfl (any_of HT_.out (by kernel_rfl)) (fun _ _ _ h => h) (Or.inl ⟨by rfl, ?_⟩) ?_ ?_
        rotate_left
        ·intro w'
         go_simp
         with_reducible rfl
        rotate_left
        ·simp only [Act.put, List.setIfInBounds_toArray, List.set_cons_zero, List.set_cons_succ, i64_w, i32_w]
         rfl
        refine pure_ (i := 7) (N := some 36) (v := ?_) (a' := ?_) #[true, true, true, true, true, true, true, true, false] rfl rfl (any_of HT_.out (by kernel_rfl)) (fun _ _ _ h => h) (Or.inl ⟨by rfl, ?_⟩) ?_ ?_
        rotate_left
        ·intro w'
         go_simp
         with_reducible rfl
        rotate_left
        ·simp only [Act.put, List.setIfInBounds_toArray, List.set_cons_zero, List.set_cons_succ, i64_w, i32_w]
         rfl
        refine last_ (i := 8) (N := none) #[true, true, true, true, true, true, true, true, true] rfl rfl (one_of HT_.out (by kernel_rfl)) (by decide) (fun K hK => ?_)
        refine skip_ (w1 := ?_) (by rfl) rfl ?_ ?_
        rotate_left
        ·go_simp
         rfl
        refine hK.out _ _ ?_
        clear hK K
        refine done_ (done_of HT_.out (by kernel_rfl)) ?_
        try go_wp2
        go_roundg k1
        case measure => have := HK1.out; omega
        case rel => exact ⟨(y265), (wrap64 (x13_1 + 1)), (wrap64 (x259000_1 + ((rd_T29 l0 x13_1).f0))), (wrap64 (x259001_1 + ((rd_T29 l0 x13_1).f1))), (by first | rfl | (simp; done) | (simp [*]; done)), H', ⟨by have := HK1.out; omega⟩, ⟨Kd.R_p HQ25⟩, ⟨by (with_reducible repeat (first | refine blk_drewN ?_ _ | refine blk_drew ?_ | refine blk_alloc ?_ _)); refine blk_far ?_ (by have h_ := Kd.R_ne HO_5.out BK257.out (by decide); intro e_; exact h_ (by rw [e_]; rfl)) _; (with_reducible repeat (first | refine blk_drewN ?_ _ | refine blk_drew ?_ | refine blk_alloc ?_ _)); exact BK257.out⟩, ⟨by (with_reducible repeat (first | refine blk_drewN ?_ _ | refine blk_drew ?_ | refine blk_alloc ?_ _)); refine blk_far ?_ (by have h_ := Kd.R_ne HO_5.out BK258.out (by decide); intro e_; exact h_ (by rw [e_]; rfl)) _; (with_reducible repeat (first | refine blk_drewN ?_ _ | refine blk_drew ?_ | refine blk_alloc ?_ _)); exact BK258.out⟩, ⟨by repeat (first | (with_reducible first | exact HB.out | apply below_alloc | apply pw_below_drewN | apply below_drew1 | refine below_set ?_ GB259.out | refine below_set ?_ GE257.out | refine below_set ?_ GE258.out | refine below_set ?_ GE263.out) | exact HB.out)⟩⟩
       ·rw [if_neg c15] at H
        exact absurd H (by simp)
      ·rw [if_neg c14] at H
       exact absurd H (by simp)
     ·rw [if_neg c13] at H
      exact absurd H (by simp)
    ·rw [if_neg c12] at H
     exact absurd H (by simp)
   ·rw [if_neg c11] at H
    have c11b0 : decide (x13_1 < (l0.length : Int)) = false := decide_eq_false c11
    clear c11
    have H' := Aside0.mk H
    clear H
    go_wp2
    go_loopg [38] k1 (fun kq v38 w' => ∃ (x38_2 : Int) (x259002_2 : Int), v38 = .int .i64 x38_2 ∧ Aside0 (impl_joinPieces.l1 kq x5_1 x38_2 x259000_1 x259001_1 x259002_2 = some (r1, r2, r3, r4)) ∧ Aside0 (kq ≤ k1) ∧ Aside0 (Kd.R (Kd.int .i64) 123 w' w.heap.size (fun _ => True) (.slice (some ⟨gb259, 0, none⟩) 5 5) x5_1) ∧ Aside0 (w'.heap[gb257]? = some (.cells #[.int .i64 0, .int .i64 0, .int .i64 0] 29 (0, 0))) ∧ Aside0 (w'.heap[gb258]? = some (.cells #[.int .i64 x259000_1, .int .i64 x259001_1, .int .i64 x259002_2] 29 (0, 0))) ∧ Aside0 (Below w.heap.size w w'))
    case atStart => exact ⟨(0), (0), (by first | rfl | (simp; done) | (simp [*]; done)), H', ⟨Nat.le_refl _⟩, ⟨Kd.R_p HO_5⟩, ⟨kp_ BK257⟩, ⟨kp_ BK258⟩, ⟨hb_ HB⟩⟩
    case round =>
     clear H'
     (try clear c1); (try clear p1); (try clear q1); (try clear hx1); (try clear hf1); (try clear c2); (try clear p2); (try clear q2); (try clear hx2); (try clear c4); (try clear c6); (try clear p6); (try clear c7); (try clear c8); (try clear c11); (try clear c11b0); (try clear c12); (try clear c12b0); (try clear c13); (try clear c13b0); (try clear c14); (try clear c14b0); (try clear c15); (try clear c15b0); (try clear p16); (try clear q16); (try clear hx16); (try clear hf16); (try clear c18); (try clear c19); (try clear c21)
     obtain ⟨x38_2, x259002_2, rfl, HA, HK2, HO_5, BK257, BK258, HB⟩ := hrel
     cases gk with
     | zero => exact absurd HA.out (by simp [impl_joinPieces.l1])
     | succ k2 =>
      have H := HA.out
      clear HA
      simp only [impl_joinPieces.l1] at H
      by_cases c26 : x38_2 < 5
      ·rw [if_pos c26] at H
       have c26b0 : decide (x38_2 < 5) = true := decide_eq_true c26
       clear c26
       by_cases c27 : 0 ≤ x38_2
       ·rw [if_pos c27] at H
        have c27b0 : decide (0 ≤ x38_2) = true := decide_eq_true c27
        clear c27
        by_cases c28 : 0 ≤ x259002_2
        ·rw [if_pos c28] at H
         have c28b0 : decide (0 ≤ x259002_2) = true := decide_eq_true c28
         clear c28
         by_cases c29 : x259002_2 < 5
         ·rw [if_pos c29] at H
          have c29b0 : decide (x259002_2 < 5) = true := decide_eq_true c29
          clear c29
          by_cases c30 : (rd x5_1 x38_2) > (rd x5_1 x259002_2)
          ·rw [if_pos c30] at H
           have c30b0 : decide ((rd x5_1 x259002_2) < (rd x5_1 x38_2)) = true := decide_eq_true c30
           clear c30
           have H' := Aside0.mk H
           clear H
           try go_wp2
           have n0_ := Aside0.mk (Kd.R_drew HO_5.out)
           have n1_ := Aside0.mk (blk_drew BK257.out)
           have n2_ := Aside0.mk (blk_drew BK258.out)
           have n3_ := Aside0.mk (below_drew1 HB.out)
           clear HO_5
           clear BK257
           clear BK258
           clear HB
           have HO_5 := n0_
           have BK257 := n1_
           have BK258 := n2_
           have HB := n3_
           clear n0_ n1_ n2_ n3_
           have p266 : 0 ≤ (x38_2 : Int) := of_decide_eq_true (by first | (with_reducible assumption) | assumption)
           have q266 : x38_2 < (x5_1.length : Int) := (by have h_ : (x38_2 : Int) < (5 : Int) := of_decide_eq_true (by first | (with_reducible assumption) | assumption); have e_ := (Kd.R_reads' HO_5.out).1; omega)
           have ql266 : ((x38_2 : Int) < (5 : Int)) = True := eq_true (of_decide_eq_true (by first | (with_reducible assumption) | assumption))
           obtain ⟨ad266, e266, hx266_0⟩ := Kd.at_int (Kd.R_reads' HO_5.out).2.2 x38_2 p266 q266
           obtain rfl : (⟨gb259, 0, none⟩ : Addr) = ad266 := (by injection e266)
           (first | simp only [add_plain] at hx266_0 | simp only [add_at] at hx266_0 | simp only [Addr.add, Nat.zero_add] at hx266_0 | skip)
           replace p266 := eq_true p266
           replace q266 := eq_true q266
           have p267 : 0 ≤ (x259002_2 : Int) := of_decide_eq_true (by first | (with_reducible assumption) | assumption)
           have q267 : x259002_2 < (x5_1.length : Int) := (by have h_ : (x259002_2 : Int) < (5 : Int) := of_decide_eq_true (by first | (with_reducible assumption) | assumption); have e_ := (Kd.R_reads' HO_5.out).1; omega)
           have ql267 : ((x259002_2 : Int) < (5 : Int)) = True := eq_true (of_decide_eq_true (by first | (with_reducible assumption) | assumption))
           obtain ⟨ad267, e267, hx267_0⟩ := Kd.at_int (Kd.R_reads' HO_5.out).2.2 x259002_2 p267 q267
           obtain rfl : (⟨gb259, 0, none⟩ : Addr) = ad267 := (by injection e267)
           (first | simp only [add_plain] at hx267_0 | simp only [add_at] at hx267_0 | simp only [Addr.add, Nat.zero_add] at hx267_0 | skip)
           replace p267 := eq_true p267
           replace q267 := eq_true q267
           refine start_ (n := 8) (S := fun w' => w'.cell? ⟨gb258, 0, none⟩ = some (.int .i64 x259000_1) ∧ w'.cell? ⟨gb258, 1, none⟩ = some (.int .i64 x259001_1) ∧ w'.cell? ⟨gb258, 2, none⟩ = some (.int .i64 x259002_2) ∧ w'.cell? ⟨gb259, (x38_2).toNat, none⟩ = some (.int .i64 (rd x5_1 x38_2)) ∧ w'.cell? ⟨gb259, (x259002_2).toNat, none⟩ = some (.int .i64 (rd x5_1 x259002_2))) (ds := []) #[false, false, false, false, false, false, false, false] (by kernel_rfl) rfl rfl ⟨(blk_cell BK258.out 0).trans rfl, (blk_cell BK258.out 1).trans rfl, (blk_cell BK258.out 2).trans rfl, hx266_0, hx267_0⟩ (fun hHeld => ?_); refine with_tabW impl_joinPieces.tab13 impl_joinPieces.bits13 (fun HT_ HW_ => ?_)
           generalize wr.drew = w31 at HO_5 BK257 BK258 HB hx266_0 hx267_0 hHeld ⊢
           refine pure_ (i := 0) (N := some 41) (v := ?_) (a' := ?_) #[true, false, false, false, false, false, false, false] rfl rfl (any_of HT_.out (by kernel_rfl)) (fun _ _ _ h => h) (Or.inl ⟨by rfl, ?_⟩) ?_ ?_
           rotate_left
           ·intro w'
            go_simp
            with_reducible rfl
           rotate_left
           ·simp only [Act.put, List.setIfInBounds_toArray, List.set_cons_zero, List.set_cons_succ, i64_w, i32_w]
            rfl
           refine pure_ (i := 1) (N := some 42) (v := ?_) (a' := ?_) #[true, true, false, false, false, false, false, false] rfl rfl (any_of HT_.out (by kernel_rfl)) (fun _ _ _ h => h) (Or.inl ⟨by rfl, ?_⟩) ?_ ?_
           rotate_left
           ·intro w'
            go_simp
            with_reducible rfl
           rotate_left
           ·simp only [Act.put, List.setIfInBounds_toArray, List.set_cons_zero, List.set_cons_succ, i64_w, i32_w]
            rfl
           refine pure_ (i := 3) (N := some 44) (v := ?_) (a' := ?_) #[true, true, false, true, false, false, false, false] rfl rfl (any_of HT_.out (by kernel_rfl)) (fun _ _ _ h => h) (Or.inl ⟨by rfl, ?_⟩) ?_ ?_
           rotate_left
           ·intro w'
            go_simp
            with_reducible rfl
           rotate_left
           ·simp only [Act.put, List.setIfInBounds_toArray, List.set_cons_zero, List.set_cons_succ, i64_w, i32_w]
            rfl
           refine take_ (i := 2) (N := some 43) (v := ?_) (a' := ?_) #[true, true, true, true, false, false, false, false] rfl rfl (take_ofW HT_.out HW_.out (by kernel_rfl)) (fun _ _ _ h => h) (Or.inl ⟨by rfl, ?_⟩) hHeld ?_ ?_
           rotate_left
           ·rintro w' ⟨s0, s1, s2, s3, s4⟩
            go_simp
            with_reducible rfl
           rotate_left
           ·simp only [Act.put, List.setIfInBounds_toArray, List.set_cons_zero, List.set_cons_succ, i64_w, i32_w]
            rfl
           refine take_ (i := 4) (N := some 45) (v := ?_) (a' := ?_) #[true, true, true, true, true, false, false, false] rfl rfl (take_ofW HT_.out HW_.out (by kernel_rfl)) (fun _ _ _ h => h) (Or.inl ⟨by rfl, ?_⟩) hHeld ?_ ?_
           rotate_left
           ·rintro w' ⟨s0, s1, s2, s3, s4⟩
            go_simp
            with_reducible rfl
           rotate_left
           ·simp only [Act.put, List.setIfInBounds_toArray, List.set_cons_zero, List.set_cons_succ, i64_w, i32_w]
            rfl
           refine pure_ (i := 5) (N := some 46) (v := ?_) (a' := ?_) #[true, true, true, true, true, true, false, false] rfl rfl (any_of HT_.out (by kernel_rfl)) (fun _ _ _ h => h) (Or.inl ⟨by rfl, ?_⟩) ?_ ?_
           rotate_left
           ·intro w'
            go_simp
            with_reducible rfl
           rotate_left
           ·simp only [Act.put, List.setIfInBounds_toArray, List.set_cons_zero, List.set_cons_succ, i64_w, i32_w]
            rfl
           refine take_ (i := 6) (N := some 47) (v := ?_) (a' := ?_) #[true, true, true, true, true, true, true, false] rfl rfl (take_ofW HT_.out HW_.out (by kernel_rfl)) (fun _ _ _ h => h) (Or.inl ⟨by rfl, ?_⟩) hHeld ?_ ?_
           rotate_left
           ·rintro w' ⟨s0, s1, s2, s3, s4⟩
            go_simp
            with_reducible rfl
           rotate_left
           ·simp only [Act.put, List.setIfInBounds_toArray, List.set_cons_zero, List.set_cons_succ, i64_w, i32_w]
            rfl
           refine pure_ (i := 7) (N := some 48) (v := ?_) (a' := ?_) #[true, true, true, true, true, true, true, true] rfl rfl (any_of HT_.out (by kernel_rfl)) (fun _ _ _ h => h) (Or.inl ⟨by rfl, ?_⟩) ?_ ?_
           rotate_left
           ·intro w'
            go_simp
            with_reducible rfl
           rotate_left
           ·simp only [Act.put, List.setIfInBounds_toArray, List.set_cons_zero, List.set_cons_succ, i64_w, i32_w]
            rfl
           refine done_ (done_of HT_.out (by kernel_rfl)) ?_
           have hnb32 := NB258_257.out
           have hnc32 := NB257_258.out
           have hcz33_0 : w31.cell? ⟨gb258, 0, none⟩ = some (.int .i64 x259000_1) := (blk_cell BK258.out 0).trans rfl
           have hcz33_1 : w31.cell? ⟨gb258, 1, none⟩ = some (.int .i64 x259001_1) := (blk_cell BK258.out 1).trans rfl
           have hcz33_2 : w31.cell? ⟨gb258, 2, none⟩ = some (.int .i64 x259002_2) := (blk_cell BK258.out 2).trans rfl
           have hfz33_0 := blk_frozen BK258.out 0
           have hfz33_1 := blk_frozen BK258.out 1
           have hfz33_2 := blk_frozen BK258.out 2
           try go_wp2
           go_roundg k2
           case measure => have := HK1.out; have := HK2.out; omega
           case rel => exact ⟨(wrap64 (x38_2 + 1)), (x38_2), (by first | rfl | (simp; done) | (simp [*]; done)), H', ⟨by have := HK1.out; have := HK2.out; omega⟩, ⟨Kd.R_mono (Kd.R_s HO_5 BK258) (fun _ hk => trivial)⟩, ⟨kf_ BK257 NB257_258⟩, ⟨kpq_ (kputs BK258 [(2, _)])⟩, ⟨hb_ HB⟩⟩
          ·rw [if_neg c30] at H
           have c30b0 : decide ((rd x5_1 x259002_2) < (rd x5_1 x38_2)) = false := decide_eq_false c30
           clear c30
           have H' := Aside0.mk H
           clear H
           try go_wp2
           have n0_ := Aside0.mk (Kd.R_drew HO_5.out)
           have n1_ := Aside0.mk (blk_drew BK257.out)
           have n2_ := Aside0.mk (blk_drew BK258.out)
           have n3_ := Aside0.mk (below_drew1 HB.out)
           clear HO_5
           clear BK257
           clear BK258
           clear HB
           have HO_5 := n0_
           have BK257 := n1_
           have BK258 := n2_
           have HB := n3_
           clear n0_ n1_ n2_ n3_
           have p266 : 0 ≤ (x38_2 : Int) := of_decide_eq_true (by first | (with_reducible assumption) | assumption)
           have q266 : x38_2 < (x5_1.length : Int) := (by have h_ : (x38_2 : Int) < (5 : Int) := of_decide_eq_true (by first | (with_reducible assumption) | assumption); have e_ := (Kd.R_reads' HO_5.out).1; omega)
           have ql266 : ((x38_2 : Int) < (5 : Int)) = True := eq_true (of_decide_eq_true (by first | (with_reducible assumption) | assumption))
           obtain ⟨ad266, e266, hx266_0⟩ := Kd.at_int (Kd.R_reads' HO_5.out).2.2 x38_2 p266 q266
           obtain rfl : (⟨gb259, 0, none⟩ : Addr) = ad266 := (by injection e266)
           (first | simp only [add_plain] at hx266_0 | simp only [add_at] at hx266_0 | simp only [Addr.add, Nat.zero_add] at hx266_0 | skip)
           replace p266 := eq_true p266
           replace q266 := eq_true q266
           have p267 : 0 ≤ (x259002_2 : Int) := of_decide_eq_true (by first | (with_reducible assumption) | assumption)
           have q267 : x259002_2 < (x5_1.length : Int) := (by have h_ : (x259002_2 : Int) < (5 : Int) := of_decide_eq_true (by first | (with_reducible assumption) | assumption); have e_ := (Kd.R_reads' HO_5.out).1; omega)
           have ql267 : ((x259002_2 : Int) < (5 : Int)) = True := eq_true (of_decide_eq_true (by first | (with_reducible assumption) | assumption))
           obtain ⟨ad267, e267, hx267_0⟩ := Kd.at_int (Kd.R_reads' HO_5.out).2.2 x259002_2 p267 q267
           obtain rfl : (⟨gb259, 0, none⟩ : Addr) = ad267 := (by injection e267)
           (first | simp only [add_plain] at hx267_0 | simp only [add_at] at hx267_0 | simp only [Addr.add, Nat.zero_add] at hx267_0 | skip)
           replace p267 := eq_true p267
           replace q267 := eq_true q267
           refine start_ (n := 8) (S := fun w' => w'.cell? ⟨gb258, 0, none⟩ = some (.int .i64 x259000_1) ∧ w'.cell? ⟨gb258, 1, none⟩ = some (.int .i64 x259001_1) ∧ w'.cell? ⟨gb258, 2, none⟩ = some (.int .i64 x259002_2) ∧ w'.cell? ⟨gb259, (x38_2).toNat, none⟩ = some (.int .i64 (rd x5_1 x38_2)) ∧ w'.cell? ⟨gb259, (x259002_2).toNat, none⟩ = some (.int .i64 (rd x5_1 x259002_2))) (ds := []) #[false, false, false, false, false, false, false, false] (by kernel_rfl) rfl rfl ⟨(blk_cell BK258.out 0).trans rfl, (blk_cell BK258.out 1).trans rfl, (blk_cell BK258.out 2).trans rfl, hx266_0, hx267_0⟩ (fun hHeld => ?_); refine with_tabW impl_joinPieces.tab13 impl_joinPieces.bits13 (fun HT_ HW_ => ?_)
           generalize wr.drew = w34 at HO_5 BK257 BK258 HB hx266_0 hx267_0 hHeld ⊢
           refine pure_ (i := 0) (N := some 41) (v := ?_) (a' := ?_) #[true, false, false, false, false, false, false, false] rfl rfl (any_of HT_.out (by kernel_rfl)) (fun _ _ _ h => h) (Or.inl ⟨by rfl, ?_⟩) ?_ ?_
           rotate_left
           ·intro w'
            go_simp
            with_reducible rfl
           rotate_left
           ·simp only [Act.put, List.setIfInBounds_toArray, List.set_cons_zero, List.set_cons_succ, i64_w, i32_w]
            rfl
           refine pure_ (i := 1) (N := some 42) (v := ?_) (a' := ?_) #[true, true, false, false, false, false, false, false] rfl rfl (any_of HT_.out (by kernel_rfl)) (fun _ _ _ h => h) (Or.inl ⟨by rfl, ?_⟩) ?_ ?_
           rotate_left
           ·intro w'
            go_simp
            with_reducible rfl
           rotate_left
           ·simp only [Act.put, List.setIfInBounds_toArray, List.set_cons_zero, List.set_cons_succ, i64_w, i32_w]
            rfl
           refine pure_ (i := 3) (N := some 44) (v := ?_) (a' := ?_) #[true, true, false, true, false, false, false, false] rfl rfl (any_of HT_.out (by kernel_rfl)) (fun _ _ _ h => h) (Or.inl ⟨by rfl, ?_⟩) ?_ ?_
           rotate_left
           ·intro w'
            go_simp
            with_reducible rfl
           rotate_left
           ·simp only [Act.put, List.setIfInBounds_toArray, List.set_cons_zero, List.set_cons_succ, i64_w, i32_w]
            rfl
           refine take_ (i := 2) (N := some 43) (v := ?_) (a' := ?_) #[true, true, true, true, false, false, false, false] rfl rfl (take_ofW HT_.out HW_.out (by kernel_rfl)) (fun _ _ _ h => h) (Or.inl ⟨by rfl, ?_⟩) hHeld ?_ ?_
           rotate_left
           ·rintro w' ⟨s0, s1, s2, s3, s4⟩
            go_simp
            with_reducible rfl
           rotate_left
           ·simp only [Act.put, List.setIfInBounds_toArray, List.set_cons_zero, List.set_cons_succ, i64_w, i32_w]
            rfl
           refine take_ (i := 4) (N := some 45) (v := ?_) (a' := ?_) #[true, true, true, true, true, false, false, false] rfl rfl (take_ofW HT_.out HW_.out (by kernel_rfl)) (fun _ _ _ h => h) (Or.inl ⟨by rfl, ?_⟩) hHeld ?_ ?_
           rotate_left
           ·rintro w' ⟨s0, s1, s2, s3, s4⟩
            go_simp
            with_reducible rfl
           rotate_left
           ·simp only [Act.put, List.setIfInBounds_toArray, List.set_cons_zero, List.set_cons_succ, i64_w, i32_w]
            rfl
           refine pure_ (i := 5) (N := some 46) (v := ?_) (a' := ?_) #[true, true, true, true, true, true, false, false] rfl rfl (any_of HT_.out (by kernel_rfl)) (fun _ _ _ h => h) (Or.inl ⟨by rfl, ?_⟩) ?_ ?_
           rotate_left
           ·intro w'
            go_simp
            with_reducible rfl
           rotate_left
           ·simp only [Act.put, List.setIfInBounds_toArray, List.set_cons_zero, List.set_cons_succ, i64_w, i32_w]
            rfl
           refine take_ (i := 6) (N := some 47) (v := ?_) (a' := ?_) #[true, true, true, true, true, true, true, false] rfl rfl (take_ofW HT_.out HW_.out (by kernel_rfl)) (fun _ _ _ h => h) (Or.inl ⟨by rfl, ?_⟩) hHeld ?_ ?_
           rotate_left
           ·rintro w' ⟨s0, s1, s2, s3, s4⟩
            go_simp
            with_reducible rfl
           rotate_left
           ·simp only [Act.put, List.setIfInBounds_toArray, List.set_cons_zero, List.set_cons_succ, i64_w, i32_w]
            rfl
           refine pure_ (i := 7) (N := some 48) (v := ?_) (a' := ?_) #[true, true, true, true, true, true, true, true] rfl rfl (any_of HT_.out (by kernel_rfl)) (fun _ _ _ h => h) (Or.inl ⟨by rfl, ?_⟩) ?_ ?_
           rotate_left
           ·intro w'
            go_simp
            with_reducible rfl
           rotate_left
           ·simp only [Act.put, List.setIfInBounds_toArray, List.set_cons_zero, List.set_cons_succ, i64_w, i32_w]
            rfl
           refine done_ (done_of HT_.out (by kernel_rfl)) ?_
           try go_wp2
           go_roundg k2
           case measure => have := HK1.out; have := HK2.out; omega
           case rel => exact ⟨(wrap64 (x38_2 + 1)), (x259002_2), (by first | rfl | (simp; done) | (simp [*]; done)), H', ⟨by have := HK1.out; have := HK2.out; omega⟩, ⟨Kd.R_p HO_5⟩, ⟨kp_ BK257⟩, ⟨kp_ BK258⟩, ⟨hb_ HB⟩⟩
         ·rw [if_neg c29] at H
          exact absurd H (by simp)
        ·rw [if_neg c28] at H
         exact absurd H (by simp)
       ·rw [if_neg c27] at H
        exact absurd H (by simp)
      ·rw [if_neg c26] at H
       have c26b0 : decide (x38_2 < 5) = false := decide_eq_false c26
       clear c26
       by_cases c35 : x259000_1 > 10000
       ·rw [if_pos c35] at H
        have c35b0 : decide (10000 < x259000_1) = true := decide_eq_true c35
        clear c35
        simp only [Option.some.injEq, Prod.mk.injEq] at H
        obtain ⟨rfl, rfl, rfl, rfl⟩ := H
        have hnb36 := NB258_257.out
        have hnc36 := NB257_258.out
        have hcz37_0 : wr.cell? ⟨gb258, 0, none⟩ = some (.int .i64 x259000_1) := (blk_cell BK258.out 0).trans rfl
        have hcz37_1 : wr.cell? ⟨gb258, 1, none⟩ = some (.int .i64 x259001_1) := (blk_cell BK258.out 1).trans rfl
        have hcz37_2 : wr.cell? ⟨gb258, 2, none⟩ = some (.int .i64 x259002_2) := (blk_cell BK258.out 2).trans rfl
        have hfz37_0 := blk_frozen BK258.out 0
        have hfz37_1 := blk_frozen BK258.out 1
        have hfz37_2 := blk_frozen BK258.out 2
        have hcz38_0 : wr.cell? ⟨gb257, 0, none⟩ = some (.int .i64 0) := (blk_cell BK257.out 0).trans rfl
        have hcz38_1 : wr.cell? ⟨gb257, 1, none⟩ = some (.int .i64 0) := (blk_cell BK257.out 1).trans rfl
        have hcz38_2 : wr.cell? ⟨gb257, 2, none⟩ = some (.int .i64 0) := (blk_cell BK257.out 2).trans rfl
        have hfz38_0 := blk_frozen BK257.out 0
        have hfz38_1 := blk_frozen BK257.out 1
        have hfz38_2 := blk_frozen BK257.out 2
        go_wp2
        refine bodyPost_ret (results_ct rfl _ _ gb257 29 #[.int .i64 0, .int .i64 0, .int .i64 0] (0, 0) _ rfl (kpq_ (kputs BK257 [(0, _), (1, _), (2, _)])) Try.underlying29 rfl (by kernel_rfl)) rfl ?_
        exact ⟨by first | rfl | (simp [errW_none, errW_some] <;> rfl) | (simp [*, errW_none, errW_some] <;> rfl), hb_ HB⟩
       ·rw [if_neg c35] at H
        have c35b0 : decide (10000 < x259000_1) = false := decide_eq_false c35
        clear c35
        simp only [Option.some.injEq, Prod.mk.injEq] at H
        obtain ⟨rfl, rfl, rfl, rfl⟩ := H
        have hnb39 := NB258_257.out
        have hnc39 := NB257_258.out
        have hcz40_0 : wr.cell? ⟨gb258, 0, none⟩ = some (.int .i64 x259000_1) := (blk_cell BK258.out 0).trans rfl
        have hcz40_1 : wr.cell? ⟨gb258, 1, none⟩ = some (.int .i64 x259001_1) := (blk_cell BK258.out 1).trans rfl
        have hcz40_2 : wr.cell? ⟨gb258, 2, none⟩ = some (.int .i64 x259002_2) := (blk_cell BK258.out 2).trans rfl
        have hfz40_0 := blk_frozen BK258.out 0
        have hfz40_1 := blk_frozen BK258.out 1
        have hfz40_2 := blk_frozen BK258.out 2
        have hcz41_0 : wr.cell? ⟨gb257, 0, none⟩ = some (.int .i64 0) := (blk_cell BK257.out 0).trans rfl
        have hcz41_1 : wr.cell? ⟨gb257, 1, none⟩ = some (.int .i64 0) := (blk_cell BK257.out 1).trans rfl
        have hcz41_2 : wr.cell? ⟨gb257, 2, none⟩ = some (.int .i64 0) := (blk_cell BK257.out 2).trans rfl
        have hfz41_0 := blk_frozen BK257.out 0
        have hfz41_1 := blk_frozen BK257.out 1
        have hfz41_2 := blk_frozen BK257.out 2
        go_wp2
        refine bodyPost_ret (results_ct rfl _ _ gb257 29 #[.int .i64 x259000_1, .int .i64 x259001_1, .int .i64 x259002_2] (0, 0) _ rfl (kpq_ (kputs BK257 [(0, _), (1, _), (2, _)])) Try.underlying29 rfl (by kernel_rfl)) rfl ?_
        exact ⟨by first | rfl | (simp [errW_none, errW_some] <;> rfl) | (simp [*, errW_none, errW_some] <;> rfl), hb_ HB⟩

/-! ### impl_roundedGrade: function 84 -/
def impl_roundedGrade.f (a0_0 : Int) (a0_1 : Int) (a0_2 : Int) : Option (Int) := if a0_0 = 0 then (some 0) else (if (wrap64 (2 * a0_0)) = 0 then (none) else (some (wrap64 (Int.tdiv (wrap64 ((wrap64 ((wrap64 (2 * a0_1)) + a0_0)) - 1)) (wrap64 (2 * a0_0))))))
set_option maxHeartbeats 8000000 in
set_option maxRecDepth 100000 in
theorem impl_roundedGrade.calls (a0_0 : Int) (a0_1 : Int) (a0_2 : Int) (r : Int) (w : World) (h : impl_roundedGrade.f a0_0 a0_1 a0_2 = some r) :
  Calls Try.prog 84 #[.agg #[.int .i64 a0_0, .int .i64 a0_1, .int .i64 a0_2]] w fun e w' => e = .returned (.int .i64 r) ∧ Below w.heap.size w w' := by
 have hu29 := Try.underlying29
 have HB := Aside0.mk (Below.refl w.heap.size w)
 have H : (if a0_0 = 0 then (some 0) else (if (wrap64 (2 * a0_0)) = 0 then (none) else (some (wrap64 (Int.tdiv (wrap64 ((wrap64 ((wrap64 (2 * a0_1)) + a0_0)) - 1)) (wrap64 (2 * a0_0))))))) = some r := h
 clear h
 by_cases c2 : a0_0 = 0
 ·rw [if_pos c2] at H
  have c2b0 : (a0_0 == 0) = true := beq_iff_eq.mpr c2
  have c2b1 : (a0_0 != 0) = false := bne_eq_false_iff_eq.mpr c2
  clear c2
  obtain rfl := Option.some.inj H
  go_enter Try.func84, Try.ntmps84
  go_wp2_with (first | ((with_reducible refine gate_dst (N := 1) rfl ?_); refine box_event ?hg (N := 1) ?hd (cs := #[.int .i64 a0_0, .int .i64 a0_1, .int .i64 a0_2]) (t := 29) ?hr ?_; (case hd => rfl); (case hg => rfl); (case hr => first | (go_simp; done) | (go_simp; rfl)); intro gb268 hg w3 hbox hb; have BK268 := Aside0.mk (hbox); have GW268 := gs_ hg HB; have GE268 := gs_ hg HB; replace HB := hbs_ HB hb; clear hb hbox hg; obtain ⟨hcz4_0, hcz4_1, hcz4_2, hfz4_0, hfz4_1, hfz4_2⟩ := bx3 BK268))
  go_ret
  exact ⟨by first | rfl | (simp [errW_none, errW_some] <;> rfl) | (simp [*, errW_none, errW_some] <;> rfl), hb_ HB⟩
 ·rw [if_neg c2] at H
  have c2b0 : (a0_0 == 0) = false := beq_eq_false_iff_ne.mpr c2
  have c2b1 : (a0_0 != 0) = true := bne_iff_ne.mpr c2
  by_cases c5 : (wrap64 (2 * a0_0)) = 0
  ·rw [if_pos c5] at H
   exact absurd H (by simp)
  ·rw [if_neg c5] at H
   have c5b0 : ((wrap64 (2 * a0_0)) == 0) = false := beq_eq_false_iff_ne.mpr c5
   have c5b1 : ((wrap64 (2 * a0_0)) != 0) = true := bne_iff_ne.mpr c5
   obtain rfl := Option.some.inj H
   go_enter Try.func84, Try.ntmps84
   go_wp2_with (first | ((with_reducible refine gate_dst (N := 1) rfl ?_); refine box_event ?hg (N := 1) ?hd (cs := #[.int .i64 a0_0, .int .i64 a0_1, .int .i64 a0_2]) (t := 29) ?hr ?_; (case hd => rfl); (case hg => rfl); (case hr => first | (go_simp; done) | (go_simp; rfl)); intro gb268 hg w6 hbox hb; have BK268 := Aside0.mk (hbox); have GW268 := gs_ hg HB; have GE268 := gs_ hg HB; replace HB := hbs_ HB hb; clear hb hbox hg; obtain ⟨hcz7_0, hcz7_1, hcz7_2, hfz7_0, hfz7_1, hfz7_2⟩ := bx3 BK268))
   go_ret
   exact ⟨by first | rfl | (simp [errW_none, errW_some] <;> rfl) | (simp [*, errW_none, errW_some] <;> rfl), hb_ HB⟩

end Go.Proofs.Ytceajigggcihnaa.PFnExactCoarseModel
