-- Laid for this claim by wip/tools/print2.sh, a changed copy of the kit's print (wip/tools/patch_print.py): not by print.sh.
import Derived.Test.YtceajigggcihnaaPFnPiecesx0
import Derived.Test.YtceajigggcihnaaPFnPiecesx2
import Derived.Test.YtceajigggcihnaaPFnPiecesx4
import Derived.Test.YtceajigggcihnaaVFnPieces
namespace Go.Proofs.Ytceajigggcihnaa.PFnPieces
open Go.RowKit Go.Proofs.YtceajigggcihnaaW.PrintWords Go.Proofs.YtceajigggcihnaaW.PrintLast Go.Proofs.YtceajigggcihnaaW.PrintMore
attribute [local go_sem] max2_int min2_int max_two min_two max_three min_three max_four min_four   -- for this text's walks alone
set_option linter.unusedVariables false
set_option linter.unusedSimpArgs false

/-! ### impl_joinPieces: function 69 -/
mutual
def impl_joinPieces.l0 : Nat → List Int → List (S29) → Int → Int → Int → Int → Int → Option (Int × Int × Int × Bool)
 | 0, _, _, _, _, _, _, _ => none
 | k + 1, x5, x11, x12, x13, x156000, x156001, x156002 => if x13 < x12 then (if 0 ≤ x13 then (if x13 < (x11.length : Int) then (if 0 ≤ ((rd_T29 x11 x13).f2) then (if ((rd_T29 x11 x13).f2) < 5 then (impl_joinPieces.l0 k (x5.set (((rd_T29 x11 x13).f2) : Int).toNat (wrap64 ((rd x5 ((rd_T29 x11 x13).f2)) + ((rd_T29 x11 x13).f0)))) x11 x12 (wrap64 (x13 + 1)) (wrap64 (x156000 + ((rd_T29 x11 x13).f0))) (wrap64 (x156001 + ((rd_T29 x11 x13).f1))) x156002) else (none)) else (none)) else (none)) else (none)) else (impl_joinPieces.l1 k x5 0 x156000 x156001 x156002)
def impl_joinPieces.l1 : Nat → List Int → Int → Int → Int → Int → Option (Int × Int × Int × Bool)
 | 0, _, _, _, _, _ => none
 | k + 1, x5, x38, x156000, x156001, x156002 => if x38 < 5 then (if 0 ≤ x38 then (if 0 ≤ x156002 then (if x156002 < 5 then (if (rd x5 x38) > (rd x5 x156002) then (impl_joinPieces.l1 k x5 (wrap64 (x38 + 1)) x156000 x156001 x38) else (impl_joinPieces.l1 k x5 (wrap64 (x38 + 1)) x156000 x156001 x156002)) else (none)) else (none)) else (none)) else (if x156000 > 10000 then (some (0, 0, 0, false)) else (some (x156000, x156001, x156002, true)))
end
def impl_joinPieces.f (k : Nat) (l0 : List (S29)) : Option (Int × Int × Int × Bool) := impl_joinPieces.l0 k (List.replicate 5 0) l0 (l0.length : Int) 0 0 0 0
def impl_joinPieces.T8 : Bool × List (List Nat × List Nat) := (true, [([], []), ([0], [0]), ([1], [1]), ([2], [2]), ([], []), ([4], [4]), ([3, 5], [3, 5]), ([1, 0, 1, 2, 3, 4, 5, 6], [1]), ([7, 6, 0, 1, 2, 3, 4, 5, 6], [6, 7])])
def impl_joinPieces.B8 : List Nat := [0, 1, 3, 7, 0, 16, 63, 127, 255]
theorem impl_joinPieces.tab8 : rtab .any (opsOf Try.f69 8) = impl_joinPieces.T8 := by kernel_rfl
theorem impl_joinPieces.bits8 : waitsOk impl_joinPieces.T8.2 impl_joinPieces.B8 = true := by kernel_rfl
def impl_joinPieces.T13 : Bool × List (List Nat × List Nat) := (true, [([], []), ([0], [0]), ([1], [1]), ([], []), ([3], [3]), ([4], [4]), ([5], [5]), ([2, 6], [2, 6])])
def impl_joinPieces.B13 : List Nat := [0, 1, 3, 0, 8, 24, 56, 127]
theorem impl_joinPieces.tab13 : rtab .any (opsOf Try.f69 13) = impl_joinPieces.T13 := by kernel_rfl
theorem impl_joinPieces.bits13 : waitsOk impl_joinPieces.T13.2 impl_joinPieces.B13 = true := by kernel_rfl
set_option maxHeartbeats 8000000 in
set_option maxRecDepth 100000 in
theorem impl_joinPieces.calls (k : Nat) (A0 : Option Addr) (c0 : Nat) (l0 : List (S29)) (r1 : Int) (r2 : Int) (r3 : Int) (r4 : Bool) (w : World) (hr0 : Kd.C k29 w A0 l0.length l0) (hc0 : l0.length ≤ c0) (h : impl_joinPieces.f k l0 = some (r1, r2, r3, r4)) :
  Calls Try.prog 69 #[.slice A0 l0.length c0] w fun e w' => e = .returned (.tuple #[.agg #[.int .i64 r1, .int .i64 r2, .int .i64 r3], .bool r4]) ∧ Below w.heap.size w w' := by
 have hu29 := Try.underlying29
 have HR0 := Aside0.mk hr0
 have HC0 := Aside0.mk hc0
 clear hr0 hc0
 have HB := Aside0.mk (Below.refl w.heap.size w)
 have H : (impl_joinPieces.l0 k (List.replicate 5 0) l0 (l0.length : Int) 0 0 0 0) = some (r1, r2, r3, r4) := h
 clear h
 obtain ⟨y157, hy157⟩ : ∃ y_ : List Int, y_ = (List.replicate 5 0) := ⟨_, rfl⟩
 replace H : (impl_joinPieces.l0 k y157 l0 (l0.length : Int) 0 0 0 0) = some (r1, r2, r3, r4) := by first | (rw [hy157]; with_reducible exact H) | (have H2_ := (Option.bind_some _ _).symm.trans H; rw [hy157]; with_reducible exact H2_) | (have H2_ := (Option.bind_some _ _).symm.trans H; with_reducible exact H2_) | with_reducible exact H | (rw [hy157]; exact H) | exact H
 have Ny157 := Aside0.mk hy157
 clear hy157
 have H' := Aside0.mk H
 clear H
 go_enter Try.func69, Try.ntmps69
 go_wp2_with (first | ((with_reducible refine gate_dst (N := 2) rfl ?_); refine box_event ?hg (N := 2) ?hd (cs := #[.int .i64 0, .int .i64 0, .int .i64 0]) (t := 29) ?hr ?_; (case hd => rfl); (case hg => rfl); (case hr => first | (go_simp; done) | (go_simp; rfl)); intro gb154 hg w2 hbox hb; have BK154 := Aside0.mk (hbox); have GW154 := gs_ hg HB; have GE154 := gs_ hg HB; replace HB := hbs_ HB hb; clear hb hbox hg) | ((with_reducible refine gate_dst (N := 4) rfl ?_); refine box_event ?hg (N := 4) ?hd (cs := #[.int .i64 0, .int .i64 0, .int .i64 0]) (t := 29) ?hr ?_; (case hd => rfl); (case hg => rfl); (case hr => first | (go_simp; done) | (go_simp; rfl)); intro gb155 hg w3 hbox hb; have BK155 := Aside0.mk (hbox); have GW155 := gs_ hg HB; have GE155 := gs_ hg HB; have NB154_155 := nl_ hg BK154; have NB155_154 := ng_ hg BK154; replace BK154 := kb_ BK154 hb; replace HB := hbs_ HB hb; clear hb hbox hg; have hnb4 := NB155_154.out; have hnc4 := NB154_155.out; obtain ⟨hcz5_0, hcz5_1, hcz5_2, hfz5_0, hfz5_1, hfz5_2⟩ := bx3 BK155) | ((with_reducible refine gate_dst (N := 5) rfl ?_); refine box_event ?hg (N := 5) ?hd (cs := #[.int .i64 0, .int .i64 0, .int .i64 0, .int .i64 0, .int .i64 0]) (t := 123) ?hr ?_; (case hd => rfl); (case hg => rfl); (case hr => first | (go_simp; done) | (go_simp; rfl)); intro gb156 hg w6 hbox hb; have BK156 := Aside0.mk (hbox); have GW156 := gs_ hg HB; have GE156 := gs_ hg HB; have NB154_156 := Aside0.mk ((by rw [hg]; exact Nat.ne_of_lt (blk_lt (kf_ BK154 NB154_155)) : gb154 ≠ gb156)); have NB156_154 := Aside0.mk ((by rw [hg]; exact Nat.ne_of_gt (blk_lt (kf_ BK154 NB154_155)) : gb156 ≠ gb154)); have NB155_156 := Aside0.mk ((by rw [hg]; exact Nat.ne_of_lt (blk_lt (g := gb155) (o := .cells #[.int .i64 0, .int .i64 0, .int .i64 0] 29 (0, 0)) (kpq_ (kputs BK155 [(0, _), (1, _), (2, _)]))) : gb155 ≠ gb156)); have NB156_155 := Aside0.mk ((by rw [hg]; exact Nat.ne_of_gt (blk_lt (g := gb155) (o := .cells #[.int .i64 0, .int .i64 0, .int .i64 0] 29 (0, 0)) (kpq_ (kputs BK155 [(0, _), (1, _), (2, _)]))) : gb156 ≠ gb155)); replace BK154 := kfb_ BK154 NB154_155 hb; replace BK155 := Aside0.mk (blk_below (g := gb155) (o := .cells #[.int .i64 0, .int .i64 0, .int .i64 0] 29 (0, 0)) (kpq_ (kputs BK155 [(0, _), (1, _), (2, _)])) hb); replace HB := hbs_ HB hb; clear hb hbox hg; have hnb7 := NB156_154.out; have hnc7 := NB154_156.out; have hnb8 := NB156_155.out; have hnc8 := NB155_156.out; obtain ⟨hcz9_0, hcz9_1, hcz9_2, hcz9_3, hcz9_4, hfz9_0, hfz9_1, hfz9_2, hfz9_3, hfz9_4⟩ := bx5 BK156) | ((with_reducible refine gate_store (t := 123) (p := 5) rfl ?_); refine store_event (t := 123) (p := 5) (v := ?vo_w10) (w1 := (((((w6.setCell ⟨gb156, 0, none⟩ (.int .i64 0)).setCell ⟨gb156, 1, none⟩ (.int .i64 0)).setCell ⟨gb156, 2, none⟩ (.int .i64 0)).setCell ⟨gb156, 3, none⟩ (.int .i64 0)).setCell ⟨gb156, 4, none⟩ (.int .i64 0))) ?hg ?ho ?hn ?hr ?_; (case ho => rfl); (case hg => rfl); (case hn => rfl); (case hr => first | (go_simp; done) | (go_simp; rfl)); intro w10 hw; have n0_ : Aside0 (w10.heap[gb154]? = some (.cells #[.int .i64 0, .int .i64 0, .int .i64 0] 29 (0, 0))) := ⟨(by rw [hw]; exact (kf_ BK154 NB154_156))⟩; have n1_ : Aside0 (w10.heap[gb155]? = some (.cells #[.int .i64 0, .int .i64 0, .int .i64 0] 29 (0, 0))) := ⟨(by rw [hw]; exact (kf_ BK155 NB155_156))⟩; have n2_ : Aside0 (w10.heap[gb156]? = some (.cells #[.int .i64 0, .int .i64 0, .int .i64 0, .int .i64 0, .int .i64 0] 123 (0, 0))) := ⟨(by rw [hw]; exact (kpq_ (kputs BK156 [(0, _), (1, _), (2, _), (3, _), (4, _)])))⟩; have n3_ : Aside0 (Below w.heap.size w w10) := ⟨(by rw [hw]; exact (hb_ HB))⟩; clear hw BK154 BK155 BK156 HB; have BK154 := n0_; have BK155 := n1_; have BK156 := n2_; have HB := n3_; clear n0_ n1_ n2_ n3_; have HO158 := Aside0.mk (Kd.R_arr (k := .i64) (base := w.heap.size) y157 BK156.out (by rw [Ny157.out] <;> rfl) (by rw [Ny157.out] <;> rfl) GE156.out); have GB156 := GE156; have GG156 := Aside0.mk (show ∃ cells, (_ : World).heap[gb156]? = some (.cells cells 123 (0, 0)) from ⟨_, BK156.out⟩); try clear NB156_154; try clear NB154_156; try clear NB156_155; try clear NB155_156; clear BK156))
 go_loopg [13] k (fun kq v13 w' => ∃ (x5_1 : List Int) (x13_1 : Int) (x156000_1 : Int) (x156001_1 : Int), v13 = .int .i64 x13_1 ∧ Aside0 (impl_joinPieces.l0 kq x5_1 l0 (l0.length : Int) x13_1 x156000_1 x156001_1 0 = some (r1, r2, r3, r4)) ∧ Aside0 (kq ≤ k) ∧ Aside0 (Kd.R (Kd.int .i64) 123 w' w.heap.size (fun _ => True) (.slice (some ⟨gb156, 0, none⟩) 5 5) x5_1) ∧ Aside0 (w'.heap[gb154]? = some (.cells #[.int .i64 0, .int .i64 0, .int .i64 0] 29 (0, 0))) ∧ Aside0 (w'.heap[gb155]? = some (.cells #[.int .i64 x156000_1, .int .i64 x156001_1, .int .i64 0] 29 (0, 0))) ∧ Aside0 (Below w.heap.size w w'))
 case atStart => exact ⟨(y157), (0), (0), (0), (by first | rfl | (simp; done) | (simp [*]; done)), H', ⟨Nat.le_refl _⟩, ⟨Kd.R_p HO158⟩, ⟨kp_ BK154⟩, ⟨kp_ BK155⟩, ⟨hb_ HB⟩⟩
 case round =>
  clear H'
  (try clear p2); (try clear c4); (try clear c6); (try clear c7); (try clear c8); (try clear hcz5_0); (try clear hcz5_1); (try clear hcz5_2); (try clear hcz9_0); (try clear hcz9_1); (try clear hcz9_2); (try clear hcz9_3); (try clear hcz9_4); (try clear hfz5_0); (try clear hfz5_1); (try clear hfz5_2); (try clear hfz9_0); (try clear hfz9_1); (try clear hfz9_2); (try clear hfz9_3); (try clear hfz9_4)
  obtain ⟨x5_1, x13_1, x156000_1, x156001_1, rfl, HA, HK1, HO_5, BK154, BK155, HB⟩ := hrel
  cases gk with
  | zero => exact absurd HA.out (by simp [impl_joinPieces.l0])
  | succ k1 =>
   have H := HA.out
   clear HA
   simp only [impl_joinPieces.l0] at H
   by_cases c11 : x13_1 < (l0.length : Int)
   ·rw [if_pos c11] at H
    have c11b0 : decide (x13_1 < (l0.length : Int)) = true := decide_eq_true c11
    clear c11
    by_cases c12 : 0 ≤ x13_1
    ·rw [if_pos c12] at H
     have c12b0 : decide (0 ≤ x13_1) = true := decide_eq_true c12
     clear c12
     by_cases c13 : x13_1 < (l0.length : Int)
     ·rw [if_pos c13] at H
      have c13b0 : decide (x13_1 < (l0.length : Int)) = true := decide_eq_true c13
      clear c13
      by_cases c14 : 0 ≤ ((rd_T29 l0 x13_1).f2)
      ·rw [if_pos c14] at H
       have c14b0 : decide (0 ≤ ((rd_T29 l0 x13_1).f2)) = true := decide_eq_true c14
       clear c14
       by_cases c15 : ((rd_T29 l0 x13_1).f2) < 5
       ·rw [if_pos c15] at H
        have c15b0 : decide (((rd_T29 l0 x13_1).f2) < 5) = true := decide_eq_true c15
        clear c15
        obtain ⟨y162, hy162⟩ : ∃ y_ : List Int, y_ = (x5_1.set (((rd_T29 l0 x13_1).f2) : Int).toNat (wrap64 ((rd x5_1 ((rd_T29 l0 x13_1).f2)) + ((rd_T29 l0 x13_1).f0)))) := ⟨_, rfl⟩
        replace H : (impl_joinPieces.l0 k1 y162 l0 (l0.length : Int) (wrap64 (x13_1 + 1)) (wrap64 (x156000_1 + ((rd_T29 l0 x13_1).f0))) (wrap64 (x156001_1 + ((rd_T29 l0 x13_1).f1))) 0) = some (r1, r2, r3, r4) := by first | (rw [hy162]; with_reducible exact H) | (have H2_ := (Option.bind_some _ _).symm.trans H; rw [hy162]; with_reducible exact H2_) | (have H2_ := (Option.bind_some _ _).symm.trans H; with_reducible exact H2_) | with_reducible exact H | (rw [hy162]; exact H) | exact H
        have Ny162 := Aside0.mk hy162
        clear hy162
        have H' := Aside0.mk H
        clear H
        have p159 : 0 ≤ (x13_1 : Int) := of_decide_eq_true (by first | (with_reducible assumption) | assumption)
        have q159 : x13_1 < (l0.length : Int) := of_decide_eq_true (by first | (with_reducible assumption) | assumption)
        obtain ⟨ad159, e159, hx159_0, hx159_1, hx159_2⟩ := at_T29 HR0.out x13_1 p159 q159
        cases e159
        replace hx159_0 := (HB.out.cell (World.block_lt_of_cell? w _ hx159_0)).trans hx159_0
        replace hx159_1 := (HB.out.cell (World.block_lt_of_cell? w _ hx159_1)).trans hx159_1
        replace hx159_2 := (HB.out.cell (World.block_lt_of_cell? w _ hx159_2)).trans hx159_2
        replace p159 := eq_true p159
        replace q159 := eq_true q159
        try go_wp2_with (first | ((with_reducible refine gate_dst (N := 7) rfl ?_); refine box_event ?hg (N := 7) ?hd (cs := #[.int .i64 0, .int .i64 0, .int .i64 0]) (t := 29) ?hr ?_; (case hd => rfl); (case hg => rfl); (case hr => first | (go_simp; done) | (go_simp; rfl)); intro gb160 hg w17 hbox hb; have BK160 := Aside0.mk (hbox); have GW160 := gs_ hg HB; have GE160 := gs_ hg HB; have NB154_160 := nl_ hg BK154; have NB160_154 := ng_ hg BK154; have NB155_160 := nl_ hg BK155; have NB160_155 := ng_ hg BK155; replace HO_5 := Kd.R_b HO_5 hb; replace BK154 := kb_ BK154 hb; replace BK155 := kb_ BK155 hb; replace HB := hbs_ HB hb; clear hb hbox hg; have hnb18 := NB160_154.out; have hnc18 := NB154_160.out; have hnb19 := NB160_155.out; have hnc19 := NB155_160.out; obtain ⟨hcz20_0, hcz20_1, hcz20_2, hfz20_0, hfz20_1, hfz20_2⟩ := bx3 BK160; have hnb21 := NB155_154.out; have hnc21 := NB154_155.out; obtain ⟨hcz22_0, hcz22_1, hcz22_2, hfz22_0, hfz22_1, hfz22_2⟩ := bx3 BK155))
        have n0_ : Aside0 (Kd.R (Kd.int .i64) 123 (((((w17.setCell ⟨gb160, 0, none⟩ (.int .i64 ((rd_T29 l0 x13_1).f0))).setCell ⟨gb160, 1, none⟩ (.int .i64 ((rd_T29 l0 x13_1).f1))).setCell ⟨gb160, 2, none⟩ (.int .i64 ((rd_T29 l0 x13_1).f2))).setCell ⟨gb155, 0, none⟩ (.int .i64 (wrap64 (x156000_1 + ((rd_T29 l0 x13_1).f0))))).setCell ⟨gb155, 1, none⟩ (.int .i64 (wrap64 (x156001_1 + ((rd_T29 l0 x13_1).f1))))) w.heap.size (fun _ => True) (.slice (some ⟨gb156, 0, none⟩) 5 5) x5_1) := ⟨Kd.R_pp (Kd.R_mono (Kd.R_far (p := ⟨gb155, 1, none⟩) (Kd.R_far (p := ⟨gb155, 0, none⟩) (Kd.R_far (p := ⟨gb160, 2, none⟩) (Kd.R_far (p := ⟨gb160, 1, none⟩) (Kd.R_far (p := ⟨gb160, 0, none⟩) (Kd.R_types (Kd.R_types HO_5.out BK160.out (by decide)) BK155.out (by decide)) (fun _ hk => hk.1.2) (.int .i64 ((rd_T29 l0 x13_1).f0))) (fun _ hk => hk.1.2) (.int .i64 ((rd_T29 l0 x13_1).f1))) (fun _ hk => hk.1.2) (.int .i64 ((rd_T29 l0 x13_1).f2))) (fun _ hk => hk.2) (.int .i64 (wrap64 (x156000_1 + ((rd_T29 l0 x13_1).f0))))) (fun _ hk => hk.2) (.int .i64 (wrap64 (x156001_1 + ((rd_T29 l0 x13_1).f1))))) (fun _ hk => trivial))⟩
        have n1_ : Aside0 ((((((w17.setCell ⟨gb160, 0, none⟩ (.int .i64 ((rd_T29 l0 x13_1).f0))).setCell ⟨gb160, 1, none⟩ (.int .i64 ((rd_T29 l0 x13_1).f1))).setCell ⟨gb160, 2, none⟩ (.int .i64 ((rd_T29 l0 x13_1).f2))).setCell ⟨gb155, 0, none⟩ (.int .i64 (wrap64 (x156000_1 + ((rd_T29 l0 x13_1).f0))))).setCell ⟨gb155, 1, none⟩ (.int .i64 (wrap64 (x156001_1 + ((rd_T29 l0 x13_1).f1))))).heap[gb154]? = some (.cells #[.int .i64 0, .int .i64 0, .int .i64 0] 29 (0, 0))) := ⟨by (with_reducible repeat (first | refine blk_drewN ?_ _ | refine blk_drew ?_ | refine blk_alloc ?_ _)); refine blk_far ?_ NB154_155.out _; (with_reducible repeat (first | refine blk_drewN ?_ _ | refine blk_drew ?_ | refine blk_alloc ?_ _)); refine blk_far ?_ NB154_155.out _; (with_reducible repeat (first | refine blk_drewN ?_ _ | refine blk_drew ?_ | refine blk_alloc ?_ _)); refine blk_far ?_ NB154_160.out _; (with_reducible repeat (first | refine blk_drewN ?_ _ | refine blk_drew ?_ | refine blk_alloc ?_ _)); refine blk_far ?_ NB154_160.out _; (with_reducible repeat (first | refine blk_drewN ?_ _ | refine blk_drew ?_ | refine blk_alloc ?_ _)); refine blk_far ?_ NB154_160.out _; (with_reducible repeat (first | refine blk_drewN ?_ _ | refine blk_drew ?_ | refine blk_alloc ?_ _)); exact BK154.out⟩
        have n2_ : Aside0 ((((((w17.setCell ⟨gb160, 0, none⟩ (.int .i64 ((rd_T29 l0 x13_1).f0))).setCell ⟨gb160, 1, none⟩ (.int .i64 ((rd_T29 l0 x13_1).f1))).setCell ⟨gb160, 2, none⟩ (.int .i64 ((rd_T29 l0 x13_1).f2))).setCell ⟨gb155, 0, none⟩ (.int .i64 (wrap64 (x156000_1 + ((rd_T29 l0 x13_1).f0))))).setCell ⟨gb155, 1, none⟩ (.int .i64 (wrap64 (x156001_1 + ((rd_T29 l0 x13_1).f1))))).heap[gb155]? = some (.cells #[.int .i64 (wrap64 (x156000_1 + ((rd_T29 l0 x13_1).f0))), .int .i64 (wrap64 (x156001_1 + ((rd_T29 l0 x13_1).f1))), .int .i64 0] 29 (0, 0))) := ⟨by (with_reducible repeat (first | refine blk_drewN ?_ _ | refine blk_drew ?_ | refine blk_alloc ?_ _)); refine blk_put (cs := #[.int .i64 (wrap64 (x156000_1 + ((rd_T29 l0 x13_1).f0))), .int .i64 x156001_1, .int .i64 0]) ?_ 1 _ rfl; (with_reducible repeat (first | refine blk_drewN ?_ _ | refine blk_drew ?_ | refine blk_alloc ?_ _)); refine blk_put (cs := #[.int .i64 x156000_1, .int .i64 x156001_1, .int .i64 0]) ?_ 0 _ rfl; (with_reducible repeat (first | refine blk_drewN ?_ _ | refine blk_drew ?_ | refine blk_alloc ?_ _)); refine blk_far ?_ NB155_160.out _; (with_reducible repeat (first | refine blk_drewN ?_ _ | refine blk_drew ?_ | refine blk_alloc ?_ _)); refine blk_far ?_ NB155_160.out _; (with_reducible repeat (first | refine blk_drewN ?_ _ | refine blk_drew ?_ | refine blk_alloc ?_ _)); refine blk_far ?_ NB155_160.out _; (with_reducible repeat (first | refine blk_drewN ?_ _ | refine blk_drew ?_ | refine blk_alloc ?_ _)); exact BK155.out⟩
        have n3_ : Aside0 ((((((w17.setCell ⟨gb160, 0, none⟩ (.int .i64 ((rd_T29 l0 x13_1).f0))).setCell ⟨gb160, 1, none⟩ (.int .i64 ((rd_T29 l0 x13_1).f1))).setCell ⟨gb160, 2, none⟩ (.int .i64 ((rd_T29 l0 x13_1).f2))).setCell ⟨gb155, 0, none⟩ (.int .i64 (wrap64 (x156000_1 + ((rd_T29 l0 x13_1).f0))))).setCell ⟨gb155, 1, none⟩ (.int .i64 (wrap64 (x156001_1 + ((rd_T29 l0 x13_1).f1))))).heap[gb160]? = some (.cells #[.int .i64 ((rd_T29 l0 x13_1).f0), .int .i64 ((rd_T29 l0 x13_1).f1), .int .i64 ((rd_T29 l0 x13_1).f2)] 29 (0, 0))) := ⟨by (with_reducible repeat (first | refine blk_drewN ?_ _ | refine blk_drew ?_ | refine blk_alloc ?_ _)); refine blk_far ?_ NB160_155.out _; (with_reducible repeat (first | refine blk_drewN ?_ _ | refine blk_drew ?_ | refine blk_alloc ?_ _)); refine blk_far ?_ NB160_155.out _; (with_reducible repeat (first | refine blk_drewN ?_ _ | refine blk_drew ?_ | refine blk_alloc ?_ _)); refine blk_put (cs := #[.int .i64 ((rd_T29 l0 x13_1).f0), .int .i64 ((rd_T29 l0 x13_1).f1), .int .i64 0]) ?_ 2 _ rfl; (with_reducible repeat (first | refine blk_drewN ?_ _ | refine blk_drew ?_ | refine blk_alloc ?_ _)); refine blk_put (cs := #[.int .i64 ((rd_T29 l0 x13_1).f0), .int .i64 0, .int .i64 0]) ?_ 1 _ rfl; (with_reducible repeat (first | refine blk_drewN ?_ _ | refine blk_drew ?_ | refine blk_alloc ?_ _)); refine blk_put (cs := #[.int .i64 0, .int .i64 0, .int .i64 0]) ?_ 0 _ rfl; (with_reducible repeat (first | refine blk_drewN ?_ _ | refine blk_drew ?_ | refine blk_alloc ?_ _)); exact BK160.out⟩
        have n4_ : Aside0 (Below w.heap.size w (((((w17.setCell ⟨gb160, 0, none⟩ (.int .i64 ((rd_T29 l0 x13_1).f0))).setCell ⟨gb160, 1, none⟩ (.int .i64 ((rd_T29 l0 x13_1).f1))).setCell ⟨gb160, 2, none⟩ (.int .i64 ((rd_T29 l0 x13_1).f2))).setCell ⟨gb155, 0, none⟩ (.int .i64 (wrap64 (x156000_1 + ((rd_T29 l0 x13_1).f0))))).setCell ⟨gb155, 1, none⟩ (.int .i64 (wrap64 (x156001_1 + ((rd_T29 l0 x13_1).f1)))))) := ⟨hb_ HB⟩
        (try clear HO_5)
        (try clear BK154)
        (try clear BK155)
        (try clear BK160)
        (try clear HB)
        generalize (((((w17.setCell ⟨gb160, 0, none⟩ (.int .i64 ((rd_T29 l0 x13_1).f0))).setCell ⟨gb160, 1, none⟩ (.int .i64 ((rd_T29 l0 x13_1).f1))).setCell ⟨gb160, 2, none⟩ (.int .i64 ((rd_T29 l0 x13_1).f2))).setCell ⟨gb155, 0, none⟩ (.int .i64 (wrap64 (x156000_1 + ((rd_T29 l0 x13_1).f0))))).setCell ⟨gb155, 1, none⟩ (.int .i64 (wrap64 (x156001_1 + ((rd_T29 l0 x13_1).f1))))) = w23 at n0_ n1_ n2_ n3_ n4_ ⊢
        have HO_5 := n0_
        have BK154 := n1_
        have BK155 := n2_
        have BK160 := n3_
        have HB := n4_
        clear n0_ n1_ n2_ n3_ n4_
        have n0_ := Aside0.mk (Kd.R_drew HO_5.out)
        have n1_ := Aside0.mk (blk_drew BK154.out)
        have n2_ := Aside0.mk (blk_drew BK155.out)
        have n3_ := Aside0.mk (blk_drew BK160.out)
        have n4_ := Aside0.mk (below_drew1 HB.out)
        clear HO_5
        clear BK154
        clear BK155
        clear BK160
        clear HB
        have HO_5 := n0_
        have BK154 := n1_
        have BK155 := n2_
        have BK160 := n3_
        have HB := n4_
        clear n0_ n1_ n2_ n3_ n4_
        have p161 : 0 ≤ (((rd_T29 l0 x13_1).f2) : Int) := of_decide_eq_true (by first | (with_reducible assumption) | assumption)
        have q161 : ((rd_T29 l0 x13_1).f2) < (x5_1.length : Int) := (by have h_ : (((rd_T29 l0 x13_1).f2) : Int) < (5 : Int) := of_decide_eq_true (by first | (with_reducible assumption) | assumption); have e_ := (Kd.R_reads' HO_5.out).1; omega)
        have ql161 : ((((rd_T29 l0 x13_1).f2) : Int) < (5 : Int)) = True := eq_true (of_decide_eq_true (by first | (with_reducible assumption) | assumption))
        obtain ⟨ad161, e161, hx161_0⟩ := Kd.at_int (Kd.R_reads' HO_5.out).2.2 ((rd_T29 l0 x13_1).f2) p161 q161
        obtain rfl : (⟨gb156, 0, none⟩ : Addr) = ad161 := (by injection e161)
        (first | simp only [add_plain] at hx161_0 | simp only [add_at] at hx161_0 | simp only [Addr.add, Nat.zero_add] at hx161_0 | skip)
        replace p161 := eq_true p161
        replace q161 := eq_true q161
        have p16 : 0 ≤ (((rd_T29 l0 x13_1).f2) : Int) := of_decide_eq_true (by first | (with_reducible assumption) | assumption)
        have q16 : (((rd_T29 l0 x13_1).f2) : Int) < (5 : Int) := of_decide_eq_true (by first | (with_reducible assumption) | assumption)
        obtain ⟨hx16_0, hf16_0⟩ := Kd.R_celln 0 HO_5.out (((rd_T29 l0 x13_1).f2) : Int) p16 q16
        replace p16 := eq_true p16
        replace q16 := eq_true q16
        have HP25 := Kd.R_putn HO_5.out (((rd_T29 l0 x13_1).f2) : Int) (wrap64 ((rd x5_1 ((rd_T29 l0 x13_1).f2)) + ((rd_T29 l0 x13_1).f0)))
        rw [← Ny162.out] at HP25
        have HQ25 := Aside0.mk HP25
        clear HP25
        refine start_ (n := 9) (S := fun w' => w'.cell? ⟨gb160, 0, none⟩ = some (.int .i64 ((rd_T29 l0 x13_1).f0)) ∧ w'.cell? ⟨gb160, 1, none⟩ = some (.int .i64 ((rd_T29 l0 x13_1).f1)) ∧ w'.cell? ⟨gb160, 2, none⟩ = some (.int .i64 ((rd_T29 l0 x13_1).f2)) ∧ w'.cell? ⟨gb156, (((rd_T29 l0 x13_1).f2)).toNat, none⟩ = some (.int .i64 (rd x5_1 ((rd_T29 l0 x13_1).f2)))) (ds := [8]) (bb 9 0) (by kernel_rfl) rfl rfl ⟨(blk_cell BK160.out 0).trans rfl, (blk_cell BK160.out 1).trans rfl, (blk_cell BK160.out 2).trans rfl, hx161_0⟩ (fun hHeld => ?_); refine with_tabW impl_joinPieces.tab8 impl_joinPieces.bits8 (fun HT_ HW_ => ?_)
        generalize w23.drew = w24 at HO_5 BK154 BK155 BK160 HB HQ25 hf16_0 hx161_0 hx16_0 hHeld ⊢
        refine pl_ HT_ 0 (some 29) (bb 9 1) (h := ?_)
        refine pl_ HT_ 4 (some 33) (bb 9 17) (h := ?_)
        refine take_ (i := 1) (N := some 30) (v := ?_) (a' := ?_) (bb 9 19) rfl rfl (take_ofW HT_.out HW_.out (by kernel_rfl)) (fun _ _ _ h => h) (Or.inl ⟨by rfl, ?_⟩) hHeld ?_ ?_
        rotate_left
        ·rintro w' ⟨s0, s1, s2, s3⟩
         go_simp
         with_reducible rfl
        rotate_left
        ·simp only [Act.put, List.setIfInBounds_toArray, List.set_cons_zero, List.set_cons_succ, i64_w, i32_w]
         rfl
        refine pl_ HT_ 2 (some 31) (bb 9 23) (h := ?_)
        refine take_ (i := 3) (N := some 32) (v := ?_) (a' := ?_) (bb 9 31) rfl rfl (take_ofW HT_.out HW_.out (by kernel_rfl)) (fun _ _ _ h => h) (Or.inl ⟨by rfl, ?_⟩) hHeld ?_ ?_
        rotate_left
        ·rintro w' ⟨s0, s1, s2, s3⟩
         go_simp
         with_reducible rfl
        rotate_left
        ·simp only [Act.put, List.setIfInBounds_toArray, List.set_cons_zero, List.set_cons_succ, i64_w, i32_w]
         rfl
        refine take_ (i := 5) (N := some 34) (v := ?_) (a' := ?_) (bb 9 63) rfl rfl (take_ofW HT_.out HW_.out (by kernel_rfl)) (fun _ _ _ h => h) (Or.inl ⟨by rfl, ?_⟩) hHeld ?_ ?_
        rotate_left
        ·rintro w' ⟨s0, s1, s2, s3⟩
         go_simp
         with_reducible rfl
        rotate_left
        ·simp only [Act.put, List.setIfInBounds_toArray, List.set_cons_zero, List.set_cons_succ, i64_w, i32_w]
         rfl
        refine pl_ HT_ 6 (some 35) (bb 9 127) (h := ?_)
        refine pl_ HT_ 7 (some 36) (bb 9 255) (h := ?_)
        refine last_ (i := 8) (N := none) (bb 9 511) rfl rfl (one_of HT_.out (by kernel_rfl)) (by decide) (fun K hK => ?_)
        refine skip_ (w1 := ?_) (by rfl) rfl ?_ ?_
        rotate_left
        ·go_simp
         rfl
        refine hK.out _ _ ?_
        clear hK K
        refine done_ (done_of HT_.out (by kernel_rfl)) ?_
        try go_wp2
        go_roundg k1
        case measure => have := HK1.out; omega
        case rel => exact ⟨(y162), (wrap64 (x13_1 + 1)), (wrap64 (x156000_1 + ((rd_T29 l0 x13_1).f0))), (wrap64 (x156001_1 + ((rd_T29 l0 x13_1).f1))), (by first | rfl | (simp; done) | (simp [*]; done)), H', ⟨by have := HK1.out; omega⟩, ⟨Kd.R_p HQ25⟩, ⟨by (with_reducible repeat (first | refine blk_drewN ?_ _ | refine blk_drew ?_ | refine blk_alloc ?_ _)); refine blk_far ?_ (by have h_ := Kd.R_ne HO_5.out BK154.out (by decide); intro e_; exact h_ (by rw [e_]; rfl)) _; (with_reducible repeat (first | refine blk_drewN ?_ _ | refine blk_drew ?_ | refine blk_alloc ?_ _)); exact BK154.out⟩, ⟨by (with_reducible repeat (first | refine blk_drewN ?_ _ | refine blk_drew ?_ | refine blk_alloc ?_ _)); refine blk_far ?_ (by have h_ := Kd.R_ne HO_5.out BK155.out (by decide); intro e_; exact h_ (by rw [e_]; rfl)) _; (with_reducible repeat (first | refine blk_drewN ?_ _ | refine blk_drew ?_ | refine blk_alloc ?_ _)); exact BK155.out⟩, ⟨by repeat (first | (with_reducible first | exact HB.out | apply below_alloc | apply pw_below_drewN | apply below_drew1 | refine below_set ?_ GB156.out | refine below_set ?_ GE154.out | refine below_set ?_ GE155.out | refine below_set ?_ GE160.out) | exact HB.out)⟩⟩
       ·rw [if_neg c15] at H
        exact absurd H (by simp)
      ·rw [if_neg c14] at H
       exact absurd H (by simp)
     ·rw [if_neg c13] at H
      exact absurd H (by simp)
    ·rw [if_neg c12] at H
     exact absurd H (by simp)
   ·rw [if_neg c11] at H
    have c11b0 : decide (x13_1 < (l0.length : Int)) = false := decide_eq_false c11
    clear c11
    have H' := Aside0.mk H
    clear H
    go_wp2
    go_loopg [38] k1 (fun kq v38 w' => ∃ (x38_2 : Int) (x156002_2 : Int), v38 = .int .i64 x38_2 ∧ Aside0 (impl_joinPieces.l1 kq x5_1 x38_2 x156000_1 x156001_1 x156002_2 = some (r1, r2, r3, r4)) ∧ Aside0 (kq ≤ k1) ∧ Aside0 (Kd.R (Kd.int .i64) 123 w' w.heap.size (fun _ => True) (.slice (some ⟨gb156, 0, none⟩) 5 5) x5_1) ∧ Aside0 (w'.heap[gb154]? = some (.cells #[.int .i64 0, .int .i64 0, .int .i64 0] 29 (0, 0))) ∧ Aside0 (w'.heap[gb155]? = some (.cells #[.int .i64 x156000_1, .int .i64 x156001_1, .int .i64 x156002_2] 29 (0, 0))) ∧ Aside0 (Below w.heap.size w w'))
    case atStart => exact ⟨(0), (0), (by first | rfl | (simp; done) | (simp [*]; done)), H', ⟨Nat.le_refl _⟩, ⟨Kd.R_p HO_5⟩, ⟨kp_ BK154⟩, ⟨kp_ BK155⟩, ⟨hb_ HB⟩⟩
    case round =>
     clear H'
     (try clear c1); (try clear p1); (try clear q1); (try clear hx1); (try clear hf1); (try clear c2); (try clear p2); (try clear c4); (try clear c6); (try clear p6); (try clear c7); (try clear c8); (try clear c11); (try clear c11b0); (try clear c12); (try clear c12b0); (try clear c13); (try clear c13b0); (try clear c14); (try clear c14b0); (try clear c15); (try clear c15b0); (try clear p15); (try clear q15); (try clear hx15); (try clear p16); (try clear q16); (try clear hx16); (try clear hf16); (try clear c18); (try clear c19); (try clear c21)
     obtain ⟨x38_2, x156002_2, rfl, HA, HK2, HO_5, BK154, BK155, HB⟩ := hrel
     cases gk with
     | zero => exact absurd HA.out (by simp [impl_joinPieces.l1])
     | succ k2 =>
      have H := HA.out
      clear HA
      simp only [impl_joinPieces.l1] at H
      by_cases c26 : x38_2 < 5
      ·rw [if_pos c26] at H
       have c26b0 : decide (x38_2 < 5) = true := decide_eq_true c26
       clear c26
       by_cases c27 : 0 ≤ x38_2
       ·rw [if_pos c27] at H
        have c27b0 : decide (0 ≤ x38_2) = true := decide_eq_true c27
        clear c27
        by_cases c28 : 0 ≤ x156002_2
        ·rw [if_pos c28] at H
         have c28b0 : decide (0 ≤ x156002_2) = true := decide_eq_true c28
         clear c28
         by_cases c29 : x156002_2 < 5
         ·rw [if_pos c29] at H
          have c29b0 : decide (x156002_2 < 5) = true := decide_eq_true c29
          clear c29
          by_cases c30 : (rd x5_1 x38_2) > (rd x5_1 x156002_2)
          ·rw [if_pos c30] at H
           have c30b0 : decide ((rd x5_1 x156002_2) < (rd x5_1 x38_2)) = true := decide_eq_true c30
           clear c30
           have H' := Aside0.mk H
           clear H
           try go_wp2
           have n0_ := Aside0.mk (Kd.R_drew HO_5.out)
           have n1_ := Aside0.mk (blk_drew BK154.out)
           have n2_ := Aside0.mk (blk_drew BK155.out)
           have n3_ := Aside0.mk (below_drew1 HB.out)
           clear HO_5
           clear BK154
           clear BK155
           clear HB
           have HO_5 := n0_
           have BK154 := n1_
           have BK155 := n2_
           have HB := n3_
           clear n0_ n1_ n2_ n3_
           have p163 : 0 ≤ (x38_2 : Int) := of_decide_eq_true (by first | (with_reducible assumption) | assumption)
           have q163 : x38_2 < (x5_1.length : Int) := (by have h_ : (x38_2 : Int) < (5 : Int) := of_decide_eq_true (by first | (with_reducible assumption) | assumption); have e_ := (Kd.R_reads' HO_5.out).1; omega)
           have ql163 : ((x38_2 : Int) < (5 : Int)) = True := eq_true (of_decide_eq_true (by first | (with_reducible assumption) | assumption))
           obtain ⟨ad163, e163, hx163_0⟩ := Kd.at_int (Kd.R_reads' HO_5.out).2.2 x38_2 p163 q163
           obtain rfl : (⟨gb156, 0, none⟩ : Addr) = ad163 := (by injection e163)
           (first | simp only [add_plain] at hx163_0 | simp only [add_at] at hx163_0 | simp only [Addr.add, Nat.zero_add] at hx163_0 | skip)
           replace p163 := eq_true p163
           replace q163 := eq_true q163
           have p164 : 0 ≤ (x156002_2 : Int) := of_decide_eq_true (by first | (with_reducible assumption) | assumption)
           have q164 : x156002_2 < (x5_1.length : Int) := (by have h_ : (x156002_2 : Int) < (5 : Int) := of_decide_eq_true (by first | (with_reducible assumption) | assumption); have e_ := (Kd.R_reads' HO_5.out).1; omega)
           have ql164 : ((x156002_2 : Int) < (5 : Int)) = True := eq_true (of_decide_eq_true (by first | (with_reducible assumption) | assumption))
           obtain ⟨ad164, e164, hx164_0⟩ := Kd.at_int (Kd.R_reads' HO_5.out).2.2 x156002_2 p164 q164
           obtain rfl : (⟨gb156, 0, none⟩ : Addr) = ad164 := (by injection e164)
           (first | simp only [add_plain] at hx164_0 | simp only [add_at] at hx164_0 | simp only [Addr.add, Nat.zero_add] at hx164_0 | skip)
           replace p164 := eq_true p164
           replace q164 := eq_true q164
           refine start_ (n := 8) (S := fun w' => w'.cell? ⟨gb155, 0, none⟩ = some (.int .i64 x156000_1) ∧ w'.cell? ⟨gb155, 1, none⟩ = some (.int .i64 x156001_1) ∧ w'.cell? ⟨gb155, 2, none⟩ = some (.int .i64 x156002_2) ∧ w'.cell? ⟨gb156, (x38_2).toNat, none⟩ = some (.int .i64 (rd x5_1 x38_2)) ∧ w'.cell? ⟨gb156, (x156002_2).toNat, none⟩ = some (.int .i64 (rd x5_1 x156002_2))) (ds := []) (bb 8 0) (by kernel_rfl) rfl rfl ⟨(blk_cell BK155.out 0).trans rfl, (blk_cell BK155.out 1).trans rfl, (blk_cell BK155.out 2).trans rfl, hx163_0, hx164_0⟩ (fun hHeld => ?_); refine with_tabW impl_joinPieces.tab13 impl_joinPieces.bits13 (fun HT_ HW_ => ?_)
           generalize wr.drew = w31 at HO_5 BK154 BK155 HB hx163_0 hx164_0 hHeld ⊢
           refine pl_ HT_ 0 (some 41) (bb 8 1) (h := ?_)
           refine pl_ HT_ 1 (some 42) (bb 8 3) (h := ?_)
           refine pl_ HT_ 3 (some 44) (bb 8 11) (h := ?_)
           refine take_ (i := 2) (N := some 43) (v := ?_) (a' := ?_) (bb 8 15) rfl rfl (take_ofW HT_.out HW_.out (by kernel_rfl)) (fun _ _ _ h => h) (Or.inl ⟨by rfl, ?_⟩) hHeld ?_ ?_
           rotate_left
           ·rintro w' ⟨s0, s1, s2, s3, s4⟩
            go_simp
            with_reducible rfl
           rotate_left
           ·simp only [Act.put, List.setIfInBounds_toArray, List.set_cons_zero, List.set_cons_succ, i64_w, i32_w]
            rfl
           refine take_ (i := 4) (N := some 45) (v := ?_) (a' := ?_) (bb 8 31) rfl rfl (take_ofW HT_.out HW_.out (by kernel_rfl)) (fun _ _ _ h => h) (Or.inl ⟨by rfl, ?_⟩) hHeld ?_ ?_
           rotate_left
           ·rintro w' ⟨s0, s1, s2, s3, s4⟩
            go_simp
            with_reducible rfl
           rotate_left
           ·simp only [Act.put, List.setIfInBounds_toArray, List.set_cons_zero, List.set_cons_succ, i64_w, i32_w]
            rfl
           refine pl_ HT_ 5 (some 46) (bb 8 63) (h := ?_)
           refine take_ (i := 6) (N := some 47) (v := ?_) (a' := ?_) (bb 8 127) rfl rfl (take_ofW HT_.out HW_.out (by kernel_rfl)) (fun _ _ _ h => h) (Or.inl ⟨by rfl, ?_⟩) hHeld ?_ ?_
           rotate_left
           ·rintro w' ⟨s0, s1, s2, s3, s4⟩
            go_simp
            with_reducible rfl
           rotate_left
           ·simp only [Act.put, List.setIfInBounds_toArray, List.set_cons_zero, List.set_cons_succ, i64_w, i32_w]
            rfl
           refine pl_ HT_ 7 (some 48) (bb 8 255) (h := ?_)
           refine done_ (done_of HT_.out (by kernel_rfl)) ?_
           have hnb32 := NB155_154.out
           have hnc32 := NB154_155.out
           have hcz33_0 : w31.cell? ⟨gb155, 0, none⟩ = some (.int .i64 x156000_1) := (blk_cell BK155.out 0).trans rfl
           have hcz33_1 : w31.cell? ⟨gb155, 1, none⟩ = some (.int .i64 x156001_1) := (blk_cell BK155.out 1).trans rfl
           have hcz33_2 : w31.cell? ⟨gb155, 2, none⟩ = some (.int .i64 x156002_2) := (blk_cell BK155.out 2).trans rfl
           have hfz33_0 := blk_frozen BK155.out 0
           have hfz33_1 := blk_frozen BK155.out 1
           have hfz33_2 := blk_frozen BK155.out 2
           try go_wp2
           go_roundg k2
           case measure => have := HK1.out; have := HK2.out; omega
           case rel => exact ⟨(wrap64 (x38_2 + 1)), (x38_2), (by first | rfl | (simp; done) | (simp [*]; done)), H', ⟨by have := HK1.out; have := HK2.out; omega⟩, ⟨Kd.R_mono (Kd.R_s HO_5 BK155) (fun _ hk => trivial)⟩, ⟨kf_ BK154 NB154_155⟩, ⟨kpq_ (kputs BK155 [(2, _)])⟩, ⟨hb_ HB⟩⟩
          ·rw [if_neg c30] at H
           have c30b0 : decide ((rd x5_1 x156002_2) < (rd x5_1 x38_2)) = false := decide_eq_false c30
           clear c30
           have H' := Aside0.mk H
           clear H
           try go_wp2
           have n0_ := Aside0.mk (Kd.R_drew HO_5.out)
           have n1_ := Aside0.mk (blk_drew BK154.out)
           have n2_ := Aside0.mk (blk_drew BK155.out)
           have n3_ := Aside0.mk (below_drew1 HB.out)
           clear HO_5
           clear BK154
           clear BK155
           clear HB
           have HO_5 := n0_
           have BK154 := n1_
           have BK155 := n2_
           have HB := n3_
           clear n0_ n1_ n2_ n3_
           have p163 : 0 ≤ (x38_2 : Int) := of_decide_eq_true (by first | (with_reducible assumption) | assumption)
           have q163 : x38_2 < (x5_1.length : Int) := (by have h_ : (x38_2 : Int) < (5 : Int) := of_decide_eq_true (by first | (with_reducible assumption) | assumption); have e_ := (Kd.R_reads' HO_5.out).1; omega)
           have ql163 : ((x38_2 : Int) < (5 : Int)) = True := eq_true (of_decide_eq_true (by first | (with_reducible assumption) | assumption))
           obtain ⟨ad163, e163, hx163_0⟩ := Kd.at_int (Kd.R_reads' HO_5.out).2.2 x38_2 p163 q163
           obtain rfl : (⟨gb156, 0, none⟩ : Addr) = ad163 := (by injection e163)
           (first | simp only [add_plain] at hx163_0 | simp only [add_at] at hx163_0 | simp only [Addr.add, Nat.zero_add] at hx163_0 | skip)
           replace p163 := eq_true p163
           replace q163 := eq_true q163
           have p164 : 0 ≤ (x156002_2 : Int) := of_decide_eq_true (by first | (with_reducible assumption) | assumption)
           have q164 : x156002_2 < (x5_1.length : Int) := (by have h_ : (x156002_2 : Int) < (5 : Int) := of_decide_eq_true (by first | (with_reducible assumption) | assumption); have e_ := (Kd.R_reads' HO_5.out).1; omega)
           have ql164 : ((x156002_2 : Int) < (5 : Int)) = True := eq_true (of_decide_eq_true (by first | (with_reducible assumption) | assumption))
           obtain ⟨ad164, e164, hx164_0⟩ := Kd.at_int (Kd.R_reads' HO_5.out).2.2 x156002_2 p164 q164
           obtain rfl : (⟨gb156, 0, none⟩ : Addr) = ad164 := (by injection e164)
           (first | simp only [add_plain] at hx164_0 | simp only [add_at] at hx164_0 | simp only [Addr.add, Nat.zero_add] at hx164_0 | skip)
           replace p164 := eq_true p164
           replace q164 := eq_true q164
           refine start_ (n := 8) (S := fun w' => w'.cell? ⟨gb155, 0, none⟩ = some (.int .i64 x156000_1) ∧ w'.cell? ⟨gb155, 1, none⟩ = some (.int .i64 x156001_1) ∧ w'.cell? ⟨gb155, 2, none⟩ = some (.int .i64 x156002_2) ∧ w'.cell? ⟨gb156, (x38_2).toNat, none⟩ = some (.int .i64 (rd x5_1 x38_2)) ∧ w'.cell? ⟨gb156, (x156002_2).toNat, none⟩ = some (.int .i64 (rd x5_1 x156002_2))) (ds := []) (bb 8 0) (by kernel_rfl) rfl rfl ⟨(blk_cell BK155.out 0).trans rfl, (blk_cell BK155.out 1).trans rfl, (blk_cell BK155.out 2).trans rfl, hx163_0, hx164_0⟩ (fun hHeld => ?_); refine with_tabW impl_joinPieces.tab13 impl_joinPieces.bits13 (fun HT_ HW_ => ?_)
           generalize wr.drew = w34 at HO_5 BK154 BK155 HB hx163_0 hx164_0 hHeld ⊢
           refine pl_ HT_ 0 (some 41) (bb 8 1) (h := ?_)
           refine pl_ HT_ 1 (some 42) (bb 8 3) (h := ?_)
           refine pl_ HT_ 3 (some 44) (bb 8 11) (h := ?_)
           refine take_ (i := 2) (N := some 43) (v := ?_) (a' := ?_) (bb 8 15) rfl rfl (take_ofW HT_.out HW_.out (by kernel_rfl)) (fun _ _ _ h => h) (Or.inl ⟨by rfl, ?_⟩) hHeld ?_ ?_
           rotate_left
           ·rintro w' ⟨s0, s1, s2, s3, s4⟩
            go_simp
            with_reducible rfl
           rotate_left
           ·simp only [Act.put, List.setIfInBounds_toArray, List.set_cons_zero, List.set_cons_succ, i64_w, i32_w]
            rfl
           refine take_ (i := 4) (N := some 45) (v := ?_) (a' := ?_) (bb 8 31) rfl rfl (take_ofW HT_.out HW_.out (by kernel_rfl)) (fun _ _ _ h => h) (Or.inl ⟨by rfl, ?_⟩) hHeld ?_ ?_
           rotate_left
           ·rintro w' ⟨s0, s1, s2, s3, s4⟩
            go_simp
            with_reducible rfl
           rotate_left
           ·simp only [Act.put, List.setIfInBounds_toArray, List.set_cons_zero, List.set_cons_succ, i64_w, i32_w]
            rfl
           refine pl_ HT_ 5 (some 46) (bb 8 63) (h := ?_)
           refine take_ (i := 6) (N := some 47) (v := ?_) (a' := ?_) (bb 8 127) rfl rfl (take_ofW HT_.out HW_.out (by kernel_rfl)) (fun _ _ _ h => h) (Or.inl ⟨by rfl, ?_⟩) hHeld ?_ ?_
           rotate_left
           ·rintro w' ⟨s0, s1, s2, s3, s4⟩
            go_simp
            with_reducible rfl
           rotate_left
           ·simp only [Act.put, List.setIfInBounds_toArray, List.set_cons_zero, List.set_cons_succ, i64_w, i32_w]
            rfl
           refine pl_ HT_ 7 (some 48) (bb 8 255) (h := ?_)
           refine done_ (done_of HT_.out (by kernel_rfl)) ?_
           try go_wp2
           go_roundg k2
           case measure => have := HK1.out; have := HK2.out; omega
           case rel => exact ⟨(wrap64 (x38_2 + 1)), (x156002_2), (by first | rfl | (simp; done) | (simp [*]; done)), H', ⟨by have := HK1.out; have := HK2.out; omega⟩, ⟨Kd.R_p HO_5⟩, ⟨kp_ BK154⟩, ⟨kp_ BK155⟩, ⟨hb_ HB⟩⟩
         ·rw [if_neg c29] at H
          exact absurd H (by simp)
        ·rw [if_neg c28] at H
         exact absurd H (by simp)
       ·rw [if_neg c27] at H
        exact absurd H (by simp)
      ·rw [if_neg c26] at H
       have c26b0 : decide (x38_2 < 5) = false := decide_eq_false c26
       clear c26
       by_cases c35 : x156000_1 > 10000
       ·rw [if_pos c35] at H
        have c35b0 : decide (10000 < x156000_1) = true := decide_eq_true c35
        clear c35
        simp only [Option.some.injEq, Prod.mk.injEq] at H
        obtain ⟨rfl, rfl, rfl, rfl⟩ := H
        have hnb36 := NB155_154.out
        have hnc36 := NB154_155.out
        have hcz37_0 : wr.cell? ⟨gb155, 0, none⟩ = some (.int .i64 x156000_1) := (blk_cell BK155.out 0).trans rfl
        have hcz37_1 : wr.cell? ⟨gb155, 1, none⟩ = some (.int .i64 x156001_1) := (blk_cell BK155.out 1).trans rfl
        have hcz37_2 : wr.cell? ⟨gb155, 2, none⟩ = some (.int .i64 x156002_2) := (blk_cell BK155.out 2).trans rfl
        have hfz37_0 := blk_frozen BK155.out 0
        have hfz37_1 := blk_frozen BK155.out 1
        have hfz37_2 := blk_frozen BK155.out 2
        have hcz38_0 : wr.cell? ⟨gb154, 0, none⟩ = some (.int .i64 0) := (blk_cell BK154.out 0).trans rfl
        have hcz38_1 : wr.cell? ⟨gb154, 1, none⟩ = some (.int .i64 0) := (blk_cell BK154.out 1).trans rfl
        have hcz38_2 : wr.cell? ⟨gb154, 2, none⟩ = some (.int .i64 0) := (blk_cell BK154.out 2).trans rfl
        have hfz38_0 := blk_frozen BK154.out 0
        have hfz38_1 := blk_frozen BK154.out 1
        have hfz38_2 := blk_frozen BK154.out 2
        go_wp2
        refine bodyPost_ret (results_ct rfl _ _ gb154 29 #[.int .i64 0, .int .i64 0, .int .i64 0] (0, 0) _ rfl (kpq_ (kputs BK154 [(0, _), (1, _), (2, _)])) Try.underlying29 rfl (by kernel_rfl)) rfl ?_
        exact ⟨by first | rfl | (simp [errW_none, errW_some] <;> rfl) | (simp [*, errW_none, errW_some] <;> rfl), hb_ HB⟩
       ·rw [if_neg c35] at H
        have c35b0 : decide (10000 < x156000_1) = false := decide_eq_false c35
        clear c35
        simp only [Option.some.injEq, Prod.mk.injEq] at H
        obtain ⟨rfl, rfl, rfl, rfl⟩ := H
        have hnb39 := NB155_154.out
        have hnc39 := NB154_155.out
        have hcz40_0 : wr.cell? ⟨gb155, 0, none⟩ = some (.int .i64 x156000_1) := (blk_cell BK155.out 0).trans rfl
        have hcz40_1 : wr.cell? ⟨gb155, 1, none⟩ = some (.int .i64 x156001_1) := (blk_cell BK155.out 1).trans rfl
        have hcz40_2 : wr.cell? ⟨gb155, 2, none⟩ = some (.int .i64 x156002_2) := (blk_cell BK155.out 2).trans rfl
        have hfz40_0 := blk_frozen BK155.out 0
        have hfz40_1 := blk_frozen BK155.out 1
        have hfz40_2 := blk_frozen BK155.out 2
        have hcz41_0 : wr.cell? ⟨gb154, 0, none⟩ = some (.int .i64 0) := (blk_cell BK154.out 0).trans rfl
        have hcz41_1 : wr.cell? ⟨gb154, 1, none⟩ = some (.int .i64 0) := (blk_cell BK154.out 1).trans rfl
        have hcz41_2 : wr.cell? ⟨gb154, 2, none⟩ = some (.int .i64 0) := (blk_cell BK154.out 2).trans rfl
        have hfz41_0 := blk_frozen BK154.out 0
        have hfz41_1 := blk_frozen BK154.out 1
        have hfz41_2 := blk_frozen BK154.out 2
        go_wp2
        refine bodyPost_ret (results_ct rfl _ _ gb154 29 #[.int .i64 x156000_1, .int .i64 x156001_1, .int .i64 x156002_2] (0, 0) _ rfl (kpq_ (kputs BK154 [(0, _), (1, _), (2, _)])) Try.underlying29 rfl (by kernel_rfl)) rfl ?_
        exact ⟨by first | rfl | (simp [errW_none, errW_some] <;> rfl) | (simp [*, errW_none, errW_some] <;> rfl), hb_ HB⟩

/-! ### impl_JoinPieces: function 20 -/
def impl_JoinPieces.f (k : Nat) (l0 : List (S29)) : Option (Int × Int × Int × Bool) := (impl_arePieces.f k l0).bind fun t166 => (if t166 = true then ((impl_joinPieces.f k l0).bind fun bt167 => (some (bt167.1, bt167.2.1, bt167.2.2.1, bt167.2.2.2))) else (some (0, 0, 0, false)))
set_option maxHeartbeats 8000000 in
set_option maxRecDepth 100000 in
theorem impl_JoinPieces.calls (k : Nat) (A0 : Option Addr) (c0 : Nat) (l0 : List (S29)) (r1 : Int) (r2 : Int) (r3 : Int) (r4 : Bool) (w : World) (hr0 : Kd.C k29 w A0 l0.length l0) (hc0 : l0.length ≤ c0) (h : impl_JoinPieces.f k l0 = some (r1, r2, r3, r4)) :
  Calls Try.prog 20 #[.slice A0 l0.length c0] w fun e w' => e = .returned (.tuple #[.agg #[.int .i64 r1, .int .i64 r2, .int .i64 r3], .bool r4]) ∧ Below w.heap.size w w' := by
 have hu29 := Try.underlying29
 have HR0 := Aside0.mk hr0
 have HC0 := Aside0.mk hc0
 clear hr0 hc0
 have HB := Aside0.mk (Below.refl w.heap.size w)
 have H : ((impl_arePieces.f k l0).bind fun t166 => (if t166 = true then ((impl_joinPieces.f k l0).bind fun bt167 => (some (bt167.1, bt167.2.1, bt167.2.2.1, bt167.2.2.2))) else (some (0, 0, 0, false)))) = some (r1, r2, r3, r4) := h
 clear h
 replace H := Option.bind_eq_some_iff.mp H
 obtain ⟨t166, A20, H⟩ := H
 try dsimp only at H
 have A2 := Aside0.mk A20
 clear A20
 by_cases c3 : t166 = true
 ·subst c3
  rw [if_pos rfl] at H
  replace H := Option.bind_eq_some_iff.mp H
  obtain ⟨⟨t167, t168, t169, t170⟩, A40, H⟩ := H
  try dsimp only at H
  have A4 := Aside0.mk A40
  clear A40
  simp only [Option.some.injEq, Prod.mk.injEq] at H
  obtain ⟨rfl, rfl, rfl, rfl⟩ := H
  go_enter Try.func20, Try.ntmps20
  go_wp2_with (first | ((with_reducible refine gate_dst (N := 2) rfl ?_); refine box_event ?hg (N := 2) ?hd (cs := #[.int .i64 0, .int .i64 0, .int .i64 0]) (t := 29) ?hr ?_; (case hd => rfl); (case hg => rfl); (case hr => first | (go_simp; done) | (go_simp; rfl)); intro gb165 hg w5 hbox hb; have BK165 := Aside0.mk (hbox); have GW165 := gs_ hg HB; have GE165 := gs_ hg HB; replace HB := hbs_ HB hb; clear hb hbox hg) | ((with_reducible refine gate_callee (f := 68) rfl ?_); refine gl_ (some 5) Try.func68 #[.slice A0 l0.length c0] rfl rfl rfl ?_; (with_reducible refine (impl_arePieces.calls k _ _ l0 true _ ?side1 ?side2 A2.out).mono ?_); (case side1 => exact Kd.C_w HR0 HB); (case side2 => exact HC0.out); rintro e w6 ⟨rfl, hb⟩; refine ⟨_, rfl, ?_⟩; replace BK165 := kb_ BK165 hb; replace HB := hbs_ HB hb; (try clear hb); (try clear hb2); (try clear hk); (try clear hi)) | ((with_reducible refine gate_callee (f := 69) rfl ?_); refine gl_ (some 9) Try.func69 #[.slice A0 l0.length c0] rfl rfl rfl ?_; (with_reducible refine (impl_joinPieces.calls k _ _ l0 t167 t168 t169 t170 _ ?side1 ?side2 A4.out).mono ?_); (case side1 => exact Kd.C_w HR0 HB); (case side2 => exact HC0.out); rintro e w7 ⟨rfl, hb⟩; refine ⟨_, rfl, ?_⟩; replace BK165 := kb_ BK165 hb; replace HB := hbs_ HB hb; (try clear hb); (try clear hb2); (try clear hk); (try clear hi); obtain ⟨hcz8_0, hcz8_1, hcz8_2, hfz8_0, hfz8_1, hfz8_2⟩ := bx3 BK165))
  refine bodyPost_ret (results_ct rfl _ _ gb165 29 #[.int .i64 t167, .int .i64 t168, .int .i64 t169] (0, 0) _ rfl (kpq_ (kputs BK165 [(0, _), (1, _), (2, _)])) Try.underlying29 rfl (by kernel_rfl)) rfl ?_
  exact ⟨by first | rfl | (simp [errW_none, errW_some] <;> rfl) | (simp [*, errW_none, errW_some] <;> rfl), hb_ HB⟩
 ·replace c3 := Bool.eq_false_iff.mpr c3
  subst c3
  rw [if_neg (show ¬ (false = true) by decide)] at H
  simp only [Option.some.injEq, Prod.mk.injEq] at H
  obtain ⟨rfl, rfl, rfl, rfl⟩ := H
  go_enter Try.func20, Try.ntmps20
  go_wp2_with (first | ((with_reducible refine gate_dst (N := 2) rfl ?_); refine box_event ?hg (N := 2) ?hd (cs := #[.int .i64 0, .int .i64 0, .int .i64 0]) (t := 29) ?hr ?_; (case hd => rfl); (case hg => rfl); (case hr => first | (go_simp; done) | (go_simp; rfl)); intro gb165 hg w9 hbox hb; have BK165 := Aside0.mk (hbox); have GW165 := gs_ hg HB; have GE165 := gs_ hg HB; replace HB := hbs_ HB hb; clear hb hbox hg) | ((with_reducible refine gate_callee (f := 68) rfl ?_); refine gl_ (some 5) Try.func68 #[.slice A0 l0.length c0] rfl rfl rfl ?_; (with_reducible refine (impl_arePieces.calls k _ _ l0 false _ ?side1 ?side2 A2.out).mono ?_); (case side1 => exact Kd.C_w HR0 HB); (case side2 => exact HC0.out); rintro e w10 ⟨rfl, hb⟩; refine ⟨_, rfl, ?_⟩; replace BK165 := kb_ BK165 hb; replace HB := hbs_ HB hb; (try clear hb); (try clear hb2); (try clear hk); (try clear hi); obtain ⟨hcz11_0, hcz11_1, hcz11_2, hfz11_0, hfz11_1, hfz11_2⟩ := bx3 BK165))
  refine bodyPost_ret (results_ct rfl _ _ gb165 29 #[.int .i64 0, .int .i64 0, .int .i64 0] (0, 0) _ rfl (kpq_ (kputs BK165 [(0, _), (1, _), (2, _)])) Try.underlying29 rfl (by kernel_rfl)) rfl ?_
  exact ⟨by first | rfl | (simp [errW_none, errW_some] <;> rfl) | (simp [*, errW_none, errW_some] <;> rfl), hb_ HB⟩

/-! ### spec_sbPiece: function 66 -/
def spec_sbPiece.f (a0_0 : Int) (a0_1 : Int) (a0_2 : Int) : Option (Bool) := (spec_l1In.f a0_0 0 10000).bind fun t172 => (if t172 = true then ((spec_l1In.f a0_1 0 (wrap64 (1000 * a0_0))).bind fun t173 => (if t173 = true then ((spec_l1In.f a0_2 0 4).bind fun t174 => (some t174)) else (some false))) else (some false))
set_option maxHeartbeats 8000000 in
set_option maxRecDepth 100000 in
theorem spec_sbPiece.calls (a0_0 : Int) (a0_1 : Int) (a0_2 : Int) (r : Bool) (w : World) (h : spec_sbPiece.f a0_0 a0_1 a0_2 = some r) :
  Calls Try.prog 66 #[.agg #[.int .i64 a0_0, .int .i64 a0_1, .int .i64 a0_2]] w fun e w' => e = .returned (.bool r) ∧ Below w.heap.size w w' := by
 have hu29 := Try.underlying29
 have HB := Aside0.mk (Below.refl w.heap.size w)
 have H : ((spec_l1In.f a0_0 0 10000).bind fun t172 => (if t172 = true then ((spec_l1In.f a0_1 0 (wrap64 (1000 * a0_0))).bind fun t173 => (if t173 = true then ((spec_l1In.f a0_2 0 4).bind fun t174 => (some t174)) else (some false))) else (some false))) = some r := h
 clear h
 replace H := Option.bind_eq_some_iff.mp H
 obtain ⟨t172, A20, H⟩ := H
 try dsimp only at H
 have A2 := Aside0.mk A20
 clear A20
 by_cases c3 : t172 = true
 ·subst c3
  rw [if_pos rfl] at H
  replace H := Option.bind_eq_some_iff.mp H
  obtain ⟨t173, A40, H⟩ := H
  try dsimp only at H
  have A4 := Aside0.mk A40
  clear A40
  by_cases c5 : t173 = true
  ·subst c5
   rw [if_pos rfl] at H
   replace H := Option.bind_eq_some_iff.mp H
   obtain ⟨t174, A60, H⟩ := H
   try dsimp only at H
   have A6 := Aside0.mk A60
   clear A60
   obtain rfl := Option.some.inj H
   go_enter Try.func66, Try.ntmps66
   go_wp2_with (first | ((with_reducible refine gate_dst (N := 1) rfl ?_); refine box_event ?hg (N := 1) ?hd (cs := #[.int .i64 a0_0, .int .i64 a0_1, .int .i64 a0_2]) (t := 29) ?hr ?_; (case hd => rfl); (case hg => rfl); (case hr => first | (go_simp; done) | (go_simp; rfl)); intro gb171 hg w7 hbox hb; have BK171 := Aside0.mk (hbox); have GW171 := gs_ hg HB; have GE171 := gs_ hg HB; replace HB := hbs_ HB hb; clear hb hbox hg; obtain ⟨hcz8_0, hcz8_1, hcz8_2, hfz8_0, hfz8_1, hfz8_2⟩ := bx3 BK171) | ((with_reducible refine gate_callee (f := 70) rfl ?_); refine gl_ (some 5) Try.func70 #[.int .i64 a0_0, .int .i64 0, .int .i64 10000] rfl rfl rfl ?_; (with_reducible refine (spec_l1In.calls a0_0 0 10000 true _ A2.out).mono ?_); rintro e w' ⟨rfl, ⟨nd, rfl⟩⟩; refine ⟨_, rfl, ?_⟩) | (go_at_call 70; (with_reducible refine (spec_l1In.calls a0_1 0 (wrap64 (1000 * a0_0)) true _ A4.out).mono ?_); rintro e w' ⟨rfl, ⟨nd, rfl⟩⟩) | (go_at_call 70; (with_reducible refine (spec_l1In.calls a0_2 0 4 t174 _ A6.out).mono ?_); rintro e w' ⟨rfl, ⟨nd, rfl⟩⟩))
   go_ret
   exact ⟨by first | rfl | (simp [errW_none, errW_some] <;> rfl) | (simp [*, errW_none, errW_some] <;> rfl), hb_ HB⟩
  ·replace c5 := Bool.eq_false_iff.mpr c5
   subst c5
   rw [if_neg (show ¬ (false = true) by decide)] at H
   obtain rfl := Option.some.inj H
   go_enter Try.func66, Try.ntmps66
   go_wp2_with (first | ((with_reducible refine gate_dst (N := 1) rfl ?_); refine box_event ?hg (N := 1) ?hd (cs := #[.int .i64 a0_0, .int .i64 a0_1, .int .i64 a0_2]) (t := 29) ?hr ?_; (case hd => rfl); (case hg => rfl); (case hr => first | (go_simp; done) | (go_simp; rfl)); intro gb171 hg w9 hbox hb; have BK171 := Aside0.mk (hbox); have GW171 := gs_ hg HB; have GE171 := gs_ hg HB; replace HB := hbs_ HB hb; clear hb hbox hg; obtain ⟨hcz10_0, hcz10_1, hcz10_2, hfz10_0, hfz10_1, hfz10_2⟩ := bx3 BK171) | ((with_reducible refine gate_callee (f := 70) rfl ?_); refine gl_ (some 5) Try.func70 #[.int .i64 a0_0, .int .i64 0, .int .i64 10000] rfl rfl rfl ?_; (with_reducible refine (spec_l1In.calls a0_0 0 10000 true _ A2.out).mono ?_); rintro e w' ⟨rfl, ⟨nd, rfl⟩⟩; refine ⟨_, rfl, ?_⟩) | (go_at_call 70; (with_reducible refine (spec_l1In.calls a0_1 0 (wrap64 (1000 * a0_0)) false _ A4.out).mono ?_); rintro e w' ⟨rfl, ⟨nd, rfl⟩⟩))
   go_ret
   exact ⟨by first | rfl | (simp [errW_none, errW_some] <;> rfl) | (simp [*, errW_none, errW_some] <;> rfl), hb_ HB⟩
 ·replace c3 := Bool.eq_false_iff.mpr c3
  subst c3
  rw [if_neg (show ¬ (false = true) by decide)] at H
  obtain rfl := Option.some.inj H
  go_enter Try.func66, Try.ntmps66
  go_wp2_with (first | ((with_reducible refine gate_dst (N := 1) rfl ?_); refine box_event ?hg (N := 1) ?hd (cs := #[.int .i64 a0_0, .int .i64 a0_1, .int .i64 a0_2]) (t := 29) ?hr ?_; (case hd => rfl); (case hg => rfl); (case hr => first | (go_simp; done) | (go_simp; rfl)); intro gb171 hg w11 hbox hb; have BK171 := Aside0.mk (hbox); have GW171 := gs_ hg HB; have GE171 := gs_ hg HB; replace HB := hbs_ HB hb; clear hb hbox hg; obtain ⟨hcz12_0, hcz12_1, hcz12_2, hfz12_0, hfz12_1, hfz12_2⟩ := bx3 BK171) | ((with_reducible refine gate_callee (f := 70) rfl ?_); refine gl_ (some 5) Try.func70 #[.int .i64 a0_0, .int .i64 0, .int .i64 10000] rfl rfl rfl ?_; (with_reducible refine (spec_l1In.calls a0_0 0 10000 false _ A2.out).mono ?_); rintro e w' ⟨rfl, ⟨nd, rfl⟩⟩; refine ⟨_, rfl, ?_⟩))
  go_ret
  exact ⟨by first | rfl | (simp [errW_none, errW_some] <;> rfl) | (simp [*, errW_none, errW_some] <;> rfl), hb_ HB⟩

/-! ### spec_sbSum: function 72 -/
def spec_sbSum.l0 : Nat → Int → List Int → Int → Int → Option (Int)
 | 0, _, _, _, _ => none
 | k + 1, x3, x6, x7, x8 => if x8 < x7 then (if 0 ≤ x8 then (if x8 < (x6.length : Int) then (spec_sbSum.l0 k (wrap64 (x3 + (rd x6 x8))) x6 x7 (wrap64 (x8 + 1))) else (none)) else (none)) else (some x3)
def spec_sbSum.f (k : Nat) (l0 : List Int) : Option (Int) := spec_sbSum.l0 k 0 l0 (l0.length : Int) 0
set_option maxHeartbeats 8000000 in
set_option maxRecDepth 100000 in
theorem spec_sbSum.calls (k : Nat) (A0 : Option Addr) (c0 : Nat) (l0 : List Int) (r : Int) (w : World) (hr0 : Kd.C (Kd.int .i64) w A0 l0.length l0) (hc0 : l0.length ≤ c0) (h : spec_sbSum.f k l0 = some r) :
  Calls Try.prog 72 #[.slice A0 l0.length c0] w fun e w' => e = .returned (.int .i64 r) ∧ Drawn0 w w' := by
 have HR0 := Aside0.mk hr0
 have HC0 := Aside0.mk hc0
 clear hr0 hc0
 have H : (spec_sbSum.l0 k 0 l0 (l0.length : Int) 0) = some r := h
 clear h
 have H' := Aside0.mk H
 clear H
 go_enter Try.func72, Try.ntmps72
 go_wp2
 go_loopg [3, 8] k (fun kq v3 v8 w' => ∃ (x3_1 : Int) (x8_1 : Int), v3 = .int .i64 x3_1 ∧ v8 = .int .i64 x8_1 ∧ Aside0 (spec_sbSum.l0 kq x3_1 l0 (l0.length : Int) x8_1 = some r) ∧ Aside0 (kq ≤ k) ∧ Drawn0 w w')
 case atStart => exact ⟨(0), (0), (by first | rfl | (simp; done) | (simp [*]; done)), (by first | rfl | (simp; done) | (simp [*]; done)), H', ⟨Nat.le_refl _⟩, by repeat (first | exact Drawn0.refl _ | apply Drawn0.step)⟩
 case round =>
  clear H'
  obtain ⟨x3_1, x8_1, rfl, rfl, HA, HK1, ⟨m1, rfl⟩⟩ := hrel
  cases gk with
  | zero => exact absurd HA.out (by simp [spec_sbSum.l0])
  | succ k1 =>
   have H := HA.out
   clear HA
   simp only [spec_sbSum.l0] at H
   by_cases c2 : x8_1 < (l0.length : Int)
   ·rw [if_pos c2] at H
    have c2b0 : decide (x8_1 < (l0.length : Int)) = true := decide_eq_true c2
    clear c2
    by_cases c3 : 0 ≤ x8_1
    ·rw [if_pos c3] at H
     have c3b0 : decide (0 ≤ x8_1) = true := decide_eq_true c3
     clear c3
     by_cases c4 : x8_1 < (l0.length : Int)
     ·rw [if_pos c4] at H
      have c4b0 : decide (x8_1 < (l0.length : Int)) = true := decide_eq_true c4
      clear c4
      have H' := Aside0.mk H
      clear H
      have p175 : 0 ≤ (x8_1 : Int) := of_decide_eq_true (by first | (with_reducible assumption) | assumption)
      have q175 : x8_1 < (l0.length : Int) := of_decide_eq_true (by first | (with_reducible assumption) | assumption)
      obtain ⟨ad175, e175, hx175_0⟩ := Kd.at_int HR0.out x8_1 p175 q175
      cases e175
      replace p175 := eq_true p175
      replace q175 := eq_true q175
      go_wp2
      go_roundg k1
      case measure => have := HK1.out; omega
      case rel => exact ⟨(wrap64 (x3_1 + (rd l0 x8_1))), (wrap64 (x8_1 + 1)), (by first | rfl | (simp; done) | (simp [*]; done)), (by first | rfl | (simp; done) | (simp [*]; done)), H', ⟨by have := HK1.out; omega⟩, by repeat (first | exact Drawn0.refl _ | apply Drawn0.step)⟩
     ·rw [if_neg c4] at H
      exact absurd H (by simp)
    ·rw [if_neg c3] at H
     exact absurd H (by simp)
   ·rw [if_neg c2] at H
    have c2b0 : decide (x8_1 < (l0.length : Int)) = false := decide_eq_false c2
    clear c2
    obtain rfl := Option.some.inj H
    go_wp2
    go_ret
    exact ⟨by first | rfl | (simp; done) | (simp [*]; done), by repeat (first | exact Drawn0.refl _ | apply Drawn0.step)⟩

end Go.Proofs.Ytceajigggcihnaa.PFnPieces
