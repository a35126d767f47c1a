-- Laid for this claim by wip/tools/print2.sh, a changed copy of the kit's print (wip/tools/patch_print.py): not by print.sh.
import Derived.Test.YtceajigggcihnaaPFnPiecesx0
import Derived.Test.YtceajigggcihnaaPFnPiecesx4
import Derived.Test.YtceajigggcihnaaPFnPiecesx5
import Derived.Test.YtceajigggcihnaaPFnPiecesx10
import Derived.Test.YtceajigggcihnaaVFnPieces
namespace Go.Proofs.Ytceajigggcihnaa.PFnPieces
open Go.RowKit Go.Proofs.YtceajigggcihnaaW.PrintWords Go.Proofs.YtceajigggcihnaaW.PrintLast Go.Proofs.YtceajigggcihnaaW.PrintMore
attribute [local go_sem] max2_int min2_int max_two min_two max_three min_three max_four min_four   -- for this text's walks alone
set_option linter.unusedVariables false
set_option linter.unusedSimpArgs false

/-! ### spec_DrawSplitPiece: function 39 -/
mutual
def spec_DrawSplitPiece.j0 : Nat → List Int → Int → List Int → Int → Int → Option (Int × Int × Int × List Int)
 | 0, _, _, _, _, _ => none
 | k + 1, x5, x6, x302000, x302001, x302002 => spec_DrawSplitPiece.l0 k x5 x6 x302000 x302001 x302002
def spec_DrawSplitPiece.l0 : Nat → List Int → Int → List Int → Int → Int → Option (Int × Int × Int × List Int)
 | 0, _, _, _, _, _ => none
 | k + 1, x5, x6, x302000, x302001, x302002 => if (x5.length : Int) < x6 then ((spec_l1Cur_among.f x302000 x302001 x302002 (([0, 1, 1, 2, 3, 7, 100] : List Int))).bind fun bt317 => (if x5.length < 17592186044416 then (spec_DrawSplitPiece.l0 k (x5 ++ [bt317.1]) x6 x302000 bt317.2.1 bt317.2.2) else (none))) else (if (x5.length : Int) > 0 then ((spec_l1Cur_one.f x302000 x302001 x302002 20).bind fun bt323 => (spec_DrawSplitPiece.j2 k x5 bt323.1 x302000 bt323.2.1 bt323.2.2)) else (spec_DrawSplitPiece.j2 k x5 false x302000 x302001 x302002))
def spec_DrawSplitPiece.j2 : Nat → List Int → Bool → List Int → Int → Int → Option (Int × Int × Int × List Int)
 | 0, _, _, _, _, _ => none
 | k + 1, x5, x34, x302000, x302001, x302002 => if x34 = true then ((spec_l1Cur_among.f x302000 x302001 x302002 (([(-1), 101] : List Int))).bind fun bt329 => (if 0 < (x5.length : Int) then ((spec_l1Cur_piece.f k x302000 bt329.2.1 bt329.2.2).bind fun bt333 => (some (bt333.1, bt333.2.1, bt333.2.2.1, (x5.set (0 : Int).toNat bt329.1)))) else (none))) else ((spec_l1Cur_piece.f k x302000 x302001 x302002).bind fun bt338 => (some (bt338.1, bt338.2.1, bt338.2.2.1, x5)))
end
def spec_DrawSplitPiece.f (k : Nat) (l0 : List Int) : Option (Int × Int × Int × List Int) := (spec_l1Cur_pick.f l0 0 0 6).bind fun bt302 => ((spec_l1Cur_one.f l0 bt302.2.1 bt302.2.2 20).bind fun bt305 => (if bt305.1 = true then ((spec_l1Cur_among.f l0 bt305.2.1 bt305.2.2 (([0, 20, 21] : List Int))).bind fun bt311 => (spec_DrawSplitPiece.j0 k ([] : List Int) bt311.1 l0 bt311.2.1 bt311.2.2)) else (spec_DrawSplitPiece.j0 k ([] : List Int) (wrap64 (1 + bt302.1)) l0 bt305.2.1 bt305.2.2)))
set_option maxHeartbeats 8000000 in
set_option maxRecDepth 100000 in
theorem spec_DrawSplitPiece.calls (k : Nat) (A0 : Option Addr) (c0 : Nat) (l0 : List Int) (r1 : Int) (r2 : Int) (r3 : Int) (r4 : List Int) (w : World) (hr0 : Kd.C (Kd.int .u8) w A0 l0.length l0) (hc0 : l0.length ≤ c0) (h : spec_DrawSplitPiece.f k l0 = some (r1, r2, r3, r4)) :
  Calls Try.prog 39 #[.slice A0 l0.length c0] w fun e w' => ∃ v3_ : Value, e = .returned (.tuple #[.agg #[.int .i64 r1, .int .i64 r2, .int .i64 r3], v3_]) ∧ Kd.R (Kd.int .i64) 3 w' w.heap.size (fun _ => True) v3_ r4 ∧ Below w.heap.size w w' := by
 have hu29 := Try.underlying29
 have hu106 := Try.underlying106
 have HR0 := Aside0.mk hr0
 have HC0 := Aside0.mk hc0
 clear hr0 hc0
 have HB := Aside0.mk (Below.refl w.heap.size w)
 have H : ((spec_l1Cur_pick.f l0 0 0 6).bind fun bt302 => ((spec_l1Cur_one.f l0 bt302.2.1 bt302.2.2 20).bind fun bt305 => (if bt305.1 = true then ((spec_l1Cur_among.f l0 bt305.2.1 bt305.2.2 (([0, 20, 21] : List Int))).bind fun bt311 => (spec_DrawSplitPiece.j0 k ([] : List Int) bt311.1 l0 bt311.2.1 bt311.2.2)) else (spec_DrawSplitPiece.j0 k ([] : List Int) (wrap64 (1 + bt302.1)) l0 bt305.2.1 bt305.2.2)))) = some (r1, r2, r3, r4) := h
 clear h
 replace H := Option.bind_eq_some_iff.mp H
 obtain ⟨⟨t302, t303, t304⟩, A20, H⟩ := H
 try dsimp only at H
 have A2 := Aside0.mk A20
 clear A20
 replace H := Option.bind_eq_some_iff.mp H
 obtain ⟨⟨t305, t306, t307⟩, A30, H⟩ := H
 try dsimp only at H
 have A3 := Aside0.mk A30
 clear A30
 have HC4 := Aside0.mk H
 clear H
 go_enter Try.func39, Try.ntmps39
 go_upto_if 14 with (first | ((with_reducible refine gate_dst (N := 2) rfl ?_); refine box_event ?hg (N := 2) ?hd (cs := #[.int .i64 0, .int .i64 0, .int .i64 0]) (t := 29) ?hr ?_; (case hd => rfl); (case hg => rfl); (case hr => first | (go_simp; done) | (go_simp; rfl)); intro gb300 hg w5 hbox hb; have BK300 := Aside0.mk (hbox); have GW300 := gs_ hg HB; have GE300 := gs_ hg HB; replace HB := hbs_ HB hb; clear hb hbox hg) | ((with_reducible refine gate_dst (N := 9) rfl ?_); refine box_event ?hg (N := 9) ?hd (cs := #[.slice A0 l0.length c0, .int .i64 0, .int .u64 0]) (t := 106) ?hr ?_; (case hd => rfl); (case hg => rfl); (case hr => first | (go_simp; done) | (go_simp; rfl)); intro gb301 hg w6 hbox hb; have HI301 := Aside0.mk ((show IsS106 w w6 gb301 l0 0 0 from ⟨A0, c0, hbox, (by rw [hg]; exact (below_size (hb_ HB))), HR0.out⟩)); have GW301 := gs_ hg HB; have GE301 := gs_ hg HB; have NB300_301 := nl_ hg BK300; have NB301_300 := ng_ hg BK300; replace BK300 := kb_ BK300 hb; replace HB := hbs_ HB hb; clear hb hbox hg) | ((with_reducible refine gate_callee (f := 87) rfl ?_); refine gl_ (some 11) Try.func87 #[.pointer (some ⟨gb301, 0, none⟩), .int .i64 6] rfl rfl rfl ?_; (with_reducible refine (spec_l1Cur_pick.calls gb301 l0 0 0 6 t302 t303 t304 w _ ?side1 ?side2 A2.out).mono ?_); (case side1 => exact IsS106.q HI301); (case side2 => exact hbI_ HB (IsS106.ge HI301.out)); rintro e w7 ⟨rfl, hi, hb, hk⟩; refine ⟨_, rfl, ?_⟩; replace BK300 := kk_ BK300 hk NB300_301; replace HB := Aside0.mk (hb); replace HI301 := Aside0.mk (hi); (try clear hb); (try clear hb2); (try clear hk); (try clear hi)) | ((with_reducible refine gate_callee (f := 88) rfl ?_); refine gl_ (some 14) Try.func88 #[.pointer (some ⟨gb301, 0, none⟩), .int .i64 20] rfl rfl rfl ?_; (with_reducible refine (spec_l1Cur_one.calls gb301 l0 t303 t304 20 t305 t306 t307 w _ ?side1 ?side2 A3.out).mono ?_); (case side1 => exact IsS106.q HI301); (case side2 => exact hbI_ HB (IsS106.ge HI301.out)); rintro e w8 ⟨rfl, hi, hb, hk⟩; refine ⟨_, rfl, ?_⟩; replace BK300 := kk_ BK300 hk NB300_301; replace HB := Aside0.mk (hb); replace HI301 := Aside0.mk (hi); (try clear hb); (try clear hb2); (try clear hk); (try clear hi)))
 (try simp only [Act.put, List.setIfInBounds_toArray, List.set_cons_zero, List.set_cons_succ])
 go_cut [6] (fun v6 wc => ∃ (kq : Nat) (x6_3 : Int) (x302001_3 : Int) (x302002_3 : Int), v6 = .int .i64 x6_3 ∧ Aside0 (spec_DrawSplitPiece.j0 kq ([] : List Int) x6_3 l0 x302001_3 x302002_3 = some (r1, r2, r3, r4)) ∧ Aside0 (kq ≤ k) ∧ Aside0 (Kd.R (Kd.int .i64) 3 wc w.heap.size (fun _ => True) (.slice none 0 0) ([] : List Int)) ∧ Aside0 (wc.heap[gb300]? = some (.cells #[.int .i64 0, .int .i64 0, .int .i64 0] 29 (0, 0))) ∧ Aside0 (IsS106 w wc gb301 l0 x302001_3 x302002_3) ∧ Aside0 (Below w.heap.size w wc))
 case first =>
  have H := HC4.out
  clear HC4
  by_cases c9 : t305 = true
  ·subst c9
   rw [if_pos rfl] at H
   obtain ⟨y308, hy308⟩ : ∃ y_ : List Int, y_ = (([0, 20, 21] : List Int)) := ⟨_, rfl⟩
   replace H : ((spec_l1Cur_among.f l0 t306 t307 y308).bind fun bt311 => (spec_DrawSplitPiece.j0 k ([] : List Int) bt311.1 l0 bt311.2.1 bt311.2.2)) = some (r1, r2, r3, r4) := by first | (rw [hy308]; with_reducible exact H) | (have H2_ := (Option.bind_some _ _).symm.trans H; rw [hy308]; with_reducible exact H2_) | (have H2_ := (Option.bind_some _ _).symm.trans H; with_reducible exact H2_) | with_reducible exact H | (rw [hy308]; exact H) | exact H
   have Ny308 := Aside0.mk hy308
   clear hy308
   replace H := Option.bind_eq_some_iff.mp H
   obtain ⟨⟨t311, t312, t313⟩, A100, H⟩ := H
   try dsimp only at H
   have A10 := Aside0.mk A100
   clear A100
   have H' := Aside0.mk H
   clear H
   go_wp2_with (first | ((with_reducible refine gate_dst (N := 16) rfl ?_); refine Kd.R_lit (Kd.int .i64) _ 3 ?hg (N := 16) ?hd (xs := ([0, 20, 21] : List Int)) (inner := [.int .i64 0, .int .i64 20, .int .i64 21]) (ok := fun _ => True) (okp := fun _ => True) ?hr ?hp (fun _ hk => hk) trivial (Below.refl _ _) (Nat.le_refl _) (by simp) ?_; (case hd => rfl); (case hg => rfl); (case hr => first | (go_simp; done) | (go_simp; rfl)); (case hp => exact (Reps.one (show Kd.M (Kd.int .i64) _ _ _ 0 [.int .i64 0] from rfl) (Reps.one (show Kd.M (Kd.int .i64) _ _ _ 20 [.int .i64 20] from rfl) (Reps.one (show Kd.M (Kd.int .i64) _ _ _ 21 [.int .i64 21] from rfl) (Reps.none _ _))))); intro v309 w11 ho12 hb hg_ hnew_; clear hg_ hnew_; (first | rw [← Ny308.out] at ho12 | (simp only [Int.reduceToNat] at ho12; rw [← Ny308.out] at ho12)); have HO310 := Aside0.mk (Kd.R_lower ho12 (below_size (hbI_ HB (IsS106.ge HI301.out)))); replace BK300 := kb_ BK300 hb; replace HB := Aside0.mk (below_step (hbI_ HB (IsS106.ge HI301.out)) hb); replace HI301 := IsS106.b HI301 hb; clear hb ho12; obtain ⟨Ao13, co13, eo13⟩ := Kd.R_slice HO310.out; subst eo13) | ((with_reducible refine gate_callee (f := 89) rfl ?_); refine gl_ (some 17) Try.func89 #[.pointer (some ⟨gb301, 0, none⟩), .slice Ao13 y308.length co13] rfl rfl rfl ?_; (with_reducible refine (spec_l1Cur_among.calls gb301 l0 t306 t307 _ _ y308 t311 t312 t313 w _ ?side1 ?side2 ?side3 ?side4 ?side5 A10.out).mono ?_); (case side1 => exact IsS106.q HI301); (case side2 => exact hbI_ HB (IsS106.ge HI301.out)); (case side3 => exact Kd.C_o HO310); (case side4 => exact (Kd.R_reads' HO310.out).2.1); (case side5 => exact far_slice (IsS106.own_ne HI301.out HO310.out (by decide))); rintro e w14 ⟨rfl, hi, hb, hk⟩; refine ⟨_, rfl, ?_⟩; have n0_ := Aside0.mk (KeepBut.blk hk (kp_ BK300) NB300_301.out (by simp)); have n1_ := IsS106.rk HI301 HO310 hk; have n2_ := Aside0.mk (hb); have n3_ := Aside0.mk (hi); clear BK300 HO310 HB HI301; have BK300 := n0_; have HO310 := n1_; have HB := n2_; have HI301 := n3_; clear n0_ n1_ n2_ n3_; (try clear hb); (try clear hb2); (try clear hk); (try clear hi)))
   go_meet
   case rel => exact ⟨_, (t311), (t312), (t313), (by first | rfl | (simp; done) | (simp [*]; done)), H', ⟨by first | omega | exact Nat.le_refl _⟩, ⟨by first | exact Kd.R_nil _ _ _ _ _ | exact Kd.N_nil _ _ _ _ _ | exact Kd.V_nil _ _ _ _ _ | exact Kd.Q_nil _ _ _ _ _ | exact Kd.S_nil _ _ _ _ _⟩, ⟨kp_ BK300⟩, ⟨IsS106.q HI301⟩, ⟨hbI_ HB (IsS106.ge HI301.out)⟩⟩
  ·replace c9 := Bool.eq_false_iff.mpr c9
   subst c9
   rw [if_neg (show ¬ (false = true) by decide)] at H
   have H' := Aside0.mk H
   clear H
   go_wp2
   go_meet
   case rel => exact ⟨_, (wrap64 (1 + t302)), (t306), (t307), (by first | rfl | (simp; done) | (simp [*]; done)), H', ⟨by first | omega | exact Nat.le_refl _⟩, ⟨by first | exact Kd.R_nil _ _ _ _ _ | exact Kd.N_nil _ _ _ _ _ | exact Kd.V_nil _ _ _ _ _ | exact Kd.Q_nil _ _ _ _ _ | exact Kd.S_nil _ _ _ _ _⟩, ⟨kp_ BK300⟩, ⟨IsS106.q HI301⟩, ⟨hbI_ HB (IsS106.ge HI301.out)⟩⟩
 case rest =>
  clear HC4
  (try clear p2); (try clear c3); (try clear p6); (try clear c8); (try clear c9)
  obtain ⟨kq, x6_3, x302001_3, x302002_3, rfl, HA, HJ3, HO_5, BK300, HI301, HB⟩ := hcut
  cases kq with
  | zero => exact absurd HA.out (by simp [spec_DrawSplitPiece.j0])
  | succ kj3 =>
   have H := HA.out
   clear HA
   simp only [spec_DrawSplitPiece.j0] at H
   have H' := Aside0.mk H
   clear H
   go_wp2
   go_loopg [5] kj3 (fun kq v5 w' => ∃ (x5_2 : List Int) (x302001_2 : Int) (x302002_2 : Int), Aside0 (spec_DrawSplitPiece.l0 kq x5_2 x6_3 l0 x302001_2 x302002_2 = some (r1, r2, r3, r4)) ∧ Aside0 (kq ≤ kj3) ∧ Aside0 (Kd.R (Kd.int .i64) 3 w' w.heap.size (fun _ => True) v5 x5_2) ∧ Aside0 (w'.heap[gb300]? = some (.cells #[.int .i64 0, .int .i64 0, .int .i64 0] 29 (0, 0))) ∧ Aside0 (IsS106 w w' gb301 l0 x302001_2 x302002_2) ∧ Aside0 (Below w.heap.size w w'))
   case atStart => exact ⟨(([] : List Int)), (x302001_3), (x302002_3), H', ⟨Nat.le_refl _⟩, ⟨Kd.R_p HO_5⟩, ⟨kp_ BK300⟩, ⟨IsS106.q HI301⟩, ⟨hbI_ HB (IsS106.ge HI301.out)⟩⟩
   case round =>
    clear H'
    (try clear p2); (try clear c3); (try clear p6); (try clear c8); (try clear c9)
    obtain ⟨x5_2, x302001_2, x302002_2, HA, HK2, HO_5, BK300, HI301, HB⟩ := hrel
    cases gk with
    | zero => exact absurd HA.out (by simp [spec_DrawSplitPiece.l0])
    | succ k2 =>
     have H := HA.out
     clear HA
     simp only [spec_DrawSplitPiece.l0] at H
     by_cases c15 : (x5_2.length : Int) < x6_3
     ·rw [if_pos c15] at H
      have c15b0 : decide ((x5_2.length : Int) < x6_3) = true := decide_eq_true c15
      clear c15
      obtain ⟨y314, hy314⟩ : ∃ y_ : List Int, y_ = (([0, 1, 1, 2, 3, 7, 100] : List Int)) := ⟨_, rfl⟩
      replace H : ((spec_l1Cur_among.f l0 x302001_2 x302002_2 y314).bind fun bt317 => (if x5_2.length < 17592186044416 then (spec_DrawSplitPiece.l0 k2 (x5_2 ++ [bt317.1]) x6_3 l0 bt317.2.1 bt317.2.2) else (none))) = some (r1, r2, r3, r4) := by first | (rw [hy314]; with_reducible exact H) | (have H2_ := (Option.bind_some _ _).symm.trans H; rw [hy314]; with_reducible exact H2_) | (have H2_ := (Option.bind_some _ _).symm.trans H; with_reducible exact H2_) | with_reducible exact H | (rw [hy314]; exact H) | exact H
      have Ny314 := Aside0.mk hy314
      clear hy314
      replace H := Option.bind_eq_some_iff.mp H
      obtain ⟨⟨t317, t318, t319⟩, A160, H⟩ := H
      try dsimp only at H
      have A16 := Aside0.mk A160
      clear A160
      by_cases c17 : x5_2.length < 17592186044416
      ·rw [if_pos c17] at H
       have LMc17 := Aside0.mk c17
       clear c17
       obtain ⟨y320, hy320⟩ : ∃ y_ : List Int, y_ = (x5_2 ++ [t317]) := ⟨_, rfl⟩
       replace H : (spec_DrawSplitPiece.l0 k2 y320 x6_3 l0 t318 t319) = some (r1, r2, r3, r4) := by first | (rw [hy320]; with_reducible exact H) | (have H2_ := (Option.bind_some _ _).symm.trans H; rw [hy320]; with_reducible exact H2_) | (have H2_ := (Option.bind_some _ _).symm.trans H; with_reducible exact H2_) | with_reducible exact H | (rw [hy320]; exact H) | exact H
       have Ny320 := Aside0.mk hy320
       clear hy320
       have H' := Aside0.mk H
       clear H
       obtain ⟨Ao18, co18, eo18⟩ := Kd.R_slice HO_5.out
       subst eo18
       go_wp2_with (first | ((with_reducible refine gate_dst (N := 24) rfl ?_); refine Kd.R_lit (Kd.int .i64) _ 3 ?hg (N := 24) ?hd (xs := ([0, 1, 1, 2, 3, 7, 100] : List Int)) (inner := [.int .i64 0, .int .i64 1, .int .i64 1, .int .i64 2, .int .i64 3, .int .i64 7, .int .i64 100]) (ok := fun _ => True) (okp := fun _ => True) ?hr ?hp (fun _ hk => hk) trivial (Below.refl _ _) (Nat.le_refl _) (by simp) ?_; (case hd => rfl); (case hg => rfl); (case hr => first | (go_simp; done) | (go_simp; rfl)); (case hp => exact (Reps.one (show Kd.M (Kd.int .i64) _ _ _ 0 [.int .i64 0] from rfl) (Reps.one (show Kd.M (Kd.int .i64) _ _ _ 1 [.int .i64 1] from rfl) (Reps.one (show Kd.M (Kd.int .i64) _ _ _ 1 [.int .i64 1] from rfl) (Reps.one (show Kd.M (Kd.int .i64) _ _ _ 2 [.int .i64 2] from rfl) (Reps.one (show Kd.M (Kd.int .i64) _ _ _ 3 [.int .i64 3] from rfl) (Reps.one (show Kd.M (Kd.int .i64) _ _ _ 7 [.int .i64 7] from rfl) (Reps.one (show Kd.M (Kd.int .i64) _ _ _ 100 [.int .i64 100] from rfl) (Reps.none _ _))))))))); intro v315 w19 ho20 hb hg_ hnew_; clear hg_ hnew_; (first | rw [← Ny314.out] at ho20 | (simp only [Int.reduceToNat] at ho20; rw [← Ny314.out] at ho20)); have HO316 := Aside0.mk (Kd.R_lower (Kd.R_nw ho20 HO_5) (below_size (hbI_ HB (IsS106.ge HI301.out)))); replace HO_5 := Kd.R_e HO_5 ho20 hb; replace BK300 := kb_ BK300 hb; replace HB := Aside0.mk (below_step (hbI_ HB (IsS106.ge HI301.out)) hb); replace HI301 := IsS106.b HI301 hb; clear hb ho20; obtain ⟨Ao21, co21, eo21⟩ := Kd.R_slice HO316.out; subst eo21) | ((with_reducible refine gate_callee (f := 89) rfl ?_); refine gl_ (some 25) Try.func89 #[.pointer (some ⟨gb301, 0, none⟩), .slice Ao21 y314.length co21] rfl rfl rfl ?_; (with_reducible refine (spec_l1Cur_among.calls gb301 l0 x302001_2 x302002_2 _ _ y314 t317 t318 t319 w _ ?side1 ?side2 ?side3 ?side4 ?side5 A16.out).mono ?_); (case side1 => exact IsS106.q HI301); (case side2 => exact hbI_ HB (IsS106.ge HI301.out)); (case side3 => exact Kd.C_o HO316); (case side4 => exact (Kd.R_reads' HO316.out).2.1); (case side5 => exact far_slice (IsS106.own_ne HI301.out HO316.out (by decide))); rintro e w22 ⟨rfl, hi, hb, hk⟩; refine ⟨_, rfl, ?_⟩; have n0_ := IsS106.rk HI301 HO_5 hk; have n1_ := Aside0.mk (KeepBut.blk hk (kp_ BK300) NB300_301.out (by simp)); have n2_ := IsS106.rk HI301 HO316 hk; have n3_ := Aside0.mk (hb); have n4_ := Aside0.mk (hi); clear HO_5 BK300 HO316 HB HI301; have HO_5 := n0_; have BK300 := n1_; have HO316 := n2_; have HB := n3_; have HI301 := n4_; clear n0_ n1_ n2_ n3_ n4_; (try clear hb); (try clear hb2); (try clear hk); (try clear hi); try clear HO316) | ((with_reducible refine gate_builtin (b := .append) (xs := #[.tmp 22, .tmp 26]) rfl ?_); at_builtin; refine Kd.R_append (Kd.int .i64) (w0 := w) w.heap.size rfl (.tmp 22) (.tmp 26) 24 3 (.int .i64 0) 8 rfl Try.underlying24 info3 rfl (by decide) (by omega) (.slice Ao18 x5_2.length co18) x5_2 t317 [.int .i64 t317] (fun _ => True) (fun _ => False) rfl rfl ?aP (fun _ hk => hk.elim) ?aF ?aO ?aB ?aS ?aL ?_; (case aP => exact rfl); (case aB => exact (hbI_ HB (IsS106.ge HI301.out))); (case aF => exact (fun _ _ => trivial)); (case aO => exact (Kd.R_pp (Kd.R_mono HO_5.out (fun _ hk => trivial)))); (case aS => exact (below_size (hbI_ HB (IsS106.ge HI301.out)))); (case aL => have := LMc17.out; omega); intro v321 w23 ho hb hg hat; rw [← Ny320.out] at ho; have HO322 := Aside0.mk (ho); replace BK300 := Aside0.mk (blk_grown (kp_ BK300) hg (Kd.R_ne HO_5.out BK300.out (by decide))); replace HI301 := Aside0.mk (IsS106.grown (IsS106.q HI301) hg (IsS106.own_ne HI301.out HO_5.out (by decide))); replace HB := Aside0.mk (hb); clear HO_5; clear ho hb hg hat))
       go_roundg k2
       case measure => have := HJ3.out; have := HK2.out; omega
       case rel => exact ⟨(y320), (t318), (t319), H', ⟨by have := HJ3.out; have := HK2.out; omega⟩, ⟨Kd.R_p HO322⟩, ⟨kp_ BK300⟩, ⟨IsS106.q HI301⟩, ⟨hbI_ HB (IsS106.ge HI301.out)⟩⟩
      ·rw [if_neg c17] at H
       exact absurd H (by simp)
     ·rw [if_neg c15] at H
      have c15b0 : decide ((x5_2.length : Int) < x6_3) = false := decide_eq_false c15
      clear c15
      have HC24 := Aside0.mk H
      clear H
      obtain ⟨Ao25, co25, eo25⟩ := Kd.R_slice HO_5.out
      subst eo25
      go_upto_region 8 with (fail)
      go_cut [34] (fun v34 wc => ∃ (kq : Nat) (x34_23 : Bool) (x302001_23 : Int) (x302002_23 : Int), v34 = .bool x34_23 ∧ Aside0 (spec_DrawSplitPiece.j2 kq x5_2 x34_23 l0 x302001_23 x302002_23 = some (r1, r2, r3, r4)) ∧ Aside0 (kq ≤ k2) ∧ Aside0 (Kd.R (Kd.int .i64) 3 wc w.heap.size (fun _ => True) (.slice Ao25 x5_2.length co25) x5_2) ∧ Aside0 (wc.heap[gb300]? = some (.cells #[.int .i64 0, .int .i64 0, .int .i64 0] 29 (0, 0))) ∧ Aside0 (IsS106 w wc gb301 l0 x302001_23 x302002_23) ∧ Aside0 (Below w.heap.size w wc))
      case first =>
       have H := HC24.out
       clear HC24
       by_cases c26 : (x5_2.length : Int) > 0
       ·rw [if_pos c26] at H
        have c26b0 : decide (0 < (x5_2.length : Int)) = true := decide_eq_true c26
        have c26b1 : decide (0 < x5_2.length) = true := decide_eq_true (by omega)
        clear c26
        (first | rw [c26b0] | (simp only [i64_w, i32_w]; rw [c26b0]) | skip)
        replace H := Option.bind_eq_some_iff.mp H
        obtain ⟨⟨t323, t324, t325⟩, A270, H⟩ := H
        try dsimp only at H
        have A27 := Aside0.mk A270
        clear A270
        have H' := Aside0.mk H
        clear H
        go_wp2_with (first | (go_at_call 88; (with_reducible refine (spec_l1Cur_one.calls gb301 l0 x302001_2 x302002_2 20 t323 t324 t325 w _ ?side1 ?side2 A27.out).mono ?_); (case side1 => exact IsS106.q HI301); (case side2 => exact hbI_ HB (IsS106.ge HI301.out)); rintro e w28 ⟨rfl, hi, hb, hk⟩; have n0_ := IsS106.rk HI301 HO_5 hk; have n1_ := Aside0.mk (KeepBut.blk hk (kp_ BK300) NB300_301.out (by simp)); have n2_ := Aside0.mk (hb); have n3_ := Aside0.mk (hi); clear HO_5; clear BK300; clear HB; clear HI301; have HO_5 := n0_; have BK300 := n1_; have HB := n2_; have HI301 := n3_; clear n0_ n1_ n2_ n3_; (try clear hb); (try clear hb2); (try clear hk); (try clear hi)))
        go_meet
        case rel => exact ⟨_, (t323), (t324), (t325), (by first | rfl | (simp; done) | (simp [*]; done)), H', ⟨by have := HJ3.out; have := HK2.out; first | omega | exact Nat.le_refl _⟩, ⟨Kd.R_p HO_5⟩, ⟨kp_ BK300⟩, ⟨IsS106.q HI301⟩, ⟨hbI_ HB (IsS106.ge HI301.out)⟩⟩
       ·rw [if_neg c26] at H
        have c26b0 : decide (0 < (x5_2.length : Int)) = false := decide_eq_false c26
        have c26b1 : decide (0 < x5_2.length) = false := decide_eq_false (by omega)
        clear c26
        (first | rw [c26b0] | (simp only [i64_w, i32_w]; rw [c26b0]) | skip)
        have H' := Aside0.mk H
        clear H
        go_wp2
        go_meet
        case rel => exact ⟨_, (false), (x302001_2), (x302002_2), (by first | rfl | (simp; done) | (simp [*]; done)), H', ⟨by have := HJ3.out; have := HK2.out; first | omega | exact Nat.le_refl _⟩, ⟨Kd.R_p HO_5⟩, ⟨kp_ BK300⟩, ⟨IsS106.q HI301⟩, ⟨hbI_ HB (IsS106.ge HI301.out)⟩⟩
      case rest =>
       clear HC24
       (try clear c1); (try clear c2); (try clear p2); (try clear c3); (try clear p6); (try clear c8); (try clear c9); (try clear c15); (try clear c15b0); (try clear c17); (try clear c26); (try clear c26b0); (try clear c26b1)
       obtain ⟨kq, x34_23, x302001_23, x302002_23, rfl, HA, HJ23, HO_5, BK300, HI301, HB⟩ := hcut
       cases kq with
       | zero => exact absurd HA.out (by simp [spec_DrawSplitPiece.j2])
       | succ kj23 =>
        have H := HA.out
        clear HA
        simp only [spec_DrawSplitPiece.j2] at H
        by_cases c29 : x34_23 = true
        ·subst c29
         rw [if_pos rfl] at H
         obtain ⟨y326, hy326⟩ : ∃ y_ : List Int, y_ = (([(-1), 101] : List Int)) := ⟨_, rfl⟩
         replace H : ((spec_l1Cur_among.f l0 x302001_23 x302002_23 y326).bind fun bt329 => (if 0 < (x5_2.length : Int) then ((spec_l1Cur_piece.f kj23 l0 bt329.2.1 bt329.2.2).bind fun bt333 => (some (bt333.1, bt333.2.1, bt333.2.2.1, (x5_2.set (0 : Int).toNat bt329.1)))) else (none))) = some (r1, r2, r3, r4) := by first | (rw [hy326]; with_reducible exact H) | (have H2_ := (Option.bind_some _ _).symm.trans H; rw [hy326]; with_reducible exact H2_) | (have H2_ := (Option.bind_some _ _).symm.trans H; with_reducible exact H2_) | with_reducible exact H | (rw [hy326]; exact H) | exact H
         have Ny326 := Aside0.mk hy326
         clear hy326
         replace H := Option.bind_eq_some_iff.mp H
         obtain ⟨⟨t329, t330, t331⟩, A300, H⟩ := H
         try dsimp only at H
         have A30 := Aside0.mk A300
         clear A300
         by_cases c31 : 0 < (x5_2.length : Int)
         ·rw [if_pos c31] at H
          have c31b0 : decide (0 < (x5_2.length : Int)) = true := decide_eq_true c31
          have c31b1 : decide (0 < x5_2.length) = true := decide_eq_true (by omega)
          clear c31
          obtain ⟨y332, hy332⟩ : ∃ y_ : List Int, y_ = (x5_2.set (0 : Int).toNat t329) := ⟨_, rfl⟩
          replace H : ((spec_l1Cur_piece.f kj23 l0 t330 t331).bind fun bt333 => (some (bt333.1, bt333.2.1, bt333.2.2.1, y332))) = some (r1, r2, r3, r4) := by first | (rw [hy332]; with_reducible exact H) | (have H2_ := (Option.bind_some _ _).symm.trans H; rw [hy332]; with_reducible exact H2_) | (have H2_ := (Option.bind_some _ _).symm.trans H; with_reducible exact H2_) | with_reducible exact H | (rw [hy332]; exact H) | exact H
          have Ny332 := Aside0.mk hy332
          clear hy332
          replace H := Option.bind_eq_some_iff.mp H
          obtain ⟨⟨t333, t334, t335, t336, t337⟩, A330, H⟩ := H
          try dsimp only at H
          have A33 := Aside0.mk A330
          clear A330
          simp only [Option.some.injEq, Prod.mk.injEq] at H
          obtain ⟨rfl, rfl, rfl, rfl⟩ := H
          go_wp2_with (first | ((with_reducible refine gate_dst (N := 37) rfl ?_); refine Kd.R_lit (Kd.int .i64) _ 3 ?hg (N := 37) ?hd (xs := ([(-1), 101] : List Int)) (inner := [.int .i64 (-1), .int .i64 101]) (ok := fun _ => True) (okp := fun _ => True) ?hr ?hp (fun _ hk => hk) trivial (Below.refl _ _) (Nat.le_refl _) (by simp) ?_; (case hd => rfl); (case hg => rfl); (case hr => first | (go_simp; done) | (go_simp; rfl)); (case hp => exact (Reps.one (show Kd.M (Kd.int .i64) _ _ _ (-1) [.int .i64 (-1)] from rfl) (Reps.one (show Kd.M (Kd.int .i64) _ _ _ 101 [.int .i64 101] from rfl) (Reps.none _ _)))); intro v327 w34 ho35 hb hg_ hnew_; clear hg_ hnew_; (first | rw [← Ny326.out] at ho35 | (simp only [Int.reduceToNat] at ho35; rw [← Ny326.out] at ho35)); have HO328 := Aside0.mk (Kd.R_lower (Kd.R_nw ho35 HO_5) (below_size (hbI_ HB (IsS106.ge HI301.out)))); replace HO_5 := Kd.R_e HO_5 ho35 hb; replace BK300 := kb_ BK300 hb; replace HB := Aside0.mk (below_step (hbI_ HB (IsS106.ge HI301.out)) hb); replace HI301 := IsS106.b HI301 hb; clear hb ho35; obtain ⟨Ao36, co36, eo36⟩ := Kd.R_slice HO328.out; subst eo36) | ((with_reducible refine gate_callee (f := 89) rfl ?_); refine gl_ (some 38) Try.func89 #[.pointer (some ⟨gb301, 0, none⟩), .slice Ao36 y326.length co36] rfl rfl rfl ?_; (with_reducible refine (spec_l1Cur_among.calls gb301 l0 x302001_23 x302002_23 _ _ y326 t329 t330 t331 w _ ?side1 ?side2 ?side3 ?side4 ?side5 A30.out).mono ?_); (case side1 => exact IsS106.q HI301); (case side2 => exact hbI_ HB (IsS106.ge HI301.out)); (case side3 => exact Kd.C_o HO328); (case side4 => exact (Kd.R_reads' HO328.out).2.1); (case side5 => exact far_slice (IsS106.own_ne HI301.out HO328.out (by decide))); rintro e w37 ⟨rfl, hi, hb, hk⟩; refine ⟨_, rfl, ?_⟩; have n0_ := IsS106.rk HI301 HO_5 hk; have n1_ := Aside0.mk (KeepBut.blk hk (kp_ BK300) NB300_301.out (by simp)); have n2_ := IsS106.rk HI301 HO328 hk; have n3_ := Aside0.mk (hb); have n4_ := Aside0.mk (hi); clear HO_5 BK300 HO328 HB HI301; have HO_5 := n0_; have BK300 := n1_; have HO328 := n2_; have HB := n3_; have HI301 := n4_; clear n0_ n1_ n2_ n3_ n4_; (try clear hb); (try clear hb2); (try clear hk); (try clear hi); have p32 : 0 ≤ (0 : Int) := (by omega); have q32 : (0 : Int) < ((x5_2.length : Int) : Int) := of_decide_eq_true (by first | (with_reducible assumption) | assumption); have qi32 : (0 < x5_2.length) = True := eq_true (by omega); obtain ⟨go32, co32, eo32, gb32, gl32, cl32, HG32⟩ := Kd.R_form HO_5.out (by omega); (first | cases eo32 | (injection eo32 with ea_ en_ ec_; (first | subst ea_ | (injection ea_ with ea_; subst ea_)); subst ec_; clear en_)); have GB32 := Aside0.mk gb32; have GG32 := Aside0.mk HG32; clear gb32 gl32 HG32; obtain ⟨hx32_0, hf32_0⟩ := Kd.R_celln 0 HO_5.out (0 : Int) p32 q32; (try rw [show ((0 : Int)).toNat = 0 from rfl] at hx32_0); (try simp only [Nat.reduceMul, Nat.zero_mul, Nat.zero_add, Nat.reduceAdd] at hx32_0); (try rw [show ((0 : Int)).toNat = 0 from rfl] at hf32_0); (try simp only [Nat.reduceMul, Nat.zero_mul, Nat.zero_add, Nat.reduceAdd] at hf32_0); replace p32 := eq_true p32; replace q32 := eq_true q32; try clear HO328; have n_ := Aside0.mk (Kd.R_mono (ok' := (fun _ => True)) HO_5.out (fun k_ hk => trivial)); clear HO_5; have HO_5 := n_; clear n_; obtain ⟨hy38_, hz38_⟩ := Kd.R_celln 0 HO_5.out (0 : Int) (by omega) (of_decide_eq_true (by first | (with_reducible assumption) | assumption)); (try simp only [Int.reduceToNat, Int.toNat_zero, Int.toNat_ofNat, Nat.reduceMul, Nat.zero_mul, Nat.zero_add] at hy38_ hz38_); (try rw [show ((0 : Int)).toNat = 0 from rfl] at hy38_); (try rw [show ((0 : Int)).toNat = 0 from rfl] at hz38_); have HP38 := Kd.R_putg HO_5.out (0 : Int) t329) | ((with_reducible refine gate_store (t := 3) (p := 39) rfl ?_); refine store_event (t := 3) (p := 39) (v := ?vo_w39) (w1 := (w37.setCell ⟨go32, (0 : Int).toNat, none⟩ (.int .i64 t329))) ?hg ?ho ?hn ?hr ?_; (case ho => rfl); (case hg => rfl); (case hn => rfl); (case hr => first | (go_simp; done) | (go_simp; rfl)); intro w39 hw; have hg : w37.grownBy w39 (some go32) := (by rw [hw]; exact HP38.2); have hp_ : Kd.R (Kd.int .i64) 3 w39 w.heap.size (fun _ => True) (.slice (some ⟨go32, 0, none⟩) x5_2.length co25) y332 := (by rw [hw, Ny332.out]; exact HP38.1); clear HP38; replace BK300 := Aside0.mk (blk_grown (kp_ BK300) hg (Kd.R_ne HO_5.out BK300.out (by decide))); replace HI301 := Aside0.mk (IsS106.grown (IsS106.q HI301) hg (IsS106.own_ne HI301.out HO_5.out (by decide))); replace HB := Aside0.mk ((by rw [hw]; exact below_set (HB.out) GB32.out : Below w.heap.size w w39)); replace HO_5 := Aside0.mk (hp_); clear hg hw hp_) | ((with_reducible refine gate_callee (f := 90) rfl ?_); refine gl_ (some 41) Try.func90 #[.pointer (some ⟨gb301, 0, none⟩)] rfl rfl rfl ?_; (with_reducible refine (spec_l1Cur_piece.calls kj23 gb301 l0 t330 t331 t333 t334 t335 t336 t337 w _ ?side1 ?side2 A33.out).mono ?_); (case side1 => exact IsS106.q HI301); (case side2 => exact hbI_ HB (IsS106.ge HI301.out)); rintro e w40 ⟨rfl, hi, hb, hk⟩; refine ⟨_, rfl, ?_⟩; have n0_ := IsS106.rk HI301 HO_5 hk; have n1_ := Aside0.mk (KeepBut.blk hk (kp_ BK300) NB300_301.out (by simp)); have n2_ := Aside0.mk (hb); have n3_ := Aside0.mk (hi); clear HO_5 BK300 HB HI301; have HO_5 := n0_; have BK300 := n1_; have HB := n2_; have HI301 := n3_; clear n0_ n1_ n2_ n3_; (try clear hb); (try clear hb2); (try clear hk); (try clear hi); have hnb41 := NB300_301.out; have hnc41 := NB301_300.out; obtain ⟨hcz42_0, hcz42_1, hcz42_2, hfz42_0, hfz42_1, hfz42_2⟩ := bx3 BK300))
          refine bodyPost_ret (results_ct rfl _ _ gb300 29 #[.int .i64 t333, .int .i64 t334, .int .i64 t335] (0, 0) _ rfl (kpq_ (kputs BK300 [(0, _), (1, _), (2, _)])) Try.underlying29 rfl (by kernel_rfl)) rfl ?_
          exact ⟨_, by first | rfl | (simp [errW_none, errW_some] <;> rfl) | (simp [*, errW_none, errW_some] <;> rfl), Kd.R_mono (Kd.R_s HO_5 BK300) (fun _ hk => trivial), hbI_ HB (IsS106.ge HI301.out)⟩
         ·rw [if_neg c31] at H
          exact absurd H (by simp)
        ·replace c29 := Bool.eq_false_iff.mpr c29
         subst c29
         rw [if_neg (show ¬ (false = true) by decide)] at H
         replace H := Option.bind_eq_some_iff.mp H
         obtain ⟨⟨t338, t339, t340, t341, t342⟩, A430, H⟩ := H
         try dsimp only at H
         have A43 := Aside0.mk A430
         clear A430
         simp only [Option.some.injEq, Prod.mk.injEq] at H
         obtain ⟨rfl, rfl, rfl, rfl⟩ := H
         go_wp2_with (first | ((with_reducible refine gate_callee (f := 90) rfl ?_); refine gl_ (some 41) Try.func90 #[.pointer (some ⟨gb301, 0, none⟩)] rfl rfl rfl ?_; (with_reducible refine (spec_l1Cur_piece.calls kj23 gb301 l0 x302001_23 x302002_23 t338 t339 t340 t341 t342 w _ ?side1 ?side2 A43.out).mono ?_); (case side1 => exact IsS106.q HI301); (case side2 => exact hbI_ HB (IsS106.ge HI301.out)); rintro e w44 ⟨rfl, hi, hb, hk⟩; refine ⟨_, rfl, ?_⟩; have n0_ := IsS106.rk HI301 HO_5 hk; have n1_ := Aside0.mk (KeepBut.blk hk (kp_ BK300) NB300_301.out (by simp)); have n2_ := Aside0.mk (hb); have n3_ := Aside0.mk (hi); clear HO_5 BK300 HB HI301; have HO_5 := n0_; have BK300 := n1_; have HB := n2_; have HI301 := n3_; clear n0_ n1_ n2_ n3_; (try clear hb); (try clear hb2); (try clear hk); (try clear hi); have hnb45 := NB300_301.out; have hnc45 := NB301_300.out; obtain ⟨hcz46_0, hcz46_1, hcz46_2, hfz46_0, hfz46_1, hfz46_2⟩ := bx3 BK300))
         refine bodyPost_ret (results_ct rfl _ _ gb300 29 #[.int .i64 t338, .int .i64 t339, .int .i64 t340] (0, 0) _ rfl (kpq_ (kputs BK300 [(0, _), (1, _), (2, _)])) Try.underlying29 rfl (by kernel_rfl)) rfl ?_
         exact ⟨_, by first | rfl | (simp [errW_none, errW_some] <;> rfl) | (simp [*, errW_none, errW_some] <;> rfl), Kd.R_mono (Kd.R_s HO_5 BK300) (fun _ hk => trivial), hbI_ HB (IsS106.ge HI301.out)⟩

/-! ### spec_DrawIsPiece: function 91 -/
def spec_DrawIsPiece.f (k : Nat) (l0 : List Int) : Option (Int × Int × Int) := (spec_l1Cur_piece.f k l0 0 0).bind fun bt345 => (some (bt345.1, bt345.2.1, bt345.2.2.1))
set_option maxHeartbeats 8000000 in
set_option maxRecDepth 100000 in
theorem spec_DrawIsPiece.calls (k : Nat) (A0 : Option Addr) (c0 : Nat) (l0 : List Int) (r1 : Int) (r2 : Int) (r3 : Int) (w : World) (hr0 : Kd.C (Kd.int .u8) w A0 l0.length l0) (hc0 : l0.length ≤ c0) (h : spec_DrawIsPiece.f k l0 = some (r1, r2, r3)) :
  Calls Try.prog 91 #[.slice A0 l0.length c0] w fun e w' => e = .returned (.agg #[.int .i64 r1, .int .i64 r2, .int .i64 r3]) ∧ Below w.heap.size w w' := by
 have hu29 := Try.underlying29
 have hu106 := Try.underlying106
 have HR0 := Aside0.mk hr0
 have HC0 := Aside0.mk hc0
 clear hr0 hc0
 have HB := Aside0.mk (Below.refl w.heap.size w)
 have H : ((spec_l1Cur_piece.f k l0 0 0).bind fun bt345 => (some (bt345.1, bt345.2.1, bt345.2.2.1))) = some (r1, r2, r3) := h
 clear h
 replace H := Option.bind_eq_some_iff.mp H
 obtain ⟨⟨t345, t346, t347, t348, t349⟩, A20, H⟩ := H
 try dsimp only at H
 have A2 := Aside0.mk A20
 clear A20
 simp only [Option.some.injEq, Prod.mk.injEq] at H
 obtain ⟨rfl, rfl, rfl⟩ := H
 go_enter Try.func91, Try.ntmps91
 go_wp2_with (first | ((with_reducible refine gate_dst (N := 2) rfl ?_); refine box_event ?hg (N := 2) ?hd (cs := #[.int .i64 0, .int .i64 0, .int .i64 0]) (t := 29) ?hr ?_; (case hd => rfl); (case hg => rfl); (case hr => first | (go_simp; done) | (go_simp; rfl)); intro gb343 hg w3 hbox hb; have BK343 := Aside0.mk (hbox); have GW343 := gs_ hg HB; have GE343 := gs_ hg HB; replace HB := hbs_ HB hb; clear hb hbox hg) | ((with_reducible refine gate_dst (N := 6) rfl ?_); refine box_event ?hg (N := 6) ?hd (cs := #[.slice A0 l0.length c0, .int .i64 0, .int .u64 0]) (t := 106) ?hr ?_; (case hd => rfl); (case hg => rfl); (case hr => first | (go_simp; done) | (go_simp; rfl)); intro gb344 hg w4 hbox hb; have HI344 := Aside0.mk ((show IsS106 w w4 gb344 l0 0 0 from ⟨A0, c0, hbox, (by rw [hg]; exact (below_size (hb_ HB))), HR0.out⟩)); have GW344 := gs_ hg HB; have GE344 := gs_ hg HB; have NB343_344 := nl_ hg BK343; have NB344_343 := ng_ hg BK343; replace BK343 := kb_ BK343 hb; replace HB := hbs_ HB hb; clear hb hbox hg) | ((with_reducible refine gate_callee (f := 90) rfl ?_); refine gl_ (some 8) Try.func90 #[.pointer (some ⟨gb344, 0, none⟩)] rfl rfl rfl ?_; (with_reducible refine (spec_l1Cur_piece.calls k gb344 l0 0 0 t345 t346 t347 t348 t349 w _ ?side1 ?side2 A2.out).mono ?_); (case side1 => exact IsS106.q HI344); (case side2 => exact hbI_ HB (IsS106.ge HI344.out)); rintro e w5 ⟨rfl, hi, hb, hk⟩; refine ⟨_, rfl, ?_⟩; replace BK343 := kk_ BK343 hk NB343_344; replace HB := Aside0.mk (hb); replace HI344 := Aside0.mk (hi); (try clear hb); (try clear hb2); (try clear hk); (try clear hi); have hnb6 := NB343_344.out; have hnc6 := NB344_343.out; obtain ⟨hcz7_0, hcz7_1, hcz7_2, hfz7_0, hfz7_1, hfz7_2⟩ := bx3 BK343))
 refine bodyPost_ret (results_cell_row rfl _ _ gb343 29 #[.int .i64 t345, .int .i64 t346, .int .i64 t347] (0, 0) _ rfl (kpq_ (kputs BK343 [(0, _), (1, _), (2, _)])) Try.underlying29 rfl (by kernel_rfl)) rfl ?_
 exact ⟨by first | rfl | (simp [errW_none, errW_some] <;> rfl) | (simp [*, errW_none, errW_some] <;> rfl), hbI_ HB (IsS106.ge HI344.out)⟩

/-! ### spec_DrawRoundedGrade: function 40 -/
def spec_DrawRoundedGrade.f (k : Nat) (l0 : List Int) : Option (Int × Int × Int) := (spec_DrawIsPiece.f k l0).bind fun bt351 => (some (bt351.1, bt351.2.1, bt351.2.2))
set_option maxHeartbeats 8000000 in
set_option maxRecDepth 100000 in
theorem spec_DrawRoundedGrade.calls (k : Nat) (A0 : Option Addr) (c0 : Nat) (l0 : List Int) (r1 : Int) (r2 : Int) (r3 : Int) (w : World) (hr0 : Kd.C (Kd.int .u8) w A0 l0.length l0) (hc0 : l0.length ≤ c0) (h : spec_DrawRoundedGrade.f k l0 = some (r1, r2, r3)) :
  Calls Try.prog 40 #[.slice A0 l0.length c0] w fun e w' => e = .returned (.agg #[.int .i64 r1, .int .i64 r2, .int .i64 r3]) ∧ Below w.heap.size w w' := by
 have hu29 := Try.underlying29
 have HR0 := Aside0.mk hr0
 have HC0 := Aside0.mk hc0
 clear hr0 hc0
 have HB := Aside0.mk (Below.refl w.heap.size w)
 have H : ((spec_DrawIsPiece.f k l0).bind fun bt351 => (some (bt351.1, bt351.2.1, bt351.2.2))) = some (r1, r2, r3) := h
 clear h
 replace H := Option.bind_eq_some_iff.mp H
 obtain ⟨⟨t351, t352, t353⟩, A20, H⟩ := H
 try dsimp only at H
 have A2 := Aside0.mk A20
 clear A20
 simp only [Option.some.injEq, Prod.mk.injEq] at H
 obtain ⟨rfl, rfl, rfl⟩ := H
 go_enter Try.func40, Try.ntmps40
 go_wp2_with (first | ((with_reducible refine gate_dst (N := 2) rfl ?_); refine box_event ?hg (N := 2) ?hd (cs := #[.int .i64 0, .int .i64 0, .int .i64 0]) (t := 29) ?hr ?_; (case hd => rfl); (case hg => rfl); (case hr => first | (go_simp; done) | (go_simp; rfl)); intro gb350 hg w3 hbox hb; have BK350 := Aside0.mk (hbox); have GW350 := gs_ hg HB; have GE350 := gs_ hg HB; replace HB := hbs_ HB hb; clear hb hbox hg) | ((with_reducible refine gate_callee (f := 91) rfl ?_); refine gl_ (some 4) Try.func91 #[.slice A0 l0.length c0] rfl rfl rfl ?_; (with_reducible refine (spec_DrawIsPiece.calls k _ _ l0 t351 t352 t353 _ ?side1 ?side2 A2.out).mono ?_); (case side1 => exact Kd.C_w HR0 HB); (case side2 => exact HC0.out); rintro e w4 ⟨rfl, hb⟩; refine ⟨_, rfl, ?_⟩; replace BK350 := kb_ BK350 hb; replace HB := hbs_ HB hb; (try clear hb); (try clear hb2); (try clear hk); (try clear hi); obtain ⟨hcz5_0, hcz5_1, hcz5_2, hfz5_0, hfz5_1, hfz5_2⟩ := bx3 BK350))
 refine bodyPost_ret (results_cell_row rfl _ _ gb350 29 #[.int .i64 t351, .int .i64 t352, .int .i64 t353] (0, 0) _ rfl (kpq_ (kputs BK350 [(0, _), (1, _), (2, _)])) Try.underlying29 rfl (by kernel_rfl)) rfl ?_
 exact ⟨by first | rfl | (simp [errW_none, errW_some] <;> rfl) | (simp [*, errW_none, errW_some] <;> rfl), hb_ HB⟩

/-! ### impl_roundedGrade: function 84 -/
def impl_roundedGrade.f (a0_0 : Int) (a0_1 : Int) (a0_2 : Int) : Option (Int) := if a0_0 = 0 then (some 0) else (if (wrap64 (2 * a0_0)) = 0 then (none) else (some (wrap64 (Int.tdiv (wrap64 ((wrap64 ((wrap64 (2 * a0_1)) + a0_0)) - 1)) (wrap64 (2 * a0_0))))))
set_option maxHeartbeats 8000000 in
set_option maxRecDepth 100000 in
theorem impl_roundedGrade.calls (a0_0 : Int) (a0_1 : Int) (a0_2 : Int) (r : Int) (w : World) (h : impl_roundedGrade.f a0_0 a0_1 a0_2 = some r) :
  Calls Try.prog 84 #[.agg #[.int .i64 a0_0, .int .i64 a0_1, .int .i64 a0_2]] w fun e w' => e = .returned (.int .i64 r) ∧ Below w.heap.size w w' := by
 have hu29 := Try.underlying29
 have HB := Aside0.mk (Below.refl w.heap.size w)
 have H : (if a0_0 = 0 then (some 0) else (if (wrap64 (2 * a0_0)) = 0 then (none) else (some (wrap64 (Int.tdiv (wrap64 ((wrap64 ((wrap64 (2 * a0_1)) + a0_0)) - 1)) (wrap64 (2 * a0_0))))))) = some r := h
 clear h
 by_cases c2 : a0_0 = 0
 ·rw [if_pos c2] at H
  have c2b0 : (a0_0 == 0) = true := beq_iff_eq.mpr c2
  have c2b1 : (a0_0 != 0) = false := bne_eq_false_iff_eq.mpr c2
  clear c2
  obtain rfl := Option.some.inj H
  go_enter Try.func84, Try.ntmps84
  go_wp2_with (first | ((with_reducible refine gate_dst (N := 1) rfl ?_); refine box_event ?hg (N := 1) ?hd (cs := #[.int .i64 a0_0, .int .i64 a0_1, .int .i64 a0_2]) (t := 29) ?hr ?_; (case hd => rfl); (case hg => rfl); (case hr => first | (go_simp; done) | (go_simp; rfl)); intro gb354 hg w3 hbox hb; have BK354 := Aside0.mk (hbox); have GW354 := gs_ hg HB; have GE354 := gs_ hg HB; replace HB := hbs_ HB hb; clear hb hbox hg; obtain ⟨hcz4_0, hcz4_1, hcz4_2, hfz4_0, hfz4_1, hfz4_2⟩ := bx3 BK354))
  go_ret
  exact ⟨by first | rfl | (simp [errW_none, errW_some] <;> rfl) | (simp [*, errW_none, errW_some] <;> rfl), hb_ HB⟩
 ·rw [if_neg c2] at H
  have c2b0 : (a0_0 == 0) = false := beq_eq_false_iff_ne.mpr c2
  have c2b1 : (a0_0 != 0) = true := bne_iff_ne.mpr c2
  by_cases c5 : (wrap64 (2 * a0_0)) = 0
  ·rw [if_pos c5] at H
   exact absurd H (by simp)
  ·rw [if_neg c5] at H
   have c5b0 : ((wrap64 (2 * a0_0)) == 0) = false := beq_eq_false_iff_ne.mpr c5
   have c5b1 : ((wrap64 (2 * a0_0)) != 0) = true := bne_iff_ne.mpr c5
   obtain rfl := Option.some.inj H
   go_enter Try.func84, Try.ntmps84
   go_wp2_with (first | ((with_reducible refine gate_dst (N := 1) rfl ?_); refine box_event ?hg (N := 1) ?hd (cs := #[.int .i64 a0_0, .int .i64 a0_1, .int .i64 a0_2]) (t := 29) ?hr ?_; (case hd => rfl); (case hg => rfl); (case hr => first | (go_simp; done) | (go_simp; rfl)); intro gb354 hg w6 hbox hb; have BK354 := Aside0.mk (hbox); have GW354 := gs_ hg HB; have GE354 := gs_ hg HB; replace HB := hbs_ HB hb; clear hb hbox hg; obtain ⟨hcz7_0, hcz7_1, hcz7_2, hfz7_0, hfz7_1, hfz7_2⟩ := bx3 BK354))
   go_ret
   exact ⟨by first | rfl | (simp [errW_none, errW_some] <;> rfl) | (simp [*, errW_none, errW_some] <;> rfl), hb_ HB⟩

/-! ### impl_RoundedGrade: function 41 -/
def impl_RoundedGrade.f (a0_0 : Int) (a0_1 : Int) (a0_2 : Int) : Option (Int × Bool) := (impl_IsPiece.f a0_0 a0_1 a0_2).bind fun t356 => (if t356 = true then ((impl_roundedGrade.f a0_0 a0_1 a0_2).bind fun t357 => (some (t357, true))) else (some (0, false)))
set_option maxHeartbeats 8000000 in
set_option maxRecDepth 100000 in
theorem impl_RoundedGrade.calls (a0_0 : Int) (a0_1 : Int) (a0_2 : Int) (r1 : Int) (r2 : Bool) (w : World) (h : impl_RoundedGrade.f a0_0 a0_1 a0_2 = some (r1, r2)) :
  Calls Try.prog 41 #[.agg #[.int .i64 a0_0, .int .i64 a0_1, .int .i64 a0_2]] w fun e w' => e = .returned (.tuple #[.int .i64 r1, .bool r2]) ∧ Below w.heap.size w w' := by
 have hu29 := Try.underlying29
 have HB := Aside0.mk (Below.refl w.heap.size w)
 have H : ((impl_IsPiece.f a0_0 a0_1 a0_2).bind fun t356 => (if t356 = true then ((impl_roundedGrade.f a0_0 a0_1 a0_2).bind fun t357 => (some (t357, true))) else (some (0, false)))) = some (r1, r2) := h
 clear h
 replace H := Option.bind_eq_some_iff.mp H
 obtain ⟨t356, A20, H⟩ := H
 try dsimp only at H
 have A2 := Aside0.mk A20
 clear A20
 by_cases c3 : t356 = true
 ·subst c3
  rw [if_pos rfl] at H
  replace H := Option.bind_eq_some_iff.mp H
  obtain ⟨t357, A40, H⟩ := H
  try dsimp only at H
  have A4 := Aside0.mk A40
  clear A40
  simp only [Option.some.injEq, Prod.mk.injEq] at H
  obtain ⟨rfl, rfl⟩ := H
  go_enter Try.func41, Try.ntmps41
  go_wp2_with (first | ((with_reducible refine gate_dst (N := 1) rfl ?_); refine box_event ?hg (N := 1) ?hd (cs := #[.int .i64 a0_0, .int .i64 a0_1, .int .i64 a0_2]) (t := 29) ?hr ?_; (case hd => rfl); (case hg => rfl); (case hr => first | (go_simp; done) | (go_simp; rfl)); intro gb355 hg w5 hbox hb; have BK355 := Aside0.mk (hbox); have GW355 := gs_ hg HB; have GE355 := gs_ hg HB; replace HB := hbs_ HB hb; clear hb hbox hg; obtain ⟨hcz6_0, hcz6_1, hcz6_2, hfz6_0, hfz6_1, hfz6_2⟩ := bx3 BK355) | ((with_reducible refine gate_callee (f := 47) rfl ?_); refine gl_ (some 5) Try.func47 #[.agg #[.int .i64 a0_0, .int .i64 a0_1, .int .i64 a0_2]] rfl rfl rfl ?_; (with_reducible refine (impl_IsPiece.calls a0_0 a0_1 a0_2 true _ A2.out).mono ?_); rintro e w7 ⟨rfl, hb⟩; refine ⟨_, rfl, ?_⟩; replace BK355 := kb_ BK355 hb; replace HB := hbs_ HB hb; (try clear hb); (try clear hb2); (try clear hk); (try clear hi); obtain ⟨hcz8_0, hcz8_1, hcz8_2, hfz8_0, hfz8_1, hfz8_2⟩ := bx3 BK355) | ((with_reducible refine gate_callee (f := 84) rfl ?_); refine gl_ (some 8) Try.func84 #[.agg #[.int .i64 a0_0, .int .i64 a0_1, .int .i64 a0_2]] rfl rfl rfl ?_; (with_reducible refine (impl_roundedGrade.calls a0_0 a0_1 a0_2 t357 _ A4.out).mono ?_); rintro e w9 ⟨rfl, hb⟩; refine ⟨_, rfl, ?_⟩; replace BK355 := kb_ BK355 hb; replace HB := hbs_ HB hb; (try clear hb); (try clear hb2); (try clear hk); (try clear hi)))
  go_ret2
  exact ⟨by first | rfl | (simp [errW_none, errW_some] <;> rfl) | (simp [*, errW_none, errW_some] <;> rfl), hb_ HB⟩
 ·replace c3 := Bool.eq_false_iff.mpr c3
  subst c3
  rw [if_neg (show ¬ (false = true) by decide)] at H
  simp only [Option.some.injEq, Prod.mk.injEq] at H
  obtain ⟨rfl, rfl⟩ := H
  go_enter Try.func41, Try.ntmps41
  go_wp2_with (first | ((with_reducible refine gate_dst (N := 1) rfl ?_); refine box_event ?hg (N := 1) ?hd (cs := #[.int .i64 a0_0, .int .i64 a0_1, .int .i64 a0_2]) (t := 29) ?hr ?_; (case hd => rfl); (case hg => rfl); (case hr => first | (go_simp; done) | (go_simp; rfl)); intro gb355 hg w10 hbox hb; have BK355 := Aside0.mk (hbox); have GW355 := gs_ hg HB; have GE355 := gs_ hg HB; replace HB := hbs_ HB hb; clear hb hbox hg; obtain ⟨hcz11_0, hcz11_1, hcz11_2, hfz11_0, hfz11_1, hfz11_2⟩ := bx3 BK355) | ((with_reducible refine gate_callee (f := 47) rfl ?_); refine gl_ (some 5) Try.func47 #[.agg #[.int .i64 a0_0, .int .i64 a0_1, .int .i64 a0_2]] rfl rfl rfl ?_; (with_reducible refine (impl_IsPiece.calls a0_0 a0_1 a0_2 false _ A2.out).mono ?_); rintro e w12 ⟨rfl, hb⟩; refine ⟨_, rfl, ?_⟩; replace BK355 := kb_ BK355 hb; replace HB := hbs_ HB hb; (try clear hb); (try clear hb2); (try clear hk); (try clear hi)))
  go_ret2
  exact ⟨by first | rfl | (simp [errW_none, errW_some] <;> rfl) | (simp [*, errW_none, errW_some] <;> rfl), hb_ HB⟩

/-! ### spec_sbRound: function 81 -/
def spec_sbRound.f (a0_0 : Int) (a0_1 : Int) (a0_2 : Int) : Option (Int) := if a0_0 = 0 then (some 0) else (if (wrap64 (2 * a0_0)) = 0 then (none) else (some (wrap64 (Int.tdiv (wrap64 ((wrap64 ((wrap64 (2 * a0_1)) + a0_0)) - 1)) (wrap64 (2 * a0_0))))))
set_option maxHeartbeats 8000000 in
set_option maxRecDepth 100000 in
theorem spec_sbRound.calls (a0_0 : Int) (a0_1 : Int) (a0_2 : Int) (r : Int) (w : World) (h : spec_sbRound.f a0_0 a0_1 a0_2 = some r) :
  Calls Try.prog 81 #[.agg #[.int .i64 a0_0, .int .i64 a0_1, .int .i64 a0_2]] w fun e w' => e = .returned (.int .i64 r) ∧ Below w.heap.size w w' := by
 have hu29 := Try.underlying29
 have HB := Aside0.mk (Below.refl w.heap.size w)
 have H : (if a0_0 = 0 then (some 0) else (if (wrap64 (2 * a0_0)) = 0 then (none) else (some (wrap64 (Int.tdiv (wrap64 ((wrap64 ((wrap64 (2 * a0_1)) + a0_0)) - 1)) (wrap64 (2 * a0_0))))))) = some r := h
 clear h
 by_cases c2 : a0_0 = 0
 ·rw [if_pos c2] at H
  have c2b0 : (a0_0 == 0) = true := beq_iff_eq.mpr c2
  have c2b1 : (a0_0 != 0) = false := bne_eq_false_iff_eq.mpr c2
  clear c2
  obtain rfl := Option.some.inj H
  go_enter Try.func81, Try.ntmps81
  go_wp2_with (first | ((with_reducible refine gate_dst (N := 1) rfl ?_); refine box_event ?hg (N := 1) ?hd (cs := #[.int .i64 a0_0, .int .i64 a0_1, .int .i64 a0_2]) (t := 29) ?hr ?_; (case hd => rfl); (case hg => rfl); (case hr => first | (go_simp; done) | (go_simp; rfl)); intro gb358 hg w3 hbox hb; have BK358 := Aside0.mk (hbox); have GW358 := gs_ hg HB; have GE358 := gs_ hg HB; replace HB := hbs_ HB hb; clear hb hbox hg; obtain ⟨hcz4_0, hcz4_1, hcz4_2, hfz4_0, hfz4_1, hfz4_2⟩ := bx3 BK358))
  go_ret
  exact ⟨by first | rfl | (simp [errW_none, errW_some] <;> rfl) | (simp [*, errW_none, errW_some] <;> rfl), hb_ HB⟩
 ·rw [if_neg c2] at H
  have c2b0 : (a0_0 == 0) = false := beq_eq_false_iff_ne.mpr c2
  have c2b1 : (a0_0 != 0) = true := bne_iff_ne.mpr c2
  by_cases c5 : (wrap64 (2 * a0_0)) = 0
  ·rw [if_pos c5] at H
   exact absurd H (by simp)
  ·rw [if_neg c5] at H
   have c5b0 : ((wrap64 (2 * a0_0)) == 0) = false := beq_eq_false_iff_ne.mpr c5
   have c5b1 : ((wrap64 (2 * a0_0)) != 0) = true := bne_iff_ne.mpr c5
   obtain rfl := Option.some.inj H
   go_enter Try.func81, Try.ntmps81
   go_wp2_with (first | ((with_reducible refine gate_dst (N := 1) rfl ?_); refine box_event ?hg (N := 1) ?hd (cs := #[.int .i64 a0_0, .int .i64 a0_1, .int .i64 a0_2]) (t := 29) ?hr ?_; (case hd => rfl); (case hg => rfl); (case hr => first | (go_simp; done) | (go_simp; rfl)); intro gb358 hg w6 hbox hb; have BK358 := Aside0.mk (hbox); have GW358 := gs_ hg HB; have GE358 := gs_ hg HB; replace HB := hbs_ HB hb; clear hb hbox hg; obtain ⟨hcz7_0, hcz7_1, hcz7_2, hfz7_0, hfz7_1, hfz7_2⟩ := bx3 BK358))
   go_ret
   exact ⟨by first | rfl | (simp [errW_none, errW_some] <;> rfl) | (simp [*, errW_none, errW_some] <;> rfl), hb_ HB⟩

/-! ### spec_RoundedGrade: function 42 -/
def spec_RoundedGrade.f (a0_0 : Int) (a0_1 : Int) (a0_2 : Int) : Option (Int × Bool) := (spec_sbPiece.f a0_0 a0_1 a0_2).bind fun t360 => (if t360 = true then ((spec_sbRound.f a0_0 a0_1 a0_2).bind fun t361 => (some (t361, true))) else (some (0, false)))
set_option maxHeartbeats 8000000 in
set_option maxRecDepth 100000 in
theorem spec_RoundedGrade.calls (a0_0 : Int) (a0_1 : Int) (a0_2 : Int) (r1 : Int) (r2 : Bool) (w : World) (h : spec_RoundedGrade.f a0_0 a0_1 a0_2 = some (r1, r2)) :
  Calls Try.prog 42 #[.agg #[.int .i64 a0_0, .int .i64 a0_1, .int .i64 a0_2]] w fun e w' => e = .returned (.tuple #[.int .i64 r1, .bool r2]) ∧ Below w.heap.size w w' := by
 have hu29 := Try.underlying29
 have HB := Aside0.mk (Below.refl w.heap.size w)
 have H : ((spec_sbPiece.f a0_0 a0_1 a0_2).bind fun t360 => (if t360 = true then ((spec_sbRound.f a0_0 a0_1 a0_2).bind fun t361 => (some (t361, true))) else (some (0, false)))) = some (r1, r2) := h
 clear h
 replace H := Option.bind_eq_some_iff.mp H
 obtain ⟨t360, A20, H⟩ := H
 try dsimp only at H
 have A2 := Aside0.mk A20
 clear A20
 by_cases c3 : t360 = true
 ·subst c3
  rw [if_pos rfl] at H
  replace H := Option.bind_eq_some_iff.mp H
  obtain ⟨t361, A40, H⟩ := H
  try dsimp only at H
  have A4 := Aside0.mk A40
  clear A40
  simp only [Option.some.injEq, Prod.mk.injEq] at H
  obtain ⟨rfl, rfl⟩ := H
  go_enter Try.func42, Try.ntmps42
  go_wp2_with (first | ((with_reducible refine gate_dst (N := 1) rfl ?_); refine box_event ?hg (N := 1) ?hd (cs := #[.int .i64 a0_0, .int .i64 a0_1, .int .i64 a0_2]) (t := 29) ?hr ?_; (case hd => rfl); (case hg => rfl); (case hr => first | (go_simp; done) | (go_simp; rfl)); intro gb359 hg w5 hbox hb; have BK359 := Aside0.mk (hbox); have GW359 := gs_ hg HB; have GE359 := gs_ hg HB; replace HB := hbs_ HB hb; clear hb hbox hg; obtain ⟨hcz6_0, hcz6_1, hcz6_2, hfz6_0, hfz6_1, hfz6_2⟩ := bx3 BK359) | ((with_reducible refine gate_callee (f := 66) rfl ?_); refine gl_ (some 5) Try.func66 #[.agg #[.int .i64 a0_0, .int .i64 a0_1, .int .i64 a0_2]] rfl rfl rfl ?_; (with_reducible refine (spec_sbPiece.calls a0_0 a0_1 a0_2 true _ A2.out).mono ?_); rintro e w7 ⟨rfl, hb⟩; refine ⟨_, rfl, ?_⟩; replace BK359 := kb_ BK359 hb; replace HB := hbs_ HB hb; (try clear hb); (try clear hb2); (try clear hk); (try clear hi); obtain ⟨hcz8_0, hcz8_1, hcz8_2, hfz8_0, hfz8_1, hfz8_2⟩ := bx3 BK359) | ((with_reducible refine gate_callee (f := 81) rfl ?_); refine gl_ (some 8) Try.func81 #[.agg #[.int .i64 a0_0, .int .i64 a0_1, .int .i64 a0_2]] rfl rfl rfl ?_; (with_reducible refine (spec_sbRound.calls a0_0 a0_1 a0_2 t361 _ A4.out).mono ?_); rintro e w9 ⟨rfl, hb⟩; refine ⟨_, rfl, ?_⟩; replace BK359 := kb_ BK359 hb; replace HB := hbs_ HB hb; (try clear hb); (try clear hb2); (try clear hk); (try clear hi)))
  go_ret2
  exact ⟨by first | rfl | (simp [errW_none, errW_some] <;> rfl) | (simp [*, errW_none, errW_some] <;> rfl), hb_ HB⟩
 ·replace c3 := Bool.eq_false_iff.mpr c3
  subst c3
  rw [if_neg (show ¬ (false = true) by decide)] at H
  simp only [Option.some.injEq, Prod.mk.injEq] at H
  obtain ⟨rfl, rfl⟩ := H
  go_enter Try.func42, Try.ntmps42
  go_wp2_with (first | ((with_reducible refine gate_dst (N := 1) rfl ?_); refine box_event ?hg (N := 1) ?hd (cs := #[.int .i64 a0_0, .int .i64 a0_1, .int .i64 a0_2]) (t := 29) ?hr ?_; (case hd => rfl); (case hg => rfl); (case hr => first | (go_simp; done) | (go_simp; rfl)); intro gb359 hg w10 hbox hb; have BK359 := Aside0.mk (hbox); have GW359 := gs_ hg HB; have GE359 := gs_ hg HB; replace HB := hbs_ HB hb; clear hb hbox hg; obtain ⟨hcz11_0, hcz11_1, hcz11_2, hfz11_0, hfz11_1, hfz11_2⟩ := bx3 BK359) | ((with_reducible refine gate_callee (f := 66) rfl ?_); refine gl_ (some 5) Try.func66 #[.agg #[.int .i64 a0_0, .int .i64 a0_1, .int .i64 a0_2]] rfl rfl rfl ?_; (with_reducible refine (spec_sbPiece.calls a0_0 a0_1 a0_2 false _ A2.out).mono ?_); rintro e w12 ⟨rfl, hb⟩; refine ⟨_, rfl, ?_⟩; replace BK359 := kb_ BK359 hb; replace HB := hbs_ HB hb; (try clear hb); (try clear hb2); (try clear hk); (try clear hi)))
  go_ret2
  exact ⟨by first | rfl | (simp [errW_none, errW_some] <;> rfl) | (simp [*, errW_none, errW_some] <;> rfl), hb_ HB⟩

/-! ### impl_abs: function 119 -/
def impl_abs.f (a0 : Int) : Option (Int) := some (mx a0 (wrap64 (-a0)))
set_option maxHeartbeats 8000000 in
set_option maxRecDepth 100000 in
theorem impl_abs.calls (a0 : Int) (r : Int) (w : World) (h : impl_abs.f a0 = some r) :
  Calls Try.prog 119 #[.int .i64 a0] w fun e w' => e = .returned (.int .i64 r) ∧ Below w.heap.size w w' := by
 have HB := Aside0.mk (Below.refl w.heap.size w)
 have H : (some (mx a0 (wrap64 (-a0)))) = some r := h
 clear h
 obtain ⟨ji2, hji2⟩ : ∃ j_ : Int, (mx a0 (wrap64 (-a0))) = j_ := ⟨_, rfl⟩
 replace H : (some ji2) = some r := by first | (rw [hji2] at H; exact H) | (simp only [hji2] at H ⊢; exact H)
 have hji2_ : (if a0 < (wrap64 (-a0)) then (wrap64 (-a0)) else a0) = ji2 := hji2
 obtain rfl := Option.some.inj H
 go_enter Try.func119, Try.ntmps119
 go_wp2
 go_ret
 exact ⟨by first | rfl | (simp [errW_none, errW_some] <;> rfl) | (simp only [← hji2]; first | rfl | (simp [errW_none, errW_some] <;> rfl)) | (simp [*, errW_none, errW_some] <;> rfl), hb_ HB⟩

/-! ### impl_lowest: function 92 -/
def impl_lowest.l0 : Nat → Int → Int → Int → Int → Option (Int × Int)
 | 0, _, _, _, _ => none
 | k + 1, x0, x1, x6, x7 => if x7 = 0 then (if x6 = 0 then (none) else (some (wrap64 (Int.tdiv x0 x6), wrap64 (Int.tdiv x1 x6)))) else (impl_lowest.l0 k x0 x1 x7 (Int.tmod x6 x7))
def impl_lowest.f (k : Nat) (a0 : Int) (a1 : Int) : Option (Int × Int) := (impl_abs.f a0).bind fun t362 => (impl_lowest.l0 k a0 a1 t362 a1)
set_option maxHeartbeats 8000000 in
set_option maxRecDepth 100000 in
theorem impl_lowest.calls (k : Nat) (a0 : Int) (a1 : Int) (r1 : Int) (r2 : Int) (w : World) (h : impl_lowest.f k a0 a1 = some (r1, r2)) :
  Calls Try.prog 92 #[.int .i64 a0, .int .i64 a1] w fun e w' => e = .returned (.tuple #[.int .i64 r1, .int .i64 r2]) ∧ Below w.heap.size w w' := by
 have HB := Aside0.mk (Below.refl w.heap.size w)
 have H : ((impl_abs.f a0).bind fun t362 => (impl_lowest.l0 k a0 a1 t362 a1)) = some (r1, r2) := h
 clear h
 replace H := Option.bind_eq_some_iff.mp H
 obtain ⟨t362, A30, H⟩ := H
 try dsimp only at H
 have A3 := Aside0.mk A30
 clear A30
 have H' := Aside0.mk H
 clear H
 go_enter Try.func92, Try.ntmps92
 go_wp2_with (first | (go_at_call 119; (with_reducible refine (impl_abs.calls a0 t362 _ A3.out).mono ?_); rintro e w4 ⟨rfl, hb⟩; have n0_ := Aside0.mk (below_step (hb_ HB) hb); clear HB; have HB := n0_; clear n0_; (try clear hb); (try clear hb2); (try clear hk); (try clear hi)))
 repeat (go_quiet (first | (go_at_call 119; (with_reducible refine (impl_abs.calls a0 t362 _ A3.out).mono ?_); rintro e w4 ⟨rfl, hb⟩; have n0_ := Aside0.mk (below_step (hb_ HB) hb); clear HB; have HB := n0_; clear n0_; (try clear hb); (try clear hb2); (try clear hk); (try clear hi))); try go_wp2_with (first | (go_at_call 119; (with_reducible refine (impl_abs.calls a0 t362 _ A3.out).mono ?_); rintro e w4 ⟨rfl, hb⟩; have n0_ := Aside0.mk (below_step (hb_ HB) hb); clear HB; have HB := n0_; clear n0_; (try clear hb); (try clear hb2); (try clear hk); (try clear hi))))
 go_loopg [6, 7] k (fun kq v6 v7 w' => ∃ (x6_1 : Int) (x7_1 : Int), v6 = .int .i64 x6_1 ∧ v7 = .int .i64 x7_1 ∧ Aside0 (impl_lowest.l0 kq a0 a1 x6_1 x7_1 = some (r1, r2)) ∧ Aside0 (kq ≤ k) ∧ Aside0 (Below w.heap.size w w'))
 case atStart => exact ⟨(t362), (a1), (by first | rfl | (simp; done) | (simp [*]; done)), (by first | rfl | (simp; done) | (simp [*]; done)), H', ⟨Nat.le_refl _⟩, ⟨hb_ HB⟩⟩
 case round =>
  clear H'
  (try clear p2)
  obtain ⟨x6_1, x7_1, rfl, rfl, HA, HK1, HB⟩ := hrel
  cases gk with
  | zero => exact absurd HA.out (by simp [impl_lowest.l0])
  | succ k1 =>
   have H := HA.out
   clear HA
   simp only [impl_lowest.l0] at H
   by_cases c5 : x7_1 = 0
   ·rw [if_pos c5] at H
    have c5b0 : (x7_1 == 0) = true := beq_iff_eq.mpr c5
    have c5b1 : (x7_1 != 0) = false := bne_eq_false_iff_eq.mpr c5
    clear c5
    by_cases c6 : x6_1 = 0
    ·rw [if_pos c6] at H
     exact absurd H (by simp)
    ·rw [if_neg c6] at H
     have c6b0 : (x6_1 == 0) = false := beq_eq_false_iff_ne.mpr c6
     have c6b1 : (x6_1 != 0) = true := bne_iff_ne.mpr c6
     simp only [Option.some.injEq, Prod.mk.injEq] at H
     obtain ⟨rfl, rfl⟩ := H
     go_wp2
     repeat (go_quiet (fail); try go_wp2)
     go_ret2
     exact ⟨by first | rfl | (simp [errW_none, errW_some] <;> rfl) | (simp [*, errW_none, errW_some] <;> rfl), hb_ HB⟩
   ·rw [if_neg c5] at H
    have c5b0 : (x7_1 == 0) = false := beq_eq_false_iff_ne.mpr c5
    have c5b1 : (x7_1 != 0) = true := bne_iff_ne.mpr c5
    have H' := Aside0.mk H
    clear H
    go_wp2
    repeat (go_quiet (fail); try go_wp2)
    go_roundg k1
    case measure => have := HK1.out; omega
    case rel => exact ⟨(x7_1), (Int.tmod x6_1 x7_1), (by first | rfl | (simp; done) | (simp [*]; done)), (by first | rfl | (simp; done) | (simp [*]; done)), H', ⟨by have := HK1.out; omega⟩, ⟨hb_ HB⟩⟩

/-! ### impl_PieceGrade: function 43 -/
def impl_PieceGrade.f (k : Nat) (a0_0 : Int) (a0_1 : Int) (a0_2 : Int) : Option (Int × Int × Bool) := (impl_IsPiece.f a0_0 a0_1 a0_2).bind fun t364 => (if t364 = true then (if a0_0 = 0 then (some (0, 0, false)) else ((impl_lowest.f k a0_1 a0_0).bind fun bt365 => (some (bt365.1, bt365.2, true)))) else (some (0, 0, false)))
set_option maxHeartbeats 8000000 in
set_option maxRecDepth 100000 in
theorem impl_PieceGrade.calls (k : Nat) (a0_0 : Int) (a0_1 : Int) (a0_2 : Int) (r1 : Int) (r2 : Int) (r3 : Bool) (w : World) (h : impl_PieceGrade.f k a0_0 a0_1 a0_2 = some (r1, r2, r3)) :
  Calls Try.prog 43 #[.agg #[.int .i64 a0_0, .int .i64 a0_1, .int .i64 a0_2]] w fun e w' => e = .returned (.tuple #[.int .i64 r1, .int .i64 r2, .bool r3]) ∧ Below w.heap.size w w' := by
 have hu29 := Try.underlying29
 have HB := Aside0.mk (Below.refl w.heap.size w)
 have H : ((impl_IsPiece.f a0_0 a0_1 a0_2).bind fun t364 => (if t364 = true then (if a0_0 = 0 then (some (0, 0, false)) else ((impl_lowest.f k a0_1 a0_0).bind fun bt365 => (some (bt365.1, bt365.2, true)))) else (some (0, 0, false)))) = some (r1, r2, r3) := h
 clear h
 replace H := Option.bind_eq_some_iff.mp H
 obtain ⟨t364, A20, H⟩ := H
 try dsimp only at H
 have A2 := Aside0.mk A20
 clear A20
 by_cases c3 : t364 = true
 ·subst c3
  rw [if_pos rfl] at H
  by_cases c4 : a0_0 = 0
  ·rw [if_pos c4] at H
   have c4b0 : (a0_0 == 0) = true := beq_iff_eq.mpr c4
   have c4b1 : (a0_0 != 0) = false := bne_eq_false_iff_eq.mpr c4
   clear c4
   simp only [Option.some.injEq, Prod.mk.injEq] at H
   obtain ⟨rfl, rfl, rfl⟩ := H
   go_enter Try.func43, Try.ntmps43
   go_wp2_with (first | ((with_reducible refine gate_dst (N := 1) rfl ?_); refine box_event ?hg (N := 1) ?hd (cs := #[.int .i64 a0_0, .int .i64 a0_1, .int .i64 a0_2]) (t := 29) ?hr ?_; (case hd => rfl); (case hg => rfl); (case hr => first | (go_simp; done) | (go_simp; rfl)); intro gb363 hg w5 hbox hb; have BK363 := Aside0.mk (hbox); have GW363 := gs_ hg HB; have GE363 := gs_ hg HB; replace HB := hbs_ HB hb; clear hb hbox hg; obtain ⟨hcz6_0, hcz6_1, hcz6_2, hfz6_0, hfz6_1, hfz6_2⟩ := bx3 BK363) | ((with_reducible refine gate_callee (f := 47) rfl ?_); refine gl_ (some 8) Try.func47 #[.agg #[.int .i64 a0_0, .int .i64 a0_1, .int .i64 a0_2]] rfl rfl rfl ?_; (with_reducible refine (impl_IsPiece.calls a0_0 a0_1 a0_2 true _ A2.out).mono ?_); rintro e w7 ⟨rfl, hb⟩; refine ⟨_, rfl, ?_⟩; replace BK363 := kb_ BK363 hb; replace HB := hbs_ HB hb; (try clear hb); (try clear hb2); (try clear hk); (try clear hi); obtain ⟨hcz8_0, hcz8_1, hcz8_2, hfz8_0, hfz8_1, hfz8_2⟩ := bx3 BK363))
   go_ret3
   exact ⟨by first | rfl | (simp [errW_none, errW_some] <;> rfl) | (simp [*, errW_none, errW_some] <;> rfl), hb_ HB⟩
  ·rw [if_neg c4] at H
   have c4b0 : (a0_0 == 0) = false := beq_eq_false_iff_ne.mpr c4
   have c4b1 : (a0_0 != 0) = true := bne_iff_ne.mpr c4
   replace H := Option.bind_eq_some_iff.mp H
   obtain ⟨⟨t365, t366⟩, A90, H⟩ := H
   try dsimp only at H
   have A9 := Aside0.mk A90
   clear A90
   simp only [Option.some.injEq, Prod.mk.injEq] at H
   obtain ⟨rfl, rfl, rfl⟩ := H
   go_enter Try.func43, Try.ntmps43
   go_wp2_with (first | ((with_reducible refine gate_dst (N := 1) rfl ?_); refine box_event ?hg (N := 1) ?hd (cs := #[.int .i64 a0_0, .int .i64 a0_1, .int .i64 a0_2]) (t := 29) ?hr ?_; (case hd => rfl); (case hg => rfl); (case hr => first | (go_simp; done) | (go_simp; rfl)); intro gb363 hg w10 hbox hb; have BK363 := Aside0.mk (hbox); have GW363 := gs_ hg HB; have GE363 := gs_ hg HB; replace HB := hbs_ HB hb; clear hb hbox hg; obtain ⟨hcz11_0, hcz11_1, hcz11_2, hfz11_0, hfz11_1, hfz11_2⟩ := bx3 BK363) | ((with_reducible refine gate_callee (f := 47) rfl ?_); refine gl_ (some 8) Try.func47 #[.agg #[.int .i64 a0_0, .int .i64 a0_1, .int .i64 a0_2]] rfl rfl rfl ?_; (with_reducible refine (impl_IsPiece.calls a0_0 a0_1 a0_2 true _ A2.out).mono ?_); rintro e w12 ⟨rfl, hb⟩; refine ⟨_, rfl, ?_⟩; replace BK363 := kb_ BK363 hb; replace HB := hbs_ HB hb; (try clear hb); (try clear hb2); (try clear hk); (try clear hi); obtain ⟨hcz13_0, hcz13_1, hcz13_2, hfz13_0, hfz13_1, hfz13_2⟩ := bx3 BK363) | ((with_reducible refine gate_callee (f := 92) rfl ?_); refine gl_ (some 20) Try.func92 #[.int .i64 a0_1, .int .i64 a0_0] rfl rfl rfl ?_; (with_reducible refine (impl_lowest.calls k a0_1 a0_0 t365 t366 _ A9.out).mono ?_); rintro e w14 ⟨rfl, hb⟩; refine ⟨_, rfl, ?_⟩; replace BK363 := kb_ BK363 hb; replace HB := hbs_ HB hb; (try clear hb); (try clear hb2); (try clear hk); (try clear hi)))
   go_ret3
   exact ⟨by first | rfl | (simp [errW_none, errW_some] <;> rfl) | (simp [*, errW_none, errW_some] <;> rfl), hb_ HB⟩
 ·replace c3 := Bool.eq_false_iff.mpr c3
  subst c3
  rw [if_neg (show ¬ (false = true) by decide)] at H
  simp only [Option.some.injEq, Prod.mk.injEq] at H
  obtain ⟨rfl, rfl, rfl⟩ := H
  go_enter Try.func43, Try.ntmps43
  go_wp2_with (first | ((with_reducible refine gate_dst (N := 1) rfl ?_); refine box_event ?hg (N := 1) ?hd (cs := #[.int .i64 a0_0, .int .i64 a0_1, .int .i64 a0_2]) (t := 29) ?hr ?_; (case hd => rfl); (case hg => rfl); (case hr => first | (go_simp; done) | (go_simp; rfl)); intro gb363 hg w15 hbox hb; have BK363 := Aside0.mk (hbox); have GW363 := gs_ hg HB; have GE363 := gs_ hg HB; replace HB := hbs_ HB hb; clear hb hbox hg; obtain ⟨hcz16_0, hcz16_1, hcz16_2, hfz16_0, hfz16_1, hfz16_2⟩ := bx3 BK363) | ((with_reducible refine gate_callee (f := 47) rfl ?_); refine gl_ (some 8) Try.func47 #[.agg #[.int .i64 a0_0, .int .i64 a0_1, .int .i64 a0_2]] rfl rfl rfl ?_; (with_reducible refine (impl_IsPiece.calls a0_0 a0_1 a0_2 false _ A2.out).mono ?_); rintro e w17 ⟨rfl, hb⟩; refine ⟨_, rfl, ?_⟩; replace BK363 := kb_ BK363 hb; replace HB := hbs_ HB hb; (try clear hb); (try clear hb2); (try clear hk); (try clear hi)))
  go_ret3
  exact ⟨by first | rfl | (simp [errW_none, errW_some] <;> rfl) | (simp [*, errW_none, errW_some] <;> rfl), hb_ HB⟩

/-! ### spec_moPart: function 93 -/
def spec_moPart.l0 : Nat → Int → Int → Int → Int → Option (Int × Int)
 | 0, _, _, _, _ => none
 | k + 1, x0, x1, x6, x7 => if x7 > 0 then (if x7 = 0 then (none) else (spec_moPart.l0 k x0 x1 x7 (Int.tmod x6 x7))) else (if x6 = 0 then (none) else (some (wrap64 (Int.tdiv x0 x6), wrap64 (Int.tdiv x1 x6))))
def spec_moPart.f (k : Nat) (a0 : Int) (a1 : Int) : Option (Int × Int) := spec_moPart.l0 k a0 a1 a0 a1
set_option maxHeartbeats 8000000 in
set_option maxRecDepth 100000 in
theorem spec_moPart.calls (k : Nat) (a0 : Int) (a1 : Int) (r1 : Int) (r2 : Int) (w : World) (h : spec_moPart.f k a0 a1 = some (r1, r2)) :
  Calls Try.prog 93 #[.int .i64 a0, .int .i64 a1] w fun e w' => e = .returned (.tuple #[.int .i64 r1, .int .i64 r2]) ∧ Drawn0 w w' := by
 have H : (spec_moPart.l0 k a0 a1 a0 a1) = some (r1, r2) := h
 clear h
 have H' := Aside0.mk H
 clear H
 go_enter Try.func93, Try.ntmps93
 go_wp2
 repeat (go_quiet (fail); try go_wp2)
 go_loopg [6, 7] k (fun kq v6 v7 w' => ∃ (x6_1 : Int) (x7_1 : Int), v6 = .int .i64 x6_1 ∧ v7 = .int .i64 x7_1 ∧ Aside0 (spec_moPart.l0 kq a0 a1 x6_1 x7_1 = some (r1, r2)) ∧ Aside0 (kq ≤ k) ∧ Drawn0 w w')
 case atStart => exact ⟨(a0), (a1), (by first | rfl | (simp; done) | (simp [*]; done)), (by first | rfl | (simp; done) | (simp [*]; done)), H', ⟨Nat.le_refl _⟩, by repeat (first | exact Drawn0.refl _ | apply Drawn0.step)⟩
 case round =>
  clear H'
  (try clear p2)
  obtain ⟨x6_1, x7_1, rfl, rfl, HA, HK1, ⟨m1, rfl⟩⟩ := hrel
  cases gk with
  | zero => exact absurd HA.out (by simp [spec_moPart.l0])
  | succ k1 =>
   have H := HA.out
   clear HA
   simp only [spec_moPart.l0] at H
   by_cases c3 : x7_1 > 0
   ·rw [if_pos c3] at H
    have c3b0 : decide (0 < x7_1) = true := decide_eq_true c3
    clear c3
    by_cases c4 : x7_1 = 0
    ·rw [if_pos c4] at H
     exact absurd H (by simp)
    ·rw [if_neg c4] at H
     have c4b0 : (x7_1 == 0) = false := beq_eq_false_iff_ne.mpr c4
     have c4b1 : (x7_1 != 0) = true := bne_iff_ne.mpr c4
     have H' := Aside0.mk H
     clear H
     go_wp2
     repeat (go_quiet (fail); try go_wp2)
     go_roundg k1
     case measure => have := HK1.out; omega
     case rel => exact ⟨(x7_1), (Int.tmod x6_1 x7_1), (by first | rfl | (simp; done) | (simp [*]; done)), (by first | rfl | (simp; done) | (simp [*]; done)), H', ⟨by have := HK1.out; omega⟩, by repeat (first | exact Drawn0.refl _ | apply Drawn0.step)⟩
   ·rw [if_neg c3] at H
    have c3b0 : decide (0 < x7_1) = false := decide_eq_false c3
    clear c3
    by_cases c5 : x6_1 = 0
    ·rw [if_pos c5] at H
     exact absurd H (by simp)
    ·rw [if_neg c5] at H
     have c5b0 : (x6_1 == 0) = false := beq_eq_false_iff_ne.mpr c5
     have c5b1 : (x6_1 != 0) = true := bne_iff_ne.mpr c5
     simp only [Option.some.injEq, Prod.mk.injEq] at H
     obtain ⟨rfl, rfl⟩ := H
     go_wp2
     repeat (go_quiet (fail); try go_wp2)
     go_ret2
     exact ⟨by first | rfl | (simp; done) | (simp [*]; done), by repeat (first | exact Drawn0.refl _ | apply Drawn0.step)⟩

end Go.Proofs.Ytceajigggcihnaa.PFnPieces
