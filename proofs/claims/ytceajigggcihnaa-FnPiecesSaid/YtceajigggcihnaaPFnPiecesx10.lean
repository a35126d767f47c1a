-- Laid for this claim by wip/tools/print2.sh, a changed copy of the kit's print (wip/tools/patch_print.py): not by print.sh.
import Derived.Test.YtceajigggcihnaaPFnPiecesx0
import Derived.Test.YtceajigggcihnaaVFnPieces
namespace Go.Proofs.Ytceajigggcihnaa.PFnPieces
open Go.RowKit Go.Proofs.YtceajigggcihnaaW.PrintWords Go.Proofs.YtceajigggcihnaaW.PrintLast Go.Proofs.YtceajigggcihnaaW.PrintMore
attribute [local go_sem] max2_int min2_int max_two min_two max_three min_three max_four min_four   -- for this text's walks alone
set_option linter.unusedVariables false
set_option linter.unusedSimpArgs false

/-- A state of type 106 at block g of W; what its slices lead to came in by w0. -/
def IsS106 (w0 W : World) (g : Nat) (f0 : List Int) (f1 : Int) (f2 : Int) : Prop := ∃ A0 c0, W.heap[g]? = some (.cells #[.slice A0 f0.length c0, .int .i64 f1, .int .u64 f2] 106 (0, 0)) ∧ w0.heap.size ≤ g ∧ Kd.C (Kd.int .u8) w0 A0 f0.length f0
theorem IsS106.grown {w0 W : World} {g : Nat} {f0 : List Int} {f1 : Int} {f2 : Int} {W1 : World} {row : Option Nat} (h : IsS106 w0 W g f0 f1 f2) (hw : W.grownBy W1 row) (hne : some g ≠ row) : IsS106 w0 W1 g f0 f1 f2 := by
 obtain ⟨A0, c0, hb, hg, hr0⟩ := h
 exact ⟨A0, c0, blk_grown hb hw hne, hg, hr0⟩
theorem IsS106.own_neN {w0 W : World} {g : Nat} {f0 : List Int} {f1 : Int} {f2 : Int} {α : Type} {d : Kd α} {e : Nat} {base : Nat} {ok : Nat → Prop} {v : Value} {xs : List α} (h : IsS106 w0 W g f0 f1 f2) (ho : Kd.N d e W base ok v xs) (ht : e ≠ 106) : some g ≠ v.ownBlock := by
 obtain ⟨A0, c0, hb, hg, hr0⟩ := h
 exact Kd.N_ne ho hb ht
theorem IsS106.fresh {w0 W : World} {g : Nat} {f0 : List Int} {f1 : Int} {f2 : Int} (h : IsS106 w0 W g f0 f1 f2) : ∀ k, W.heap.size ≤ k → k ≠ g := by
 obtain ⟨A0, c0, hb, hg, hr0⟩ := h
 exact Kd.freshB hb
theorem IsS106.kept {w0 W : World} {g : Nat} {f0 : List Int} {f1 : Int} {f2 : Int} {W1 : World} {S : Nat → Prop} (h : IsS106 w0 W g f0 f1 f2) (hk : Kept W W1 S) (hne : ¬ S g) : IsS106 w0 W1 g f0 f1 f2 := by
 obtain ⟨A0, c0, hb, hg, hr0⟩ := h
 exact ⟨A0, c0, blk_kept hb hk hne, hg, hr0⟩
theorem IsS106.below {w0 W : World} {g : Nat} {f0 : List Int} {f1 : Int} {f2 : Int} {W1 : World} (h : IsS106 w0 W g f0 f1 f2) (hw : Below W.heap.size W W1) : IsS106 w0 W1 g f0 f1 f2 := h.grown (grown_of_below hw none) (by simp)
theorem IsS106.alloc {w0 W : World} {g : Nat} {f0 : List Int} {f1 : Int} {f2 : Int} (h : IsS106 w0 W g f0 f1 f2) (o : Obj) : IsS106 w0 (W.alloc o) g f0 f1 f2 := h.below (below_alloc (Below.refl _ _) o)
theorem IsS106.drewN {w0 W : World} {g : Nat} {f0 : List Int} {f1 : Int} {f2 : Int} (h : IsS106 w0 W g f0 f1 f2) (m : Nat) : IsS106 w0 (W.drewN m) g f0 f1 f2 := h
theorem IsS106.drew {w0 W : World} {g : Nat} {f0 : List Int} {f1 : Int} {f2 : Int} (h : IsS106 w0 W g f0 f1 f2) : IsS106 w0 W.drew g f0 f1 f2 := h
theorem IsS106.at_ {w0 W : World} {g : Nat} {f0 : List Int} {f1 : Int} {f2 : Int} {w' : World} {m : Nat} (hq : W.drewN m = w') (h : IsS106 w0 W g f0 f1 f2) : IsS106 w0 w' g f0 f1 f2 := by subst hq; exact IsS106.drewN h m
theorem IsS106.apart {w0 W : World} {g : Nat} {f0 : List Int} {f1 : Int} {f2 : Int} {α : Type} {d : Kd α} {e : Nat} {base : Nat} {ok : Nat → Prop} {v : Value} {xs : List α} (h : IsS106 w0 W g f0 f1 f2) (ho : d.R e W base ok v xs) (ht : ∀ q, q ∈ e :: d.E → q ≠ 106) : d.R e W base (fun k => ok k ∧ k ≠ g) v xs := by
 obtain ⟨A0, c0, hb, hg, hr0⟩ := h
 exact Kd.R_types ho hb ht
theorem IsS106.own_ne {w0 W : World} {g : Nat} {f0 : List Int} {f1 : Int} {f2 : Int} {α : Type} {d : Kd α} {e : Nat} {base : Nat} {ok : Nat → Prop} {v : Value} {xs : List α} (h : IsS106 w0 W g f0 f1 f2) (ho : d.R e W base ok v xs) (ht : e ≠ 106) : some g ≠ v.ownBlock := by
 obtain ⟨A0, c0, hb, hg, hr0⟩ := h
 exact Kd.R_ne ho hb ht
theorem IsS106.apartQ {w0 W : World} {g : Nat} {f0 : List Int} {f1 : Int} {f2 : Int} {α : Type} {d : Kd α} {e : Nat} {base : Nat} {ok : Nat → Prop} {v : Value} {xs : List α} (h : IsS106 w0 W g f0 f1 f2) (ho : d.Q e W base ok v xs) (ht : ∀ q, q ∈ e :: d.E → q ≠ 106) : d.Q e W base (fun k => ok k ∧ k ≠ g) v xs := by
 obtain ⟨A0, c0, hb, hg, hr0⟩ := h
 exact Kd.Q_types ho hb ht
theorem IsS106.own_neQ {w0 W : World} {g : Nat} {f0 : List Int} {f1 : Int} {f2 : Int} {α : Type} {d : Kd α} {e : Nat} {base : Nat} {ok : Nat → Prop} {v : Value} {xs : List α} (h : IsS106 w0 W g f0 f1 f2) (ho : d.Q e W base ok v xs) (ht : e ≠ 106) : some g ≠ v.ownBlock := by
 obtain ⟨A0, c0, hb, hg, hr0⟩ := h
 exact Kd.Q_ne ho hb ht
theorem IsS106.apartS {w0 W : World} {g : Nat} {f0 : List Int} {f1 : Int} {f2 : Int} {α : Type} {d : Kd α} {e : Nat} {base : Nat} {ok : Nat → Prop} {v : Value} {xs : List α} (h : IsS106 w0 W g f0 f1 f2) (ho : d.S e W base ok v xs) (ht : ∀ q, q ∈ e :: d.E → q ≠ 106) : d.S e W base (fun k => ok k ∧ k ≠ g) v xs := by
 obtain ⟨A0, c0, hb, hg, hr0⟩ := h
 exact Kd.S_types ho hb ht
theorem IsS106.own_neS {w0 W : World} {g : Nat} {f0 : List Int} {f1 : Int} {f2 : Int} {α : Type} {d : Kd α} {e : Nat} {base : Nat} {ok : Nat → Prop} {v : Value} {xs : List α} (h : IsS106 w0 W g f0 f1 f2) (ho : d.S e W base ok v xs) (ht : e ≠ 106) : some g ≠ v.ownBlock := by
 obtain ⟨A0, c0, hb, hg, hr0⟩ := h
 exact Kd.S_ne ho hb ht
theorem IsS106.lt {w0 W : World} {g : Nat} {f0 : List Int} {f1 : Int} {f2 : Int} (h : IsS106 w0 W g f0 f1 f2) : g < W.heap.size := by
 obtain ⟨A0, c0, hb, hg, hr0⟩ := h
 exact blk_lt hb
theorem IsS106.ge {w0 W : World} {g : Nat} {f0 : List Int} {f1 : Int} {f2 : Int} (h : IsS106 w0 W g f0 f1 f2) : w0.heap.size ≤ g := by
 obtain ⟨A0, c0, hb, hg, hr0⟩ := h
 exact hg
theorem IsS106.ne_blk {w0 W : World} {g : Nat} {f0 : List Int} {f1 : Int} {f2 : Int} {a : Nat} {cs : Array Value} {t : TypeId} {fr : Nat × Nat} (h : IsS106 w0 W g f0 f1 f2) (hb2 : W.heap[a]? = some (.cells cs t fr)) (ht : t ≠ 106) : g ≠ a := by
 obtain ⟨A0, c0, hb, hg, hr0⟩ := h
 rintro rfl
 rw [hb] at hb2
 injection hb2 with hb2
 injection hb2 with _ ht2
 exact ht ht2.symm
theorem IsS106.far {w0 W : World} {g : Nat} {f0 : List Int} {f1 : Int} {f2 : Int} {p : Addr} (h : IsS106 w0 W g f0 f1 f2) (hne : g ≠ p.block) (u : Value) : IsS106 w0 (W.setCell p u) g f0 f1 f2 := by
 obtain ⟨A0, c0, hb, hg, hr0⟩ := h
 exact ⟨A0, c0, blk_far hb hne u, hg, hr0⟩
theorem cellS106_0 {W : World} {g : Nat} {A0 : Option Addr} {c0 : Nat} {f0 : List Int} {f1 : Int} {f2 : Int} (h : W.heap[g]? = some (.cells #[.slice A0 f0.length c0, .int .i64 f1, .int .u64 f2] 106 (0, 0))) : W.cell? ⟨g, 0, none⟩ = some (.slice A0 f0.length c0) := (blk_cell h 0).trans rfl
theorem cellS106_1 {W : World} {g : Nat} {A0 : Option Addr} {c0 : Nat} {f0 : List Int} {f1 : Int} {f2 : Int} (h : W.heap[g]? = some (.cells #[.slice A0 f0.length c0, .int .i64 f1, .int .u64 f2] 106 (0, 0))) : W.cell? ⟨g, 1, none⟩ = some (.int .i64 f1) := (blk_cell h 1).trans rfl
theorem IsS106.set_1 {w0 W : World} {g : Nat} {f0 : List Int} {f1 : Int} {f2 : Int} (h : IsS106 w0 W g f0 f1 f2) (x : Int) : IsS106 w0 (W.setCell ⟨g, 1, none⟩ (.int .i64 x)) g f0 x f2 := by
 obtain ⟨A0, c0, hb, hg, hr0⟩ := h
 exact ⟨A0, c0, by simpa using blk_set hb 1 (.int .i64 x), hg, hr0⟩
theorem cellS106_2 {W : World} {g : Nat} {A0 : Option Addr} {c0 : Nat} {f0 : List Int} {f1 : Int} {f2 : Int} (h : W.heap[g]? = some (.cells #[.slice A0 f0.length c0, .int .i64 f1, .int .u64 f2] 106 (0, 0))) : W.cell? ⟨g, 2, none⟩ = some (.int .u64 f2) := (blk_cell h 2).trans rfl
theorem IsS106.set_2 {w0 W : World} {g : Nat} {f0 : List Int} {f1 : Int} {f2 : Int} (h : IsS106 w0 W g f0 f1 f2) (x : Int) : IsS106 w0 (W.setCell ⟨g, 2, none⟩ (.int .u64 x)) g f0 f1 x := by
 obtain ⟨A0, c0, hb, hg, hr0⟩ := h
 exact ⟨A0, c0, by simpa using blk_set hb 2 (.int .u64 x), hg, hr0⟩
theorem IsS106.new (w0 W : World) (A0 : Option Addr) (c0 : Nat) (f0 : List Int) (f1 : Int) (f2 : Int) (hB : Below w0.heap.size w0 W) (hr0 : Kd.C (Kd.int .u8) w0 A0 f0.length f0) : IsS106 w0 (W.alloc (.cells #[.slice A0 f0.length c0, .int .i64 f1, .int .u64 f2] 106)) W.heap.size f0 f1 f2 := ⟨A0, c0, by simpa using heap_alloc_new W _, hB.size, hr0⟩
theorem IsS106.farA {w0 W : World} {g a i : Nat} {f0 : List Int} {f1 : Int} {f2 : Int} {u : Value} (h : IsS106 w0 W g f0 f1 f2) (hn : Aside0 (g ≠ a)) : IsS106 w0 (W.setCell ⟨a, i, none⟩ u) g f0 f1 f2 := IsS106.far (p := ⟨a, i, none⟩) h hn.out u
theorem IsS106.q {w0 W W1 : World} {g : Nat} {f0 : List Int} {f1 : Int} {f2 : Int} {f0' : List Int} {f1' : Int} {f2' : Int} (h : Aside0 (IsS106 w0 W g f0 f1 f2)) (hq : IsS106 w0 W g f0 f1 f2 → IsS106 w0 W1 g f0' f1' f2' := by intro h_; repeat (first | (with_reducible first | exact h_ | apply IsS106.alloc | apply IsS106.drewN | apply IsS106.drew | apply IsS106.set_1 | apply IsS106.set_2 | refine IsS106.farA ?_ (by assumption)) | exact h_)) : IsS106 w0 W1 g f0' f1' f2' := hq h.out
theorem IsS106.b {w0 W W1 W2 : World} {g : Nat} {f0 : List Int} {f1 : Int} {f2 : Int} {f0' : List Int} {f1' : Int} {f2' : Int} (h : Aside0 (IsS106 w0 W g f0 f1 f2)) (hb : Below W1.heap.size W1 W2) (hq : IsS106 w0 W g f0 f1 f2 → IsS106 w0 W1 g f0' f1' f2' := by intro h_; repeat (first | (with_reducible first | exact h_ | apply IsS106.alloc | apply IsS106.drewN | apply IsS106.drew | apply IsS106.set_1 | apply IsS106.set_2 | refine IsS106.farA ?_ (by assumption)) | exact h_)) : Aside0 (IsS106 w0 W2 g f0' f1' f2') := ⟨IsS106.below (hq h.out) hb⟩
theorem IsS106.rk {w0 W W1 W2 : World} {g : Nat} {f0 : List Int} {f1 : Int} {f2 : Int} {α : Type} {d : Kd α} {e : Nat} {base : Nat} {ok : Nat → Prop} {v : Value} {xs : List α} (hI : Aside0 (IsS106 w0 W g f0 f1 f2)) (h : Aside0 (d.R e W base ok v xs)) (hk : KeepBut W1 W2 g none) (hq : Below W.heap.size W W1 := by repeat (first | (with_reducible first | exact Below.refl _ _ | apply below_alloc | apply pw_below_drewN | apply below_drew1) | exact Below.refl _ _)) (ht : ∀ q, q ∈ e :: d.E → q ≠ 106 := by decide) : Aside0 (d.R e W2 base ok v xs) := ⟨Kd.R_mono (Kd.R_keep (Kd.R_below (IsS106.apart hI.out h.out ht) hq) hk (fun _ h => h.2)) (fun _ h => h.1)⟩

/-! ### spec_l1Cur_next: function 117 -/
def spec_l1Cur_next.f (s0_0 : List Int) (s0_1 : Int) (s0_2 : Int) : Option (Int × Int × Int) := if s0_1 < (s0_0.length : Int) then (if 0 ≤ s0_1 then (if (wrap64 (s0_1 + 1)) ≤ (s0_0.length : Int) then (some (wrap64 (rd s0_0 s0_1), wrap64 (s0_1 + 1), IntKind.u64.wrap ((IntKind.u64.wrap ((IntKind.u64.wrap (s0_2 * 6364136223846793005)) + (IntKind.u64.wrap (wrap64 (rd s0_0 s0_1))))) + 1442695040888963407))) else (some (wrap64 (Go.bits .and .u64 ((IntKind.u64.wrap ((IntKind.u64.wrap ((IntKind.u64.wrap (s0_2 * 6364136223846793005)) + (IntKind.u64.wrap (wrap64 (rd s0_0 s0_1))))) + 1442695040888963407)) / 1099511627776) 255), wrap64 (s0_1 + 1), IntKind.u64.wrap ((IntKind.u64.wrap ((IntKind.u64.wrap (s0_2 * 6364136223846793005)) + (IntKind.u64.wrap (wrap64 (rd s0_0 s0_1))))) + 1442695040888963407)))) else (none)) else (if (wrap64 (s0_1 + 1)) ≤ (s0_0.length : Int) then (some (0, wrap64 (s0_1 + 1), IntKind.u64.wrap ((IntKind.u64.wrap (IntKind.u64.wrap (s0_2 * 6364136223846793005))) + 1442695040888963407))) else (some (wrap64 (Go.bits .and .u64 ((IntKind.u64.wrap ((IntKind.u64.wrap (IntKind.u64.wrap (s0_2 * 6364136223846793005))) + 1442695040888963407)) / 1099511627776) 255), wrap64 (s0_1 + 1), IntKind.u64.wrap ((IntKind.u64.wrap (IntKind.u64.wrap (s0_2 * 6364136223846793005))) + 1442695040888963407))))
set_option maxHeartbeats 8000000 in
set_option maxRecDepth 100000 in
theorem spec_l1Cur_next.calls (g : Nat) (s0_0 : List Int) (s0_1 : Int) (s0_2 : Int) (r1 : Int) (r2 : Int) (r3 : Int) (w0 w : World) (hI : IsS106 w0 w g s0_0 s0_1 s0_2) (hB : Below w0.heap.size w0 w) (h : spec_l1Cur_next.f s0_0 s0_1 s0_2 = some (r1, r2, r3)) :
  Calls Try.prog 117 #[.pointer (some ⟨g, 0, none⟩)] w fun e w' => e = .returned (.int .i64 r1) ∧ IsS106 w0 w' g s0_0 r2 r3 ∧ Below w0.heap.size w0 w' ∧ KeepBut w w' g none := by
 have HI0 := Aside0.mk hI
 have HK := Aside0.mk (KeepBut.refl w g none)
 have HL := Aside0.mk hB.size
 clear hI
 have HW0 := Aside0.mk hB.size
 have HB := Aside0.mk hB
 clear hB
 have H : (if s0_1 < (s0_0.length : Int) then (if 0 ≤ s0_1 then (if (wrap64 (s0_1 + 1)) ≤ (s0_0.length : Int) then (some (wrap64 (rd s0_0 s0_1), wrap64 (s0_1 + 1), IntKind.u64.wrap ((IntKind.u64.wrap ((IntKind.u64.wrap (s0_2 * 6364136223846793005)) + (IntKind.u64.wrap (wrap64 (rd s0_0 s0_1))))) + 1442695040888963407))) else (some (wrap64 (Go.bits .and .u64 ((IntKind.u64.wrap ((IntKind.u64.wrap ((IntKind.u64.wrap (s0_2 * 6364136223846793005)) + (IntKind.u64.wrap (wrap64 (rd s0_0 s0_1))))) + 1442695040888963407)) / 1099511627776) 255), wrap64 (s0_1 + 1), IntKind.u64.wrap ((IntKind.u64.wrap ((IntKind.u64.wrap (s0_2 * 6364136223846793005)) + (IntKind.u64.wrap (wrap64 (rd s0_0 s0_1))))) + 1442695040888963407)))) else (none)) else (if (wrap64 (s0_1 + 1)) ≤ (s0_0.length : Int) then (some (0, wrap64 (s0_1 + 1), IntKind.u64.wrap ((IntKind.u64.wrap (IntKind.u64.wrap (s0_2 * 6364136223846793005))) + 1442695040888963407))) else (some (wrap64 (Go.bits .and .u64 ((IntKind.u64.wrap ((IntKind.u64.wrap (IntKind.u64.wrap (s0_2 * 6364136223846793005))) + 1442695040888963407)) / 1099511627776) 255), wrap64 (s0_1 + 1), IntKind.u64.wrap ((IntKind.u64.wrap (IntKind.u64.wrap (s0_2 * 6364136223846793005))) + 1442695040888963407))))) = some (r1, r2, r3) := h
 clear h
 by_cases c2 : s0_1 < (s0_0.length : Int)
 ·rw [if_pos c2] at H
  have c2b0 : decide (s0_1 < (s0_0.length : Int)) = true := decide_eq_true c2
  clear c2
  by_cases c3 : 0 ≤ s0_1
  ·rw [if_pos c3] at H
   have c3b0 : decide (0 ≤ s0_1) = true := decide_eq_true c3
   clear c3
   by_cases c4 : (wrap64 (s0_1 + 1)) ≤ (s0_0.length : Int)
   ·rw [if_pos c4] at H
    have c4b0 : decide ((wrap64 (s0_1 + 1)) ≤ (s0_0.length : Int)) = true := decide_eq_true c4
    clear c4
    simp only [Option.some.injEq, Prod.mk.injEq] at H
    obtain ⟨rfl, rfl, rfl⟩ := H
    obtain ⟨ASz5_0, cSz5_0, HGz5, hgz5, HSz5_0⟩ := HI0.out
    have hcz5_0 := cellS106_0 HGz5
    have hcz5_1 := cellS106_1 HGz5
    have hcz5_2 := cellS106_2 HGz5
    have hfz5_1 := blk_frozen HGz5 1
    have hfz5_2 := blk_frozen HGz5 2
    clear HGz5 hgz5
    have p243 : 0 ≤ (s0_1 : Int) := of_decide_eq_true (by first | (with_reducible assumption) | assumption)
    have q243 : s0_1 < (s0_0.length : Int) := of_decide_eq_true (by first | (with_reducible assumption) | assumption)
    obtain ⟨ad243, e243, hx243_0⟩ := Kd.at_int HSz5_0 s0_1 p243 q243
    cases e243
    replace hx243_0 := pw_cell_below HB.out hx243_0
    replace p243 := eq_true p243
    replace q243 := eq_true q243
    go_enter Try.func117, Try.ntmps117
    go_wp2
    repeat (go_quiet (fail); try go_wp2)
    go_ret
    exact ⟨by first | rfl | (simp [errW_none, errW_some] <;> rfl) | (simp [*, errW_none, errW_some] <;> rfl), IsS106.q HI0, hbI_ HB (IsS106.ge HI0.out), hk_ HK⟩
   ·rw [if_neg c4] at H
    have c4b0 : decide ((wrap64 (s0_1 + 1)) ≤ (s0_0.length : Int)) = false := decide_eq_false c4
    clear c4
    simp only [Option.some.injEq, Prod.mk.injEq] at H
    obtain ⟨rfl, rfl, rfl⟩ := H
    obtain ⟨ASz6_0, cSz6_0, HGz6, hgz6, HSz6_0⟩ := HI0.out
    have hcz6_0 := cellS106_0 HGz6
    have hcz6_1 := cellS106_1 HGz6
    have hcz6_2 := cellS106_2 HGz6
    have hfz6_1 := blk_frozen HGz6 1
    have hfz6_2 := blk_frozen HGz6 2
    clear HGz6 hgz6
    have p243 : 0 ≤ (s0_1 : Int) := of_decide_eq_true (by first | (with_reducible assumption) | assumption)
    have q243 : s0_1 < (s0_0.length : Int) := of_decide_eq_true (by first | (with_reducible assumption) | assumption)
    obtain ⟨ad243, e243, hx243_0⟩ := Kd.at_int HSz6_0 s0_1 p243 q243
    cases e243
    replace hx243_0 := pw_cell_below HB.out hx243_0
    replace p243 := eq_true p243
    replace q243 := eq_true q243
    go_enter Try.func117, Try.ntmps117
    go_wp2
    repeat (go_quiet (fail); try go_wp2)
    go_ret
    exact ⟨by first | rfl | (simp [errW_none, errW_some] <;> rfl) | (simp [*, errW_none, errW_some] <;> rfl), IsS106.q HI0, hbI_ HB (IsS106.ge HI0.out), hk_ HK⟩
  ·rw [if_neg c3] at H
   exact absurd H (by simp)
 ·rw [if_neg c2] at H
  have c2b0 : decide (s0_1 < (s0_0.length : Int)) = false := decide_eq_false c2
  clear c2
  by_cases c7 : (wrap64 (s0_1 + 1)) ≤ (s0_0.length : Int)
  ·rw [if_pos c7] at H
   have c7b0 : decide ((wrap64 (s0_1 + 1)) ≤ (s0_0.length : Int)) = true := decide_eq_true c7
   clear c7
   simp only [Option.some.injEq, Prod.mk.injEq] at H
   obtain ⟨rfl, rfl, rfl⟩ := H
   obtain ⟨ASz8_0, cSz8_0, HGz8, hgz8, HSz8_0⟩ := HI0.out
   have hcz8_0 := cellS106_0 HGz8
   have hcz8_1 := cellS106_1 HGz8
   have hcz8_2 := cellS106_2 HGz8
   have hfz8_1 := blk_frozen HGz8 1
   have hfz8_2 := blk_frozen HGz8 2
   clear HGz8 hgz8
   go_enter Try.func117, Try.ntmps117
   go_wp2
   repeat (go_quiet (fail); try go_wp2)
   go_ret
   exact ⟨by first | rfl | (simp [errW_none, errW_some] <;> rfl) | (simp [*, errW_none, errW_some] <;> rfl), IsS106.q HI0, hbI_ HB (IsS106.ge HI0.out), hk_ HK⟩
  ·rw [if_neg c7] at H
   have c7b0 : decide ((wrap64 (s0_1 + 1)) ≤ (s0_0.length : Int)) = false := decide_eq_false c7
   clear c7
   simp only [Option.some.injEq, Prod.mk.injEq] at H
   obtain ⟨rfl, rfl, rfl⟩ := H
   obtain ⟨ASz9_0, cSz9_0, HGz9, hgz9, HSz9_0⟩ := HI0.out
   have hcz9_0 := cellS106_0 HGz9
   have hcz9_1 := cellS106_1 HGz9
   have hcz9_2 := cellS106_2 HGz9
   have hfz9_1 := blk_frozen HGz9 1
   have hfz9_2 := blk_frozen HGz9 2
   clear HGz9 hgz9
   go_enter Try.func117, Try.ntmps117
   go_wp2
   repeat (go_quiet (fail); try go_wp2)
   go_ret
   exact ⟨by first | rfl | (simp [errW_none, errW_some] <;> rfl) | (simp [*, errW_none, errW_some] <;> rfl), IsS106.q HI0, hbI_ HB (IsS106.ge HI0.out), hk_ HK⟩

/-! ### spec_l1Cur_pick: function 87 -/
def spec_l1Cur_pick.f (s0_0 : List Int) (s0_1 : Int) (s0_2 : Int) (a1 : Int) : Option (Int × Int × Int) := if a1 ≤ 1 then (some (0, s0_1, s0_2)) else ((spec_l1Cur_next.f s0_0 s0_1 s0_2).bind fun bt244 => (if a1 > 200 then ((spec_l1Cur_next.f s0_0 bt244.2.1 bt244.2.2).bind fun bt247 => (if a1 = 0 then (none) else (some (Int.tmod (wrap64 ((wrap64 (bt244.1 * 256)) + bt247.1)) a1, bt247.2.1, bt247.2.2)))) else (if a1 = 0 then (none) else (some (Int.tmod bt244.1 a1, bt244.2.1, bt244.2.2)))))
set_option maxHeartbeats 8000000 in
set_option maxRecDepth 100000 in
theorem spec_l1Cur_pick.calls (g : Nat) (s0_0 : List Int) (s0_1 : Int) (s0_2 : Int) (a1 : Int) (r1 : Int) (r2 : Int) (r3 : Int) (w0 w : World) (hI : IsS106 w0 w g s0_0 s0_1 s0_2) (hB : Below w0.heap.size w0 w) (h : spec_l1Cur_pick.f s0_0 s0_1 s0_2 a1 = some (r1, r2, r3)) :
  Calls Try.prog 87 #[.pointer (some ⟨g, 0, none⟩), .int .i64 a1] w fun e w' => e = .returned (.int .i64 r1) ∧ IsS106 w0 w' g s0_0 r2 r3 ∧ Below w0.heap.size w0 w' ∧ KeepBut w w' g none := by
 have HI0 := Aside0.mk hI
 have HK := Aside0.mk (KeepBut.refl w g none)
 have HL := Aside0.mk hB.size
 clear hI
 have HW0 := Aside0.mk hB.size
 have HB := Aside0.mk hB
 clear hB
 have H : (if a1 ≤ 1 then (some (0, s0_1, s0_2)) else ((spec_l1Cur_next.f s0_0 s0_1 s0_2).bind fun bt244 => (if a1 > 200 then ((spec_l1Cur_next.f s0_0 bt244.2.1 bt244.2.2).bind fun bt247 => (if a1 = 0 then (none) else (some (Int.tmod (wrap64 ((wrap64 (bt244.1 * 256)) + bt247.1)) a1, bt247.2.1, bt247.2.2)))) else (if a1 = 0 then (none) else (some (Int.tmod bt244.1 a1, bt244.2.1, bt244.2.2)))))) = some (r1, r2, r3) := h
 clear h
 by_cases c3 : a1 ≤ 1
 ·rw [if_pos c3] at H
  have c3b0 : decide (a1 ≤ 1) = true := decide_eq_true c3
  clear c3
  simp only [Option.some.injEq, Prod.mk.injEq] at H
  obtain ⟨rfl, rfl, rfl⟩ := H
  go_enter Try.func87, Try.ntmps87
  go_wp2
  go_ret
  exact ⟨by first | rfl | (simp [errW_none, errW_some] <;> rfl) | (simp [*, errW_none, errW_some] <;> rfl), IsS106.q HI0, hbI_ HB (IsS106.ge HI0.out), hk_ HK⟩
 ·rw [if_neg c3] at H
  have c3b0 : decide (a1 ≤ 1) = false := decide_eq_false c3
  clear c3
  replace H := Option.bind_eq_some_iff.mp H
  obtain ⟨⟨t244, t245, t246⟩, A40, H⟩ := H
  try dsimp only at H
  have A4 := Aside0.mk A40
  clear A40
  by_cases c5 : a1 > 200
  ·rw [if_pos c5] at H
   have c5b0 : decide (200 < a1) = true := decide_eq_true c5
   clear c5
   replace H := Option.bind_eq_some_iff.mp H
   obtain ⟨⟨t247, t248, t249⟩, A60, H⟩ := H
   try dsimp only at H
   have A6 := Aside0.mk A60
   clear A60
   by_cases c7 : a1 = 0
   ·rw [if_pos c7] at H
    exact absurd H (by simp)
   ·rw [if_neg c7] at H
    have c7b0 : (a1 == 0) = false := beq_eq_false_iff_ne.mpr c7
    have c7b1 : (a1 != 0) = true := bne_iff_ne.mpr c7
    simp only [Option.some.injEq, Prod.mk.injEq] at H
    obtain ⟨rfl, rfl, rfl⟩ := H
    go_enter Try.func87, Try.ntmps87
    go_wp2_with (first | ((with_reducible refine gate_callee (f := 117) rfl ?_); refine gl_ (some 9) Try.func117 #[.pointer (some ⟨g, 0, none⟩)] rfl rfl rfl ?_; (with_reducible refine (spec_l1Cur_next.calls g s0_0 s0_1 s0_2 t244 t245 t246 w0 _ ?side1 ?side2 A4.out).mono ?_); (case side1 => exact IsS106.q HI0); (case side2 => exact hbI_ HB (IsS106.ge HI0.out)); rintro e w8 ⟨rfl, hi, hb, hk⟩; refine ⟨_, rfl, ?_⟩; replace HK := Aside0.mk (KeepBut.trans (hk_ HK) hk (.inl rfl)); replace HB := Aside0.mk (hb); replace HI0 := Aside0.mk (hi); (try clear hb); (try clear hb2); (try clear hk); (try clear hi)) | ((with_reducible refine gate_callee (f := 117) rfl ?_); refine gl_ (some 15) Try.func117 #[.pointer (some ⟨g, 0, none⟩)] rfl rfl rfl ?_; (with_reducible refine (spec_l1Cur_next.calls g s0_0 t245 t246 t247 t248 t249 w0 _ ?side1 ?side2 A6.out).mono ?_); (case side1 => exact IsS106.q HI0); (case side2 => exact hbI_ HB (IsS106.ge HI0.out)); rintro e w9 ⟨rfl, hi, hb, hk⟩; refine ⟨_, rfl, ?_⟩; replace HK := Aside0.mk (KeepBut.trans (hk_ HK) hk (.inl rfl)); replace HB := Aside0.mk (hb); replace HI0 := Aside0.mk (hi); (try clear hb); (try clear hb2); (try clear hk); (try clear hi)))
    go_ret
    exact ⟨by first | rfl | (simp [errW_none, errW_some] <;> rfl) | (simp [*, errW_none, errW_some] <;> rfl), IsS106.q HI0, hbI_ HB (IsS106.ge HI0.out), hk_ HK⟩
  ·rw [if_neg c5] at H
   have c5b0 : decide (200 < a1) = false := decide_eq_false c5
   clear c5
   by_cases c10 : a1 = 0
   ·rw [if_pos c10] at H
    exact absurd H (by simp)
   ·rw [if_neg c10] at H
    have c10b0 : (a1 == 0) = false := beq_eq_false_iff_ne.mpr c10
    have c10b1 : (a1 != 0) = true := bne_iff_ne.mpr c10
    simp only [Option.some.injEq, Prod.mk.injEq] at H
    obtain ⟨rfl, rfl, rfl⟩ := H
    go_enter Try.func87, Try.ntmps87
    go_wp2_with (first | ((with_reducible refine gate_callee (f := 117) rfl ?_); refine gl_ (some 9) Try.func117 #[.pointer (some ⟨g, 0, none⟩)] rfl rfl rfl ?_; (with_reducible refine (spec_l1Cur_next.calls g s0_0 s0_1 s0_2 t244 t245 t246 w0 _ ?side1 ?side2 A4.out).mono ?_); (case side1 => exact IsS106.q HI0); (case side2 => exact hbI_ HB (IsS106.ge HI0.out)); rintro e w11 ⟨rfl, hi, hb, hk⟩; refine ⟨_, rfl, ?_⟩; replace HK := Aside0.mk (KeepBut.trans (hk_ HK) hk (.inl rfl)); replace HB := Aside0.mk (hb); replace HI0 := Aside0.mk (hi); (try clear hb); (try clear hb2); (try clear hk); (try clear hi)))
    go_ret
    exact ⟨by first | rfl | (simp [errW_none, errW_some] <;> rfl) | (simp [*, errW_none, errW_some] <;> rfl), IsS106.q HI0, hbI_ HB (IsS106.ge HI0.out), hk_ HK⟩

/-! ### spec_l1Cur_one: function 88 -/
def spec_l1Cur_one.f (s0_0 : List Int) (s0_1 : Int) (s0_2 : Int) (a1 : Int) : Option (Bool × Int × Int) := (spec_l1Cur_pick.f s0_0 s0_1 s0_2 a1).bind fun bt250 => (some ((bt250.1 == 0), bt250.2.1, bt250.2.2))
set_option maxHeartbeats 8000000 in
set_option maxRecDepth 100000 in
theorem spec_l1Cur_one.calls (g : Nat) (s0_0 : List Int) (s0_1 : Int) (s0_2 : Int) (a1 : Int) (r1 : Bool) (r2 : Int) (r3 : Int) (w0 w : World) (hI : IsS106 w0 w g s0_0 s0_1 s0_2) (hB : Below w0.heap.size w0 w) (h : spec_l1Cur_one.f s0_0 s0_1 s0_2 a1 = some (r1, r2, r3)) :
  Calls Try.prog 88 #[.pointer (some ⟨g, 0, none⟩), .int .i64 a1] w fun e w' => e = .returned (.bool r1) ∧ IsS106 w0 w' g s0_0 r2 r3 ∧ Below w0.heap.size w0 w' ∧ KeepBut w w' g none := by
 have HI0 := Aside0.mk hI
 have HK := Aside0.mk (KeepBut.refl w g none)
 have HL := Aside0.mk hB.size
 clear hI
 have HW0 := Aside0.mk hB.size
 have HB := Aside0.mk hB
 clear hB
 have H : ((spec_l1Cur_pick.f s0_0 s0_1 s0_2 a1).bind fun bt250 => (some ((bt250.1 == 0), bt250.2.1, bt250.2.2))) = some (r1, r2, r3) := h
 clear h
 replace H := Option.bind_eq_some_iff.mp H
 obtain ⟨⟨t250, t251, t252⟩, A30, H⟩ := H
 try dsimp only at H
 have A3 := Aside0.mk A30
 clear A30
 simp only [Option.some.injEq, Prod.mk.injEq] at H
 obtain ⟨rfl, rfl, rfl⟩ := H
 go_enter Try.func88, Try.ntmps88
 go_wp2_with (first | ((with_reducible refine gate_callee (f := 87) rfl ?_); refine gl_ (some 7) Try.func87 #[.pointer (some ⟨g, 0, none⟩), .int .i64 a1] rfl rfl rfl ?_; (with_reducible refine (spec_l1Cur_pick.calls g s0_0 s0_1 s0_2 a1 t250 t251 t252 w0 _ ?side1 ?side2 A3.out).mono ?_); (case side1 => exact IsS106.q HI0); (case side2 => exact hbI_ HB (IsS106.ge HI0.out)); rintro e w4 ⟨rfl, hi, hb, hk⟩; refine ⟨_, rfl, ?_⟩; replace HK := Aside0.mk (KeepBut.trans (hk_ HK) hk (.inl rfl)); replace HB := Aside0.mk (hb); replace HI0 := Aside0.mk (hi); (try clear hb); (try clear hb2); (try clear hk); (try clear hi)))
 go_ret
 exact ⟨by first | rfl | (simp [errW_none, errW_some] <;> rfl) | (simp [*, errW_none, errW_some] <;> rfl), IsS106.q HI0, hbI_ HB (IsS106.ge HI0.out), hk_ HK⟩

/-! ### spec_l1Cur_among: function 89 -/
def spec_l1Cur_among.f (s0_0 : List Int) (s0_1 : Int) (s0_2 : Int) (l1 : List Int) : Option (Int × Int × Int) := (spec_l1Cur_pick.f s0_0 s0_1 s0_2 (l1.length : Int)).bind fun bt253 => (if 0 ≤ bt253.1 then (if bt253.1 < (l1.length : Int) then (some (rd l1 bt253.1, bt253.2.1, bt253.2.2)) else (none)) else (none))
set_option maxHeartbeats 8000000 in
set_option maxRecDepth 100000 in
theorem spec_l1Cur_among.calls (g : Nat) (s0_0 : List Int) (s0_1 : Int) (s0_2 : Int) (A1 : Option Addr) (c1 : Nat) (l1 : List Int) (r1 : Int) (r2 : Int) (r3 : Int) (w0 w : World) (hI : IsS106 w0 w g s0_0 s0_1 s0_2) (hB : Below w0.heap.size w0 w) (hr1 : Kd.C (Kd.int .i64) w A1 l1.length l1) (hc1 : l1.length ≤ c1) (hf1 : ∀ ad, A1 = some ad → 0 < l1.length → ad.block ≠ g) (h : spec_l1Cur_among.f s0_0 s0_1 s0_2 l1 = some (r1, r2, r3)) :
  Calls Try.prog 89 #[.pointer (some ⟨g, 0, none⟩), .slice A1 l1.length c1] w fun e w' => e = .returned (.int .i64 r1) ∧ IsS106 w0 w' g s0_0 r2 r3 ∧ Below w0.heap.size w0 w' ∧ KeepBut w w' g none := by
 have HR1 := Aside0.mk hr1
 have HC1 := Aside0.mk hc1
 clear hr1 hc1
 have HI0 := Aside0.mk hI
 have HK := Aside0.mk (KeepBut.refl w g none)
 have HL := Aside0.mk hB.size
 clear hI
 have HW0 := Aside0.mk hB.size
 have HB := Aside0.mk hB
 clear hB
 have H : ((spec_l1Cur_pick.f s0_0 s0_1 s0_2 (l1.length : Int)).bind fun bt253 => (if 0 ≤ bt253.1 then (if bt253.1 < (l1.length : Int) then (some (rd l1 bt253.1, bt253.2.1, bt253.2.2)) else (none)) else (none))) = some (r1, r2, r3) := h
 clear h
 replace H := Option.bind_eq_some_iff.mp H
 obtain ⟨⟨t253, t254, t255⟩, A30, H⟩ := H
 try dsimp only at H
 have A3 := Aside0.mk A30
 clear A30
 by_cases c4 : 0 ≤ t253
 ·rw [if_pos c4] at H
  have c4b0 : decide (0 ≤ t253) = true := decide_eq_true c4
  clear c4
  by_cases c5 : t253 < (l1.length : Int)
  ·rw [if_pos c5] at H
   have c5b0 : decide (t253 < (l1.length : Int)) = true := decide_eq_true c5
   clear c5
   simp only [Option.some.injEq, Prod.mk.injEq] at H
   obtain ⟨rfl, rfl, rfl⟩ := H
   go_enter Try.func89, Try.ntmps89
   go_wp2_with (first | ((with_reducible refine gate_callee (f := 87) rfl ?_); refine gl_ (some 9) Try.func87 #[.pointer (some ⟨g, 0, none⟩), .int .i64 (l1.length : Int)] rfl rfl rfl ?_; (with_reducible refine (spec_l1Cur_pick.calls g s0_0 s0_1 s0_2 (l1.length : Int) t253 t254 t255 w0 _ ?side1 ?side2 A3.out).mono ?_); (case side1 => exact IsS106.q HI0); (case side2 => exact hbI_ HB (IsS106.ge HI0.out)); rintro e w6 ⟨rfl, hi, hb, hk⟩; refine ⟨_, rfl, ?_⟩; replace HK := Aside0.mk (KeepBut.trans (hk_ HK) hk (.inl rfl)); replace HB := Aside0.mk (hb); replace HI0 := Aside0.mk (hi); (try clear hb); (try clear hb2); (try clear hk); (try clear hi); have p256 : 0 ≤ (t253 : Int) := of_decide_eq_true (by first | (with_reducible assumption) | assumption); have q256 : t253 < (l1.length : Int) := of_decide_eq_true (by first | (with_reducible assumption) | assumption); obtain ⟨ad256, e256, hx256_0⟩ := Kd.at_int HR1.out t253 p256 q256; cases e256; replace hx256_0 := keep_cell HK.out hx256_0 (by first | (rw [add_block]; exact hf1 _ rfl (by omega)) | exact hf1 _ rfl (by omega) | exact hf1 ad256 rfl (by omega)); replace p256 := eq_true p256; replace q256 := eq_true q256))
   go_ret
   exact ⟨by first | rfl | (simp [errW_none, errW_some] <;> rfl) | (simp [*, errW_none, errW_some] <;> rfl), IsS106.q HI0, hbI_ HB (IsS106.ge HI0.out), hk_ HK⟩
  ·rw [if_neg c5] at H
   exact absurd H (by simp)
 ·rw [if_neg c4] at H
  exact absurd H (by simp)

/-! ### spec_l1Least: function 95 -/
def spec_l1Least.f (a0 : Int) (a1 : Int) : Option (Int) := if a0 < a1 then (some a0) else (some a1)
set_option maxHeartbeats 8000000 in
set_option maxRecDepth 100000 in
theorem spec_l1Least.calls (a0 : Int) (a1 : Int) (r : Int) (w : World) (h : spec_l1Least.f a0 a1 = some r) :
  Calls Try.prog 95 #[.int .i64 a0, .int .i64 a1] w fun e w' => e = .returned (.int .i64 r) ∧ Drawn0 w w' := by
 have H : (if a0 < a1 then (some a0) else (some a1)) = some r := h
 clear h
 by_cases c3 : a0 < a1
 ·rw [if_pos c3] at H
  have c3b0 : decide (a0 < a1) = true := decide_eq_true c3
  clear c3
  obtain rfl := Option.some.inj H
  go_enter Try.func95, Try.ntmps95
  go_wp2
  go_ret
  exact ⟨by first | rfl | (simp; done) | (simp [*]; done), by repeat (first | exact Drawn0.refl _ | apply Drawn0.step)⟩
 ·rw [if_neg c3] at H
  have c3b0 : decide (a0 < a1) = false := decide_eq_false c3
  clear c3
  obtain rfl := Option.some.inj H
  go_enter Try.func95, Try.ntmps95
  go_wp2
  go_ret
  exact ⟨by first | rfl | (simp; done) | (simp [*]; done), by repeat (first | exact Drawn0.refl _ | apply Drawn0.step)⟩

/-! ### spec_l1Most: function 118 -/
def spec_l1Most.f (a0 : Int) (a1 : Int) : Option (Int) := if a0 > a1 then (some a0) else (some a1)
set_option maxHeartbeats 8000000 in
set_option maxRecDepth 100000 in
theorem spec_l1Most.calls (a0 : Int) (a1 : Int) (r : Int) (w : World) (h : spec_l1Most.f a0 a1 = some r) :
  Calls Try.prog 118 #[.int .i64 a0, .int .i64 a1] w fun e w' => e = .returned (.int .i64 r) ∧ Drawn0 w w' := by
 have H : (if a0 > a1 then (some a0) else (some a1)) = some r := h
 clear h
 by_cases c3 : a0 > a1
 ·rw [if_pos c3] at H
  have c3b0 : decide (a1 < a0) = true := decide_eq_true c3
  clear c3
  obtain rfl := Option.some.inj H
  go_enter Try.func118, Try.ntmps118
  go_wp2
  go_ret
  exact ⟨by first | rfl | (simp; done) | (simp [*]; done), by repeat (first | exact Drawn0.refl _ | apply Drawn0.step)⟩
 ·rw [if_neg c3] at H
  have c3b0 : decide (a1 < a0) = false := decide_eq_false c3
  clear c3
  obtain rfl := Option.some.inj H
  go_enter Try.func118, Try.ntmps118
  go_wp2
  go_ret
  exact ⟨by first | rfl | (simp; done) | (simp [*]; done), by repeat (first | exact Drawn0.refl _ | apply Drawn0.step)⟩

/-! ### spec_l1Cur_piece: function 90 -/
def spec_l1Cur_piece.j0 : Nat → List Int → Int → Int → Int → Int → Int → Option (Int × Int × Int × Int × Int)
 | 0, _, _, _, _, _, _ => none
 | k + 1, x1000, x1001, x1002, x268000, x268001, x268002 => (spec_l1Cur_pick.f x1000 x1001 x1002 24).bind fun bt279 => (if bt279.1 = 0 then ((spec_l1Cur_among.f x1000 bt279.2.1 bt279.2.2 (([(-1), 10001] : List Int))).bind fun bt285 => (some (bt285.1, x268001, x268002, bt285.2.1, bt285.2.2))) else (if bt279.1 = 1 then ((spec_l1Cur_among.f x1000 bt279.2.1 bt279.2.2 (([(-1), wrap64 (1000 * x268000), wrap64 ((wrap64 (1000 * x268000)) + 1)] : List Int))).bind fun bt291 => (some (x268000, bt291.1, x268002, bt291.2.1, bt291.2.2))) else (if bt279.1 = 2 then ((spec_l1Cur_among.f x1000 bt279.2.1 bt279.2.2 (([(-1), 4, 5] : List Int))).bind fun bt297 => (some (x268000, x268001, bt297.1, bt297.2.1, bt297.2.2))) else (some (x268000, x268001, x268002, bt279.2.1, bt279.2.2)))))
def spec_l1Cur_piece.f (k : Nat) (s0_0 : List Int) (s0_1 : Int) (s0_2 : Int) : Option (Int × Int × Int × Int × Int) := (spec_l1Cur_among.f s0_0 s0_1 s0_2 (([0, 1, 100, 500, 2500, 10000] : List Int))).bind fun bt261 => ((spec_l1Cur_pick.f s0_0 bt261.2.1 bt261.2.2 5).bind fun bt264 => ((spec_l1Cur_pick.f s0_0 bt264.2.1 bt264.2.2 60).bind fun bt268 => ((spec_l1Cur_one.f s0_0 bt268.2.1 bt268.2.2 2).bind fun bt271 => (if bt271.1 = true then ((spec_l1Least.f 60000 (wrap64 ((wrap64 (1000 * bt261.1)) + 1))).bind fun t274 => ((spec_l1Most.f 1 t274).bind fun t275 => ((spec_l1Cur_pick.f s0_0 bt271.2.1 bt271.2.2 t275).bind fun bt276 => (spec_l1Cur_piece.j0 k s0_0 bt276.2.1 bt276.2.2 bt261.1 bt276.1 bt264.1)))) else (spec_l1Cur_piece.j0 k s0_0 bt271.2.1 bt271.2.2 bt261.1 (wrap64 (bt261.1 * bt268.1)) bt264.1)))))
set_option maxHeartbeats 8000000 in
set_option maxRecDepth 100000 in
theorem spec_l1Cur_piece.calls (k : Nat) (g : Nat) (s0_0 : List Int) (s0_1 : Int) (s0_2 : Int) (r1 : Int) (r2 : Int) (r3 : Int) (r4 : Int) (r5 : Int) (w0 w : World) (hI : IsS106 w0 w g s0_0 s0_1 s0_2) (hB : Below w0.heap.size w0 w) (h : spec_l1Cur_piece.f k s0_0 s0_1 s0_2 = some (r1, r2, r3, r4, r5)) :
  Calls Try.prog 90 #[.pointer (some ⟨g, 0, none⟩)] w fun e w' => e = .returned (.agg #[.int .i64 r1, .int .i64 r2, .int .i64 r3]) ∧ IsS106 w0 w' g s0_0 r4 r5 ∧ Below w0.heap.size w0 w' ∧ KeepBut w w' g none := by
 have hu29 := Try.underlying29
 have HI0 := Aside0.mk hI
 have HK := Aside0.mk (KeepBut.refl w g none)
 have HL := Aside0.mk hB.size
 clear hI
 have HW0 := Aside0.mk hB.size
 have HB := Aside0.mk hB
 clear hB
 have H : ((spec_l1Cur_among.f s0_0 s0_1 s0_2 (([0, 1, 100, 500, 2500, 10000] : List Int))).bind fun bt261 => ((spec_l1Cur_pick.f s0_0 bt261.2.1 bt261.2.2 5).bind fun bt264 => ((spec_l1Cur_pick.f s0_0 bt264.2.1 bt264.2.2 60).bind fun bt268 => ((spec_l1Cur_one.f s0_0 bt268.2.1 bt268.2.2 2).bind fun bt271 => (if bt271.1 = true then ((spec_l1Least.f 60000 (wrap64 ((wrap64 (1000 * bt261.1)) + 1))).bind fun t274 => ((spec_l1Most.f 1 t274).bind fun t275 => ((spec_l1Cur_pick.f s0_0 bt271.2.1 bt271.2.2 t275).bind fun bt276 => (spec_l1Cur_piece.j0 k s0_0 bt276.2.1 bt276.2.2 bt261.1 bt276.1 bt264.1)))) else (spec_l1Cur_piece.j0 k s0_0 bt271.2.1 bt271.2.2 bt261.1 (wrap64 (bt261.1 * bt268.1)) bt264.1)))))) = some (r1, r2, r3, r4, r5) := h
 clear h
 obtain ⟨y258, hy258⟩ : ∃ y_ : List Int, y_ = (([0, 1, 100, 500, 2500, 10000] : List Int)) := ⟨_, rfl⟩
 replace H : ((spec_l1Cur_among.f s0_0 s0_1 s0_2 y258).bind fun bt261 => ((spec_l1Cur_pick.f s0_0 bt261.2.1 bt261.2.2 5).bind fun bt264 => ((spec_l1Cur_pick.f s0_0 bt264.2.1 bt264.2.2 60).bind fun bt268 => ((spec_l1Cur_one.f s0_0 bt268.2.1 bt268.2.2 2).bind fun bt271 => (if bt271.1 = true then ((spec_l1Least.f 60000 (wrap64 ((wrap64 (1000 * bt261.1)) + 1))).bind fun t274 => ((spec_l1Most.f 1 t274).bind fun t275 => ((spec_l1Cur_pick.f s0_0 bt271.2.1 bt271.2.2 t275).bind fun bt276 => (spec_l1Cur_piece.j0 k s0_0 bt276.2.1 bt276.2.2 bt261.1 bt276.1 bt264.1)))) else (spec_l1Cur_piece.j0 k s0_0 bt271.2.1 bt271.2.2 bt261.1 (wrap64 (bt261.1 * bt268.1)) bt264.1)))))) = some (r1, r2, r3, r4, r5) := by first | (rw [hy258]; with_reducible exact H) | (have H2_ := (Option.bind_some _ _).symm.trans H; rw [hy258]; with_reducible exact H2_) | (have H2_ := (Option.bind_some _ _).symm.trans H; with_reducible exact H2_) | with_reducible exact H | (rw [hy258]; exact H) | exact H
 have Ny258 := Aside0.mk hy258
 clear hy258
 replace H := Option.bind_eq_some_iff.mp H
 obtain ⟨⟨t261, t262, t263⟩, A20, H⟩ := H
 try dsimp only at H
 have A2 := Aside0.mk A20
 clear A20
 replace H := Option.bind_eq_some_iff.mp H
 obtain ⟨⟨t264, t265, t266⟩, A30, H⟩ := H
 try dsimp only at H
 have A3 := Aside0.mk A30
 clear A30
 replace H := Option.bind_eq_some_iff.mp H
 obtain ⟨⟨t268, t269, t270⟩, A40, H⟩ := H
 try dsimp only at H
 have A4 := Aside0.mk A40
 clear A40
 replace H := Option.bind_eq_some_iff.mp H
 obtain ⟨⟨t271, t272, t273⟩, A50, H⟩ := H
 try dsimp only at H
 have A5 := Aside0.mk A50
 clear A50
 have HC6 := Aside0.mk H
 clear H
 go_enter Try.func90, Try.ntmps90
 try go_wp2_with (first | ((with_reducible refine gate_dst (N := 2) rfl ?_); refine box_event ?hg (N := 2) ?hd (cs := #[.int .i64 0, .int .i64 0, .int .i64 0]) (t := 29) ?hr ?_; (case hd => rfl); (case hg => rfl); (case hr => first | (go_simp; done) | (go_simp; rfl)); intro gb257 hg w7 hbox hb; have BK257 := Aside0.mk (hbox); have GW257 := Aside0.mk ((by rw [hg]; exact (keep_size (hk_ HK)) : w.heap.size ≤ gb257)); have GE257 := Aside0.mk ((Nat.le_trans HW0.out (by rw [hg]; exact (keep_size (hk_ HK)) : w.heap.size ≤ gb257) : w0.heap.size ≤ gb257)); have NB0_257 := Aside0.mk ((by rw [hg]; exact Nat.ne_of_lt (IsS106.lt (show IsS106 w0 _ g s0_0 s0_1 s0_2 from IsS106.q HI0)) : g ≠ gb257)); have NB257_0 := Aside0.mk ((by rw [hg]; exact Nat.ne_of_gt (IsS106.lt (show IsS106 w0 _ g s0_0 s0_1 s0_2 from IsS106.q HI0)) : gb257 ≠ g)); replace HK := hkb_ HK hb; replace HB := Aside0.mk (below_step (hbI_ HB (IsS106.ge HI0.out)) hb); replace HI0 := IsS106.b HI0 hb; clear hb hbox hg) | ((with_reducible refine gate_dst (N := 5) rfl ?_); refine Kd.R_lit (Kd.int .i64) _ 3 ?hg (N := 5) ?hd (xs := ([0, 1, 100, 500, 2500, 10000] : List Int)) (inner := [.int .i64 0, .int .i64 1, .int .i64 100, .int .i64 500, .int .i64 2500, .int .i64 10000]) (ok := fun _ => True) (okp := fun _ => True) ?hr ?hp (fun _ hk => hk) trivial (Below.refl _ _) (Nat.le_refl _) (by simp) ?_; (case hd => rfl); (case hg => rfl); (case hr => first | (go_simp; done) | (go_simp; rfl)); (case hp => exact (Reps.one (show Kd.M (Kd.int .i64) _ _ _ 0 [.int .i64 0] from rfl) (Reps.one (show Kd.M (Kd.int .i64) _ _ _ 1 [.int .i64 1] from rfl) (Reps.one (show Kd.M (Kd.int .i64) _ _ _ 100 [.int .i64 100] from rfl) (Reps.one (show Kd.M (Kd.int .i64) _ _ _ 500 [.int .i64 500] from rfl) (Reps.one (show Kd.M (Kd.int .i64) _ _ _ 2500 [.int .i64 2500] from rfl) (Reps.one (show Kd.M (Kd.int .i64) _ _ _ 10000 [.int .i64 10000] from rfl) (Reps.none _ _)))))))); intro v259 w8 ho9 hb hg_ hnew_; clear hg_ hnew_; (first | rw [← Ny258.out] at ho9 | (simp only [Int.reduceToNat] at ho9; rw [← Ny258.out] at ho9)); have HO260 := Aside0.mk (Kd.R_lower ho9 (keep_size (hk_ HK))); replace BK257 := kb_ BK257 hb; replace HK := hkb_ HK hb; replace HB := Aside0.mk (below_step (hbI_ HB (IsS106.ge HI0.out)) hb); replace HI0 := IsS106.b HI0 hb; clear hb ho9; obtain ⟨Ao10, co10, eo10⟩ := Kd.R_slice HO260.out; subst eo10) | ((with_reducible refine gate_callee (f := 89) rfl ?_); refine gl_ (some 6) Try.func89 #[.pointer (some ⟨g, 0, none⟩), .slice Ao10 y258.length co10] rfl rfl rfl ?_; (with_reducible refine (spec_l1Cur_among.calls g s0_0 s0_1 s0_2 _ _ y258 t261 t262 t263 w0 _ ?side1 ?side2 ?side3 ?side4 ?side5 A2.out).mono ?_); (case side1 => exact IsS106.q HI0); (case side2 => exact hbI_ HB (IsS106.ge HI0.out)); (case side3 => exact Kd.C_o HO260); (case side4 => exact (Kd.R_reads' HO260.out).2.1); (case side5 => exact far_slice (IsS106.own_ne HI0.out HO260.out (by decide))); rintro e w11 ⟨rfl, hi, hb, hk⟩; refine ⟨_, rfl, ?_⟩; have n0_ := Aside0.mk (KeepBut.blk hk (kp_ BK257) NB257_0.out (by simp)); have n1_ := IsS106.rk HI0 HO260 hk; have n2_ := Aside0.mk (KeepBut.trans (hk_ HK) hk (.inl rfl)); have n3_ := Aside0.mk (hb); have n4_ := Aside0.mk (hi); clear BK257 HO260 HK HB HI0; have BK257 := n0_; have HO260 := n1_; have HK := n2_; have HB := n3_; have HI0 := n4_; clear n0_ n1_ n2_ n3_ n4_; (try clear hb); (try clear hb2); (try clear hk); (try clear hi); try clear HO260) | ((with_reducible refine gate_callee (f := 87) rfl ?_); refine gl_ (some 8) Try.func87 #[.pointer (some ⟨g, 0, none⟩), .int .i64 5] rfl rfl rfl ?_; (with_reducible refine (spec_l1Cur_pick.calls g s0_0 t262 t263 5 t264 t265 t266 w0 _ ?side1 ?side2 A3.out).mono ?_); (case side1 => exact IsS106.q HI0); (case side2 => exact hbI_ HB (IsS106.ge HI0.out)); rintro e w12 ⟨rfl, hi, hb, hk⟩; refine ⟨_, rfl, ?_⟩; replace BK257 := kk_ BK257 hk NB257_0; replace HK := Aside0.mk (KeepBut.trans (hk_ HK) hk (.inl rfl)); replace HB := Aside0.mk (hb); replace HI0 := Aside0.mk (hi); (try clear hb); (try clear hb2); (try clear hk); (try clear hi)) | ((with_reducible refine gate_dst (N := 3) rfl ?_); refine box_event ?hg (N := 3) ?hd (cs := #[.int .i64 0, .int .i64 0, .int .i64 0]) (t := 29) ?hr ?_; (case hd => rfl); (case hg => rfl); (case hr => first | (go_simp; done) | (go_simp; rfl)); intro gb267 hg w13 hbox hb; have BK267 := Aside0.mk (hbox); have GW267 := Aside0.mk ((by rw [hg]; exact (keep_size (hk_ HK)) : w.heap.size ≤ gb267)); have GE267 := Aside0.mk ((Nat.le_trans HW0.out (by rw [hg]; exact (keep_size (hk_ HK)) : w.heap.size ≤ gb267) : w0.heap.size ≤ gb267)); have NB257_267 := nl_ hg BK257; have NB267_257 := ng_ hg BK257; have NB0_267 := Aside0.mk ((by rw [hg]; exact Nat.ne_of_lt (IsS106.lt (show IsS106 w0 _ g s0_0 t265 t266 from IsS106.q HI0)) : g ≠ gb267)); have NB267_0 := Aside0.mk ((by rw [hg]; exact Nat.ne_of_gt (IsS106.lt (show IsS106 w0 _ g s0_0 t265 t266 from IsS106.q HI0)) : gb267 ≠ g)); replace BK257 := kb_ BK257 hb; replace HK := hkb_ HK hb; replace HB := Aside0.mk (below_step (hbI_ HB (IsS106.ge HI0.out)) hb); replace HI0 := IsS106.b HI0 hb; clear hb hbox hg; have hnb14 := NB267_257.out; have hnc14 := NB257_267.out; have hnb15 := NB267_0.out; have hnc15 := NB0_267.out; obtain ⟨hcz16_0, hcz16_1, hcz16_2, hfz16_0, hfz16_1, hfz16_2⟩ := bx3 BK267))
 have n0_ : Aside0 ((((w13.setCell ⟨gb267, 0, none⟩ (.int .i64 t261)).setCell ⟨gb267, 1, none⟩ (.int .i64 0)).setCell ⟨gb267, 2, none⟩ (.int .i64 t264)).heap[gb257]? = some (.cells #[.int .i64 0, .int .i64 0, .int .i64 0] 29 (0, 0))) := ⟨kf_ BK257 NB257_267⟩
 have n1_ : Aside0 ((((w13.setCell ⟨gb267, 0, none⟩ (.int .i64 t261)).setCell ⟨gb267, 1, none⟩ (.int .i64 0)).setCell ⟨gb267, 2, none⟩ (.int .i64 t264)).heap[gb267]? = some (.cells #[.int .i64 t261, .int .i64 0, .int .i64 t264] 29 (0, 0))) := ⟨kpq_ (kputs BK267 [(0, _), (1, _), (2, _)])⟩
 have n2_ : Aside0 (IsS106 w0 (((w13.setCell ⟨gb267, 0, none⟩ (.int .i64 t261)).setCell ⟨gb267, 1, none⟩ (.int .i64 0)).setCell ⟨gb267, 2, none⟩ (.int .i64 t264)) g s0_0 t265 t266) := ⟨IsS106.q HI0⟩
 have n3_ : Aside0 (KeepBut w (((w13.setCell ⟨gb267, 0, none⟩ (.int .i64 t261)).setCell ⟨gb267, 1, none⟩ (.int .i64 0)).setCell ⟨gb267, 2, none⟩ (.int .i64 t264)) g none) := ⟨hk_ HK⟩
 have n4_ : Aside0 (Below w0.heap.size w0 (((w13.setCell ⟨gb267, 0, none⟩ (.int .i64 t261)).setCell ⟨gb267, 1, none⟩ (.int .i64 0)).setCell ⟨gb267, 2, none⟩ (.int .i64 t264))) := ⟨hbI_ HB (IsS106.ge HI0.out)⟩
 (try clear BK257)
 (try clear BK267)
 (try clear HI0)
 (try clear HK)
 (try clear HB)
 generalize (((w13.setCell ⟨gb267, 0, none⟩ (.int .i64 t261)).setCell ⟨gb267, 1, none⟩ (.int .i64 0)).setCell ⟨gb267, 2, none⟩ (.int .i64 t264)) = w17 at n0_ n1_ n2_ n3_ n4_ ⊢
 have BK257 := n0_
 have BK267 := n1_
 have HI0 := n2_
 have HK := n3_
 have HB := n4_
 clear n0_ n1_ n2_ n3_ n4_
 have n0_ := Aside0.mk (blk_drew BK257.out)
 have n1_ := Aside0.mk (blk_drew BK267.out)
 have n2_ := Aside0.mk (IsS106.drew HI0.out)
 have n3_ := Aside0.mk (keep_drew HK.out)
 have n4_ := Aside0.mk (below_drew1 HB.out)
 clear BK257
 clear BK267
 clear HI0
 clear HK
 clear HB
 have BK257 := n0_
 have BK267 := n1_
 have HI0 := n2_
 have HK := n3_
 have HB := n4_
 clear n0_ n1_ n2_ n3_ n4_
 refine start_ (n := 7) (S := fun w' => w'.cell? ⟨gb267, 0, none⟩ = some (.int .i64 t261) ∧ w'.cell? ⟨gb267, 1, none⟩ = some (.int .i64 0) ∧ w'.cell? ⟨gb267, 2, none⟩ = some (.int .i64 t264)) (ds := [6]) (bb 7 0) (by kernel_rfl) rfl rfl ⟨(blk_cell BK267.out 0).trans rfl, (blk_cell BK267.out 1).trans rfl, (blk_cell BK267.out 2).trans rfl⟩ (fun hHeld => ?_)
 generalize w17.drew = w18 at BK257 BK267 HI0 HK HB hHeld ⊢
 refine pure_ (i := 0) (N := some 10) (v := ?_) (a' := ?_) (bb 7 1) rfl rfl (by kernel_rfl) (fun _ _ _ h => h) (Or.inl ⟨by rfl, ?_⟩) ?_ ?_
 rotate_left
 ·intro w'
  go_simp
  with_reducible rfl
 rotate_left
 ·simp only [Act.put, List.setIfInBounds_toArray, List.set_cons_zero, List.set_cons_succ, i64_w, i32_w]
  rfl
 refine pure_ (i := 2) (N := some 12) (v := ?_) (a' := ?_) (bb 7 5) rfl rfl (by kernel_rfl) (fun _ _ _ h => h) (Or.inl ⟨by rfl, ?_⟩) ?_ ?_
 rotate_left
 ·intro w'
  go_simp
  with_reducible rfl
 rotate_left
 ·simp only [Act.put, List.setIfInBounds_toArray, List.set_cons_zero, List.set_cons_succ, i64_w, i32_w]
  rfl
 refine take_ (i := 1) (N := some 11) (v := ?_) (a' := ?_) (bb 7 7) rfl rfl (by kernel_rfl) (fun _ _ _ h => h) (Or.inl ⟨by rfl, ?_⟩) hHeld ?_ ?_
 rotate_left
 ·rintro w' ⟨s0, s1, s2⟩
  go_simp
  with_reducible rfl
 rotate_left
 ·simp only [Act.put, List.setIfInBounds_toArray, List.set_cons_zero, List.set_cons_succ, i64_w, i32_w]
  rfl
 refine one_ (i := 3) (N := some 13) (bb 7 15) rfl rfl (by kernel_rfl) (by decide) (fun K hK => ?_)
 refine goes_ Try.func87 (by kernel_rfl) rfl #[.pointer (some ⟨g, 0, none⟩), .int .i64 60] (by rfl) rfl rfl (by (try simp only [List.map_toArray, List.map_cons, List.map_nil]); first | done | rfl | (simp only [List.length_drop, List.length_take]; rfl)) ?_
 with_reducible refine (spec_l1Cur_pick.calls g s0_0 t265 t266 60 t268 t269 t270 w0 _ ?side1 ?side2 A4.out).mono ?_
 (case side1 => exact IsS106.q HI0)
 (case side2 => exact hbI_ HB (IsS106.ge HI0.out))
 rintro e w19 ⟨rfl, hi, hb, hk⟩
 refine ⟨_, rfl, ?_⟩
 have n0_ := Aside0.mk (KeepBut.blk hk (kp_ BK257) NB257_0.out (by simp))
 have n1_ := Aside0.mk (KeepBut.blk hk (kp_ BK267) NB267_0.out (by simp))
 have n2_ := Aside0.mk (KeepBut.trans (hk_ HK) hk (.inl rfl))
 have n3_ := Aside0.mk (hb)
 have n4_ := Aside0.mk (hi)
 clear BK257
 clear BK267
 clear HK
 clear HB
 clear HI0
 have BK257 := n0_
 have BK267 := n1_
 have HK := n2_
 have HB := n3_
 have HI0 := n4_
 clear n0_ n1_ n2_ n3_ n4_
 (try clear hb)
 (try clear hb2)
 (try clear hk)
 (try clear hi)
 refine hK.out _ _ ⟨(blk_cell BK267.out 0).trans rfl, (blk_cell BK267.out 1).trans rfl, (blk_cell BK267.out 2).trans rfl⟩ (fun hHeld => ?_)
 clear hK K
 refine norm_ (a' := ?_) ?_ ?_
 rotate_left
 ·show Act.put _ (some 13) _ = _
  simp only [Act.put, List.setIfInBounds_toArray, List.set_cons_zero, List.set_cons_succ, i64_w, i32_w]
  rfl
 refine pure_ (i := 4) (N := some 14) (v := ?_) (a' := ?_) (bb 7 31) rfl rfl (by kernel_rfl) (fun _ _ _ h => h) (Or.inl ⟨by rfl, ?_⟩) ?_ ?_
 rotate_left
 ·intro w'
  go_simp
  with_reducible rfl
 rotate_left
 ·simp only [Act.put, List.setIfInBounds_toArray, List.set_cons_zero, List.set_cons_succ, i64_w, i32_w]
  rfl
 refine pure_ (i := 5) (N := some 15) (v := ?_) (a' := ?_) (bb 7 63) rfl rfl (by kernel_rfl) (fun _ _ _ h => h) (Or.inl ⟨by rfl, ?_⟩) ?_ ?_
 rotate_left
 ·intro w'
  go_simp
  with_reducible rfl
 rotate_left
 ·simp only [Act.put, List.setIfInBounds_toArray, List.set_cons_zero, List.set_cons_succ, i64_w, i32_w]
  rfl
 refine last_ (i := 6) (N := none) (bb 7 127) rfl rfl (by kernel_rfl) (by decide) (fun K hK => ?_)
 have hs20 : w19.cell? ⟨gb267, 1, none⟩ = some (.int .i64 0) := (blk_cell BK267.out 1).trans rfl
 have hfs20 := blk_frozen BK267.out 1
 have hns20_0 := NB257_267.out
 have hms20_0 := NB267_257.out
 refine skip_ (w1 := ?_) (by rfl) rfl ?_ ?_
 rotate_left
 ·go_simp
  rfl
 refine hK.out _ _ ?_
 clear hK K
 refine done_ (by kernel_rfl) ?_
 go_upto_if 17 with (first | ((with_reducible refine gate_callee (f := 88) rfl ?_); refine gl_ (some 17) Try.func88 #[.pointer (some ⟨g, 0, none⟩), .int .i64 2] rfl rfl rfl ?_; (with_reducible refine (spec_l1Cur_one.calls g s0_0 t269 t270 2 t271 t272 t273 w0 _ ?side1 ?side2 A5.out).mono ?_); (case side1 => exact IsS106.q HI0); (case side2 => exact hbI_ HB (IsS106.ge HI0.out)); rintro e w21 ⟨rfl, hi, hb, hk⟩; refine ⟨_, rfl, ?_⟩; replace BK257 := Aside0.mk (KeepBut.blk hk (g' := gb257) (o := .cells #[.int .i64 0, .int .i64 0, .int .i64 0] 29 (0, 0)) (kf_ BK257 NB257_267) NB257_0.out (by simp)); replace BK267 := Aside0.mk (KeepBut.blk hk (g' := gb267) (o := .cells #[.int .i64 t261, .int .i64 (wrap64 (t261 * t268)), .int .i64 t264] 29 (0, 0)) (kpq_ (kputs BK267 [(1, _)])) NB267_0.out (by simp)); replace HK := Aside0.mk (KeepBut.trans (hk_ HK) hk (.inl rfl)); replace HB := Aside0.mk (hb); replace HI0 := Aside0.mk (hi); (try clear hb); (try clear hb2); (try clear hk); (try clear hi)))
 (try simp only [Act.put, List.setIfInBounds_toArray, List.set_cons_zero, List.set_cons_succ])
 go_cut [] (fun wc => ∃ (kq : Nat) (x1001_5 : Int) (x1002_5 : Int) (x268001_5 : Int), Aside0 (spec_l1Cur_piece.j0 kq s0_0 x1001_5 x1002_5 t261 x268001_5 t264 = some (r1, r2, r3, r4, r5)) ∧ Aside0 (kq ≤ k) ∧ Aside0 (wc.heap[gb257]? = some (.cells #[.int .i64 0, .int .i64 0, .int .i64 0] 29 (0, 0))) ∧ Aside0 (wc.heap[gb267]? = some (.cells #[.int .i64 t261, .int .i64 x268001_5, .int .i64 t264] 29 (0, 0))) ∧ Aside0 (IsS106 w0 wc g s0_0 x1001_5 x1002_5) ∧ Aside0 (KeepBut w wc g none) ∧ Aside0 (Below w0.heap.size w0 wc))
 case first =>
  have H := HC6.out
  clear HC6
  by_cases c22 : t271 = true
  ·subst c22
   rw [if_pos rfl] at H
   replace H := Option.bind_eq_some_iff.mp H
   obtain ⟨t274, A230, H⟩ := H
   try dsimp only at H
   have A23 := Aside0.mk A230
   clear A230
   replace H := Option.bind_eq_some_iff.mp H
   obtain ⟨t275, A240, H⟩ := H
   try dsimp only at H
   have A24 := Aside0.mk A240
   clear A240
   replace H := Option.bind_eq_some_iff.mp H
   obtain ⟨⟨t276, t277, t278⟩, A250, H⟩ := H
   try dsimp only at H
   have A25 := Aside0.mk A250
   clear A250
   have H' := Aside0.mk H
   clear H
   have hnb26 := NB267_257.out
   have hnc26 := NB257_267.out
   have hnb27 := NB267_0.out
   have hnc27 := NB0_267.out
   have hcz28_0 : w21.cell? ⟨gb267, 0, none⟩ = some (.int .i64 t261) := (blk_cell BK267.out 0).trans rfl
   have hcz28_1 : w21.cell? ⟨gb267, 1, none⟩ = some (.int .i64 (wrap64 (t261 * t268))) := (blk_cell BK267.out 1).trans rfl
   have hcz28_2 : w21.cell? ⟨gb267, 2, none⟩ = some (.int .i64 t264) := (blk_cell BK267.out 2).trans rfl
   have hfz28_0 := blk_frozen BK267.out 0
   have hfz28_1 := blk_frozen BK267.out 1
   have hfz28_2 := blk_frozen BK267.out 2
   go_wp2_with (first | ((with_reducible refine gate_callee (f := 95) rfl ?_); refine gl_ (some 23) Try.func95 #[.int .i64 60000, .int .i64 (wrap64 ((wrap64 (1000 * t261)) + 1))] rfl rfl rfl ?_; (with_reducible refine (spec_l1Least.calls 60000 (wrap64 ((wrap64 (1000 * t261)) + 1)) t274 _ A23.out).mono ?_); rintro e w' ⟨rfl, ⟨nd, rfl⟩⟩; refine ⟨_, rfl, ?_⟩; (try (rw [drewN_self w21]; generalize hq_ : World.drewN w21 _ = w21; have n0_ : Aside0 (w21.heap[gb257]? = some (.cells #[.int .i64 0, .int .i64 0, .int .i64 0] 29 (0, 0))) := ⟨by rw [← hq_]; exact (kp_ BK257)⟩; have n1_ : Aside0 (w21.heap[gb267]? = some (.cells #[.int .i64 t261, .int .i64 (wrap64 (t261 * t268)), .int .i64 t264] 29 (0, 0))) := ⟨by rw [← hq_]; exact (kp_ BK267)⟩; have n2_ : Aside0 (IsS106 w0 w21 g s0_0 t272 t273) := ⟨by rw [← hq_]; exact (IsS106.q HI0)⟩; have n3_ : Aside0 (KeepBut w w21 g none) := ⟨by rw [← hq_]; exact (hk_ HK)⟩; have n4_ : Aside0 (Below w0.heap.size w0 w21) := ⟨by rw [← hq_]; exact (hbI_ HB (IsS106.ge HI0.out))⟩; clear BK257 BK267 HI0 HK HB hq_; have BK257 := n0_; have BK267 := n1_; have HI0 := n2_; have HK := n3_; have HB := n4_; clear n0_ n1_ n2_ n3_ n4_))) | ((with_reducible refine gate_callee (f := 118) rfl ?_); refine gl_ (some 24) Try.func118 #[.int .i64 1, .int .i64 t274] rfl rfl rfl ?_; (with_reducible refine (spec_l1Most.calls 1 t274 t275 _ A24.out).mono ?_); rintro e w' ⟨rfl, ⟨nd, rfl⟩⟩; refine ⟨_, rfl, ?_⟩; (try (rw [drewN_self w21]; generalize hq_ : World.drewN w21 _ = w21; have n0_ : Aside0 (w21.heap[gb257]? = some (.cells #[.int .i64 0, .int .i64 0, .int .i64 0] 29 (0, 0))) := ⟨by rw [← hq_]; exact (kp_ BK257)⟩; have n1_ : Aside0 (w21.heap[gb267]? = some (.cells #[.int .i64 t261, .int .i64 (wrap64 (t261 * t268)), .int .i64 t264] 29 (0, 0))) := ⟨by rw [← hq_]; exact (kp_ BK267)⟩; have n2_ : Aside0 (IsS106 w0 w21 g s0_0 t272 t273) := ⟨by rw [← hq_]; exact (IsS106.q HI0)⟩; have n3_ : Aside0 (KeepBut w w21 g none) := ⟨by rw [← hq_]; exact (hk_ HK)⟩; have n4_ : Aside0 (Below w0.heap.size w0 w21) := ⟨by rw [← hq_]; exact (hbI_ HB (IsS106.ge HI0.out))⟩; clear BK257 BK267 HI0 HK HB hq_; have BK257 := n0_; have BK267 := n1_; have HI0 := n2_; have HK := n3_; have HB := n4_; clear n0_ n1_ n2_ n3_ n4_))) | ((with_reducible refine gate_callee (f := 87) rfl ?_); refine gl_ (some 25) Try.func87 #[.pointer (some ⟨g, 0, none⟩), .int .i64 t275] rfl rfl rfl ?_; (with_reducible refine (spec_l1Cur_pick.calls g s0_0 t272 t273 t275 t276 t277 t278 w0 _ ?side1 ?side2 A25.out).mono ?_); (case side1 => exact IsS106.q HI0); (case side2 => exact hbI_ HB (IsS106.ge HI0.out)); rintro e w29 ⟨rfl, hi, hb, hk⟩; refine ⟨_, rfl, ?_⟩; replace BK257 := kk_ BK257 hk NB257_0; replace BK267 := kk_ BK267 hk NB267_0; replace HK := Aside0.mk (KeepBut.trans (hk_ HK) hk (.inl rfl)); replace HB := Aside0.mk (hb); replace HI0 := Aside0.mk (hi); (try clear hb); (try clear hb2); (try clear hk); (try clear hi); obtain ⟨hcz30_0, hcz30_1, hcz30_2, hfz30_0, hfz30_1, hfz30_2⟩ := bx3 BK267))
   go_meet
   case rel => exact ⟨_, (t277), (t278), (t276), H', ⟨by first | omega | exact Nat.le_refl _⟩, ⟨kf_ BK257 NB257_267⟩, ⟨kpq_ (kputs BK267 [(1, _)])⟩, ⟨IsS106.q HI0⟩, ⟨hk_ HK⟩, ⟨hbI_ HB (IsS106.ge HI0.out)⟩⟩
  ·replace c22 := Bool.eq_false_iff.mpr c22
   subst c22
   rw [if_neg (show ¬ (false = true) by decide)] at H
   have H' := Aside0.mk H
   clear H
   go_wp2
   go_meet
   case rel => exact ⟨_, (t272), (t273), (wrap64 (t261 * t268)), H', ⟨by first | omega | exact Nat.le_refl _⟩, ⟨kp_ BK257⟩, ⟨kp_ BK267⟩, ⟨IsS106.q HI0⟩, ⟨hk_ HK⟩, ⟨hbI_ HB (IsS106.ge HI0.out)⟩⟩
 case rest =>
  clear HC6
  (try clear c1); (try clear c2); (try clear p2); (try clear p6); (try clear c8); (try clear c9); (try clear c11); (try clear c14); (try clear c15); (try clear c22); (try clear c26); (try clear c27); (try clear hcz16_0); (try clear hcz16_1); (try clear hcz16_2); (try clear hfz16_0); (try clear hfz16_1); (try clear hfz16_2)
  obtain ⟨kq, x1001_5, x1002_5, x268001_5, HA, HJ5, BK257, BK267, HI0, HK, HB⟩ := hcut
  cases kq with
  | zero => exact absurd HA.out (by simp [spec_l1Cur_piece.j0])
  | succ kj5 =>
   have H := HA.out
   clear HA
   simp only [spec_l1Cur_piece.j0] at H
   replace H := Option.bind_eq_some_iff.mp H
   obtain ⟨⟨t279, t280, t281⟩, A310, H⟩ := H
   try dsimp only at H
   have A31 := Aside0.mk A310
   clear A310
   by_cases c32 : t279 = 0
   ·rw [if_pos c32] at H
    have c32b0 : (t279 == 0) = true := beq_iff_eq.mpr c32
    have c32b1 : (t279 != 0) = false := bne_eq_false_iff_eq.mpr c32
    clear c32
    obtain ⟨y282, hy282⟩ : ∃ y_ : List Int, y_ = (([(-1), 10001] : List Int)) := ⟨_, rfl⟩
    replace H : ((spec_l1Cur_among.f s0_0 t280 t281 y282).bind fun bt285 => (some (bt285.1, x268001_5, t264, bt285.2.1, bt285.2.2))) = some (r1, r2, r3, r4, r5) := by first | (rw [hy282]; with_reducible exact H) | (have H2_ := (Option.bind_some _ _).symm.trans H; rw [hy282]; with_reducible exact H2_) | (have H2_ := (Option.bind_some _ _).symm.trans H; with_reducible exact H2_) | with_reducible exact H | (rw [hy282]; exact H) | exact H
    have Ny282 := Aside0.mk hy282
    clear hy282
    replace H := Option.bind_eq_some_iff.mp H
    obtain ⟨⟨t285, t286, t287⟩, A330, H⟩ := H
    try dsimp only at H
    have A33 := Aside0.mk A330
    clear A330
    simp only [Option.some.injEq, Prod.mk.injEq] at H
    obtain ⟨rfl, rfl, rfl, rfl, rfl⟩ := H
    go_wp2_with (first | ((with_reducible refine gate_callee (f := 87) rfl ?_); refine gl_ (some 28) Try.func87 #[.pointer (some ⟨g, 0, none⟩), .int .i64 24] rfl rfl rfl ?_; (with_reducible refine (spec_l1Cur_pick.calls g s0_0 x1001_5 x1002_5 24 t279 t280 t281 w0 _ ?side1 ?side2 A31.out).mono ?_); (case side1 => exact IsS106.q HI0); (case side2 => exact hbI_ HB (IsS106.ge HI0.out)); rintro e w34 ⟨rfl, hi, hb, hk⟩; refine ⟨_, rfl, ?_⟩; replace BK257 := kk_ BK257 hk NB257_0; replace BK267 := kk_ BK267 hk NB267_0; replace HK := Aside0.mk (KeepBut.trans (hk_ HK) hk (.inl rfl)); replace HB := Aside0.mk (hb); replace HI0 := Aside0.mk (hi); (try clear hb); (try clear hb2); (try clear hk); (try clear hi)) | ((with_reducible refine gate_dst (N := 32) rfl ?_); refine Kd.R_lit (Kd.int .i64) _ 3 ?hg (N := 32) ?hd (xs := ([(-1), 10001] : List Int)) (inner := [.int .i64 (-1), .int .i64 10001]) (ok := fun _ => True) (okp := fun _ => True) ?hr ?hp (fun _ hk => hk) trivial (Below.refl _ _) (Nat.le_refl _) (by simp) ?_; (case hd => rfl); (case hg => rfl); (case hr => first | (go_simp; done) | (go_simp; rfl)); (case hp => exact (Reps.one (show Kd.M (Kd.int .i64) _ _ _ (-1) [.int .i64 (-1)] from rfl) (Reps.one (show Kd.M (Kd.int .i64) _ _ _ 10001 [.int .i64 10001] from rfl) (Reps.none _ _)))); intro v283 w35 ho36 hb hg_ hnew_; clear hg_ hnew_; (first | rw [← Ny282.out] at ho36 | (simp only [Int.reduceToNat] at ho36; rw [← Ny282.out] at ho36)); have HO284 := Aside0.mk (Kd.R_lower ho36 (keep_size (hk_ HK))); replace BK257 := kb_ BK257 hb; replace BK267 := kb_ BK267 hb; replace HK := hkb_ HK hb; replace HB := Aside0.mk (below_step (hbI_ HB (IsS106.ge HI0.out)) hb); replace HI0 := IsS106.b HI0 hb; clear hb ho36; obtain ⟨Ao37, co37, eo37⟩ := Kd.R_slice HO284.out; subst eo37) | ((with_reducible refine gate_callee (f := 89) rfl ?_); refine gl_ (some 33) Try.func89 #[.pointer (some ⟨g, 0, none⟩), .slice Ao37 y282.length co37] rfl rfl rfl ?_; (with_reducible refine (spec_l1Cur_among.calls g s0_0 t280 t281 _ _ y282 t285 t286 t287 w0 _ ?side1 ?side2 ?side3 ?side4 ?side5 A33.out).mono ?_); (case side1 => exact IsS106.q HI0); (case side2 => exact hbI_ HB (IsS106.ge HI0.out)); (case side3 => exact Kd.C_o HO284); (case side4 => exact (Kd.R_reads' HO284.out).2.1); (case side5 => exact far_slice (IsS106.own_ne HI0.out HO284.out (by decide))); rintro e w38 ⟨rfl, hi, hb, hk⟩; refine ⟨_, rfl, ?_⟩; have n0_ := Aside0.mk (KeepBut.blk hk (kp_ BK257) NB257_0.out (by simp)); have n1_ := Aside0.mk (KeepBut.blk hk (kp_ BK267) NB267_0.out (by simp)); have n2_ := IsS106.rk HI0 HO284 hk; have n3_ := Aside0.mk (KeepBut.trans (hk_ HK) hk (.inl rfl)); have n4_ := Aside0.mk (hb); have n5_ := Aside0.mk (hi); clear BK257 BK267 HO284 HK HB HI0; have BK257 := n0_; have BK267 := n1_; have HO284 := n2_; have HK := n3_; have HB := n4_; have HI0 := n5_; clear n0_ n1_ n2_ n3_ n4_ n5_; (try clear hb); (try clear hb2); (try clear hk); (try clear hi); have hnb39 := NB267_257.out; have hnc39 := NB257_267.out; have hnb40 := NB267_0.out; have hnc40 := NB0_267.out; obtain ⟨hcz41_0, hcz41_1, hcz41_2, hfz41_0, hfz41_1, hfz41_2⟩ := bx3 BK267; have hnb42 := NB257_0.out; have hnc42 := NB0_257.out; obtain ⟨hcz43_0, hcz43_1, hcz43_2, hfz43_0, hfz43_1, hfz43_2⟩ := bx3 BK257))
    refine bodyPost_ret (results_cell_row rfl _ _ gb257 29 #[.int .i64 t285, .int .i64 x268001_5, .int .i64 t264] (0, 0) _ rfl (by (with_reducible repeat (first | refine blk_drewN ?_ _ | refine blk_drew ?_ | refine blk_alloc ?_ _)); refine blk_put (cs := #[.int .i64 t285, .int .i64 x268001_5, .int .i64 0]) ?_ 2 _ rfl; (with_reducible repeat (first | refine blk_drewN ?_ _ | refine blk_drew ?_ | refine blk_alloc ?_ _)); refine blk_put (cs := #[.int .i64 t285, .int .i64 0, .int .i64 0]) ?_ 1 _ rfl; (with_reducible repeat (first | refine blk_drewN ?_ _ | refine blk_drew ?_ | refine blk_alloc ?_ _)); refine blk_put (cs := #[.int .i64 0, .int .i64 0, .int .i64 0]) ?_ 0 _ rfl; (with_reducible repeat (first | refine blk_drewN ?_ _ | refine blk_drew ?_ | refine blk_alloc ?_ _)); refine blk_far ?_ NB257_267.out _; (with_reducible repeat (first | refine blk_drewN ?_ _ | refine blk_drew ?_ | refine blk_alloc ?_ _)); exact BK257.out) Try.underlying29 rfl (by kernel_rfl)) rfl ?_
    exact ⟨by first | rfl | (simp [errW_none, errW_some] <;> rfl) | (simp [*, errW_none, errW_some] <;> rfl), IsS106.q HI0, hbI_ HB (IsS106.ge HI0.out), hk_ HK⟩
   ·rw [if_neg c32] at H
    have c32b0 : (t279 == 0) = false := beq_eq_false_iff_ne.mpr c32
    have c32b1 : (t279 != 0) = true := bne_iff_ne.mpr c32
    by_cases c44 : t279 = 1
    ·rw [if_pos c44] at H
     have c44b0 : (t279 == 1) = true := beq_iff_eq.mpr c44
     have c44b1 : (t279 != 1) = false := bne_eq_false_iff_eq.mpr c44
     clear c44
     obtain ⟨y288, hy288⟩ : ∃ y_ : List Int, y_ = (([(-1), wrap64 (1000 * t261), wrap64 ((wrap64 (1000 * t261)) + 1)] : List Int)) := ⟨_, rfl⟩
     replace H : ((spec_l1Cur_among.f s0_0 t280 t281 y288).bind fun bt291 => (some (t261, bt291.1, t264, bt291.2.1, bt291.2.2))) = some (r1, r2, r3, r4, r5) := by first | (rw [hy288]; with_reducible exact H) | (have H2_ := (Option.bind_some _ _).symm.trans H; rw [hy288]; with_reducible exact H2_) | (have H2_ := (Option.bind_some _ _).symm.trans H; with_reducible exact H2_) | with_reducible exact H | (rw [hy288]; exact H) | exact H
     have Ny288 := Aside0.mk hy288
     clear hy288
     replace H := Option.bind_eq_some_iff.mp H
     obtain ⟨⟨t291, t292, t293⟩, A450, H⟩ := H
     try dsimp only at H
     have A45 := Aside0.mk A450
     clear A450
     simp only [Option.some.injEq, Prod.mk.injEq] at H
     obtain ⟨rfl, rfl, rfl, rfl, rfl⟩ := H
     go_wp2_with (first | ((with_reducible refine gate_callee (f := 87) rfl ?_); refine gl_ (some 28) Try.func87 #[.pointer (some ⟨g, 0, none⟩), .int .i64 24] rfl rfl rfl ?_; (with_reducible refine (spec_l1Cur_pick.calls g s0_0 x1001_5 x1002_5 24 t279 t280 t281 w0 _ ?side1 ?side2 A31.out).mono ?_); (case side1 => exact IsS106.q HI0); (case side2 => exact hbI_ HB (IsS106.ge HI0.out)); rintro e w46 ⟨rfl, hi, hb, hk⟩; refine ⟨_, rfl, ?_⟩; replace BK257 := kk_ BK257 hk NB257_0; replace BK267 := kk_ BK267 hk NB267_0; replace HK := Aside0.mk (KeepBut.trans (hk_ HK) hk (.inl rfl)); replace HB := Aside0.mk (hb); replace HI0 := Aside0.mk (hi); (try clear hb); (try clear hb2); (try clear hk); (try clear hi); have hnb47 := NB267_257.out; have hnc47 := NB257_267.out; have hnb48 := NB267_0.out; have hnc48 := NB0_267.out; obtain ⟨hcz49_0, hcz49_1, hcz49_2, hfz49_0, hfz49_1, hfz49_2⟩ := bx3 BK267) | ((with_reducible refine gate_dst (N := 45) rfl ?_); refine Kd.R_lit (Kd.int .i64) _ 3 ?hg (N := 45) ?hd (xs := ([(-1), wrap64 (1000 * t261), wrap64 ((wrap64 (1000 * t261)) + 1)] : List Int)) (inner := [.int .i64 (-1), .int .i64 (wrap64 (1000 * t261)), .int .i64 (wrap64 ((wrap64 (1000 * t261)) + 1))]) (ok := fun _ => True) (okp := fun _ => True) ?hr ?hp (fun _ hk => hk) trivial (Below.refl _ _) (Nat.le_refl _) (by simp) ?_; (case hd => rfl); (case hg => rfl); (case hr => first | (go_simp; done) | (go_simp; rfl)); (case hp => exact (Reps.one (show Kd.M (Kd.int .i64) _ _ _ (-1) [.int .i64 (-1)] from rfl) (Reps.one (show Kd.M (Kd.int .i64) _ _ _ (wrap64 (1000 * t261)) [.int .i64 (wrap64 (1000 * t261))] from rfl) (Reps.one (show Kd.M (Kd.int .i64) _ _ _ (wrap64 ((wrap64 (1000 * t261)) + 1)) [.int .i64 (wrap64 ((wrap64 (1000 * t261)) + 1))] from rfl) (Reps.none _ _))))); intro v289 w50 ho51 hb hg_ hnew_; clear hg_ hnew_; (first | rw [← Ny288.out] at ho51 | (simp only [Int.reduceToNat] at ho51; rw [← Ny288.out] at ho51)); have HO290 := Aside0.mk (Kd.R_lower ho51 (keep_size (hk_ HK))); replace BK257 := kb_ BK257 hb; replace BK267 := kb_ BK267 hb; replace HK := hkb_ HK hb; replace HB := Aside0.mk (below_step (hbI_ HB (IsS106.ge HI0.out)) hb); replace HI0 := IsS106.b HI0 hb; clear hb ho51; obtain ⟨Ao52, co52, eo52⟩ := Kd.R_slice HO290.out; subst eo52) | ((with_reducible refine gate_callee (f := 89) rfl ?_); refine gl_ (some 46) Try.func89 #[.pointer (some ⟨g, 0, none⟩), .slice Ao52 y288.length co52] rfl rfl rfl ?_; (with_reducible refine (spec_l1Cur_among.calls g s0_0 t280 t281 _ _ y288 t291 t292 t293 w0 _ ?side1 ?side2 ?side3 ?side4 ?side5 A45.out).mono ?_); (case side1 => exact IsS106.q HI0); (case side2 => exact hbI_ HB (IsS106.ge HI0.out)); (case side3 => exact Kd.C_o HO290); (case side4 => exact (Kd.R_reads' HO290.out).2.1); (case side5 => exact far_slice (IsS106.own_ne HI0.out HO290.out (by decide))); rintro e w53 ⟨rfl, hi, hb, hk⟩; refine ⟨_, rfl, ?_⟩; have n0_ := Aside0.mk (KeepBut.blk hk (kp_ BK257) NB257_0.out (by simp)); have n1_ := Aside0.mk (KeepBut.blk hk (kp_ BK267) NB267_0.out (by simp)); have n2_ := IsS106.rk HI0 HO290 hk; have n3_ := Aside0.mk (KeepBut.trans (hk_ HK) hk (.inl rfl)); have n4_ := Aside0.mk (hb); have n5_ := Aside0.mk (hi); clear BK257 BK267 HO290 HK HB HI0; have BK257 := n0_; have BK267 := n1_; have HO290 := n2_; have HK := n3_; have HB := n4_; have HI0 := n5_; clear n0_ n1_ n2_ n3_ n4_ n5_; (try clear hb); (try clear hb2); (try clear hk); (try clear hi); obtain ⟨hcz54_0, hcz54_1, hcz54_2, hfz54_0, hfz54_1, hfz54_2⟩ := bx3 BK267; have hnb55 := NB257_0.out; have hnc55 := NB0_257.out; obtain ⟨hcz56_0, hcz56_1, hcz56_2, hfz56_0, hfz56_1, hfz56_2⟩ := bx3 BK257))
     refine bodyPost_ret (results_cell_row rfl _ _ gb257 29 #[.int .i64 t261, .int .i64 t291, .int .i64 t264] (0, 0) _ rfl (by (with_reducible repeat (first | refine blk_drewN ?_ _ | refine blk_drew ?_ | refine blk_alloc ?_ _)); refine blk_put (cs := #[.int .i64 t261, .int .i64 t291, .int .i64 0]) ?_ 2 _ rfl; (with_reducible repeat (first | refine blk_drewN ?_ _ | refine blk_drew ?_ | refine blk_alloc ?_ _)); refine blk_put (cs := #[.int .i64 t261, .int .i64 0, .int .i64 0]) ?_ 1 _ rfl; (with_reducible repeat (first | refine blk_drewN ?_ _ | refine blk_drew ?_ | refine blk_alloc ?_ _)); refine blk_put (cs := #[.int .i64 0, .int .i64 0, .int .i64 0]) ?_ 0 _ rfl; (with_reducible repeat (first | refine blk_drewN ?_ _ | refine blk_drew ?_ | refine blk_alloc ?_ _)); refine blk_far ?_ NB257_267.out _; (with_reducible repeat (first | refine blk_drewN ?_ _ | refine blk_drew ?_ | refine blk_alloc ?_ _)); exact BK257.out) Try.underlying29 rfl (by kernel_rfl)) rfl ?_
     exact ⟨by first | rfl | (simp [errW_none, errW_some] <;> rfl) | (simp [*, errW_none, errW_some] <;> rfl), IsS106.q HI0, hbI_ HB (IsS106.ge HI0.out), hk_ HK⟩
    ·rw [if_neg c44] at H
     have c44b0 : (t279 == 1) = false := beq_eq_false_iff_ne.mpr c44
     have c44b1 : (t279 != 1) = true := bne_iff_ne.mpr c44
     by_cases c57 : t279 = 2
     ·rw [if_pos c57] at H
      have c57b0 : (t279 == 2) = true := beq_iff_eq.mpr c57
      have c57b1 : (t279 != 2) = false := bne_eq_false_iff_eq.mpr c57
      clear c57
      obtain ⟨y294, hy294⟩ : ∃ y_ : List Int, y_ = (([(-1), 4, 5] : List Int)) := ⟨_, rfl⟩
      replace H : ((spec_l1Cur_among.f s0_0 t280 t281 y294).bind fun bt297 => (some (t261, x268001_5, bt297.1, bt297.2.1, bt297.2.2))) = some (r1, r2, r3, r4, r5) := by first | (rw [hy294]; with_reducible exact H) | (have H2_ := (Option.bind_some _ _).symm.trans H; rw [hy294]; with_reducible exact H2_) | (have H2_ := (Option.bind_some _ _).symm.trans H; with_reducible exact H2_) | with_reducible exact H | (rw [hy294]; exact H) | exact H
      have Ny294 := Aside0.mk hy294
      clear hy294
      replace H := Option.bind_eq_some_iff.mp H
      obtain ⟨⟨t297, t298, t299⟩, A580, H⟩ := H
      try dsimp only at H
      have A58 := Aside0.mk A580
      clear A580
      simp only [Option.some.injEq, Prod.mk.injEq] at H
      obtain ⟨rfl, rfl, rfl, rfl, rfl⟩ := H
      go_wp2_with (first | ((with_reducible refine gate_callee (f := 87) rfl ?_); refine gl_ (some 28) Try.func87 #[.pointer (some ⟨g, 0, none⟩), .int .i64 24] rfl rfl rfl ?_; (with_reducible refine (spec_l1Cur_pick.calls g s0_0 x1001_5 x1002_5 24 t279 t280 t281 w0 _ ?side1 ?side2 A31.out).mono ?_); (case side1 => exact IsS106.q HI0); (case side2 => exact hbI_ HB (IsS106.ge HI0.out)); rintro e w59 ⟨rfl, hi, hb, hk⟩; refine ⟨_, rfl, ?_⟩; replace BK257 := kk_ BK257 hk NB257_0; replace BK267 := kk_ BK267 hk NB267_0; replace HK := Aside0.mk (KeepBut.trans (hk_ HK) hk (.inl rfl)); replace HB := Aside0.mk (hb); replace HI0 := Aside0.mk (hi); (try clear hb); (try clear hb2); (try clear hk); (try clear hi)) | ((with_reducible refine gate_dst (N := 51) rfl ?_); refine Kd.R_lit (Kd.int .i64) _ 3 ?hg (N := 51) ?hd (xs := ([(-1), 4, 5] : List Int)) (inner := [.int .i64 (-1), .int .i64 4, .int .i64 5]) (ok := fun _ => True) (okp := fun _ => True) ?hr ?hp (fun _ hk => hk) trivial (Below.refl _ _) (Nat.le_refl _) (by simp) ?_; (case hd => rfl); (case hg => rfl); (case hr => first | (go_simp; done) | (go_simp; rfl)); (case hp => exact (Reps.one (show Kd.M (Kd.int .i64) _ _ _ (-1) [.int .i64 (-1)] from rfl) (Reps.one (show Kd.M (Kd.int .i64) _ _ _ 4 [.int .i64 4] from rfl) (Reps.one (show Kd.M (Kd.int .i64) _ _ _ 5 [.int .i64 5] from rfl) (Reps.none _ _))))); intro v295 w60 ho61 hb hg_ hnew_; clear hg_ hnew_; (first | rw [← Ny294.out] at ho61 | (simp only [Int.reduceToNat] at ho61; rw [← Ny294.out] at ho61)); have HO296 := Aside0.mk (Kd.R_lower ho61 (keep_size (hk_ HK))); replace BK257 := kb_ BK257 hb; replace BK267 := kb_ BK267 hb; replace HK := hkb_ HK hb; replace HB := Aside0.mk (below_step (hbI_ HB (IsS106.ge HI0.out)) hb); replace HI0 := IsS106.b HI0 hb; clear hb ho61; obtain ⟨Ao62, co62, eo62⟩ := Kd.R_slice HO296.out; subst eo62) | ((with_reducible refine gate_callee (f := 89) rfl ?_); refine gl_ (some 52) Try.func89 #[.pointer (some ⟨g, 0, none⟩), .slice Ao62 y294.length co62] rfl rfl rfl ?_; (with_reducible refine (spec_l1Cur_among.calls g s0_0 t280 t281 _ _ y294 t297 t298 t299 w0 _ ?side1 ?side2 ?side3 ?side4 ?side5 A58.out).mono ?_); (case side1 => exact IsS106.q HI0); (case side2 => exact hbI_ HB (IsS106.ge HI0.out)); (case side3 => exact Kd.C_o HO296); (case side4 => exact (Kd.R_reads' HO296.out).2.1); (case side5 => exact far_slice (IsS106.own_ne HI0.out HO296.out (by decide))); rintro e w63 ⟨rfl, hi, hb, hk⟩; refine ⟨_, rfl, ?_⟩; have n0_ := Aside0.mk (KeepBut.blk hk (kp_ BK257) NB257_0.out (by simp)); have n1_ := Aside0.mk (KeepBut.blk hk (kp_ BK267) NB267_0.out (by simp)); have n2_ := IsS106.rk HI0 HO296 hk; have n3_ := Aside0.mk (KeepBut.trans (hk_ HK) hk (.inl rfl)); have n4_ := Aside0.mk (hb); have n5_ := Aside0.mk (hi); clear BK257 BK267 HO296 HK HB HI0; have BK257 := n0_; have BK267 := n1_; have HO296 := n2_; have HK := n3_; have HB := n4_; have HI0 := n5_; clear n0_ n1_ n2_ n3_ n4_ n5_; (try clear hb); (try clear hb2); (try clear hk); (try clear hi); have hnb64 := NB267_257.out; have hnc64 := NB257_267.out; have hnb65 := NB267_0.out; have hnc65 := NB0_267.out; obtain ⟨hcz66_0, hcz66_1, hcz66_2, hfz66_0, hfz66_1, hfz66_2⟩ := bx3 BK267; have hnb67 := NB257_0.out; have hnc67 := NB0_257.out; obtain ⟨hcz68_0, hcz68_1, hcz68_2, hfz68_0, hfz68_1, hfz68_2⟩ := bx3 BK257))
      refine bodyPost_ret (results_cell_row rfl _ _ gb257 29 #[.int .i64 t261, .int .i64 x268001_5, .int .i64 t297] (0, 0) _ rfl (by (with_reducible repeat (first | refine blk_drewN ?_ _ | refine blk_drew ?_ | refine blk_alloc ?_ _)); refine blk_put (cs := #[.int .i64 t261, .int .i64 x268001_5, .int .i64 0]) ?_ 2 _ rfl; (with_reducible repeat (first | refine blk_drewN ?_ _ | refine blk_drew ?_ | refine blk_alloc ?_ _)); refine blk_put (cs := #[.int .i64 t261, .int .i64 0, .int .i64 0]) ?_ 1 _ rfl; (with_reducible repeat (first | refine blk_drewN ?_ _ | refine blk_drew ?_ | refine blk_alloc ?_ _)); refine blk_put (cs := #[.int .i64 0, .int .i64 0, .int .i64 0]) ?_ 0 _ rfl; (with_reducible repeat (first | refine blk_drewN ?_ _ | refine blk_drew ?_ | refine blk_alloc ?_ _)); refine blk_far ?_ NB257_267.out _; (with_reducible repeat (first | refine blk_drewN ?_ _ | refine blk_drew ?_ | refine blk_alloc ?_ _)); exact BK257.out) Try.underlying29 rfl (by kernel_rfl)) rfl ?_
      exact ⟨by first | rfl | (simp [errW_none, errW_some] <;> rfl) | (simp [*, errW_none, errW_some] <;> rfl), IsS106.q HI0, hbI_ HB (IsS106.ge HI0.out), hk_ HK⟩
     ·rw [if_neg c57] at H
      have c57b0 : (t279 == 2) = false := beq_eq_false_iff_ne.mpr c57
      have c57b1 : (t279 != 2) = true := bne_iff_ne.mpr c57
      simp only [Option.some.injEq, Prod.mk.injEq] at H
      obtain ⟨rfl, rfl, rfl, rfl, rfl⟩ := H
      go_wp2_with (first | ((with_reducible refine gate_callee (f := 87) rfl ?_); refine gl_ (some 28) Try.func87 #[.pointer (some ⟨g, 0, none⟩), .int .i64 24] rfl rfl rfl ?_; (with_reducible refine (spec_l1Cur_pick.calls g s0_0 x1001_5 x1002_5 24 t279 t280 t281 w0 _ ?side1 ?side2 A31.out).mono ?_); (case side1 => exact IsS106.q HI0); (case side2 => exact hbI_ HB (IsS106.ge HI0.out)); rintro e w69 ⟨rfl, hi, hb, hk⟩; refine ⟨_, rfl, ?_⟩; replace BK257 := kk_ BK257 hk NB257_0; replace BK267 := kk_ BK267 hk NB267_0; replace HK := Aside0.mk (KeepBut.trans (hk_ HK) hk (.inl rfl)); replace HB := Aside0.mk (hb); replace HI0 := Aside0.mk (hi); (try clear hb); (try clear hb2); (try clear hk); (try clear hi); have hnb70 := NB267_257.out; have hnc70 := NB257_267.out; have hnb71 := NB267_0.out; have hnc71 := NB0_267.out; obtain ⟨hcz72_0, hcz72_1, hcz72_2, hfz72_0, hfz72_1, hfz72_2⟩ := bx3 BK267; have hnb73 := NB257_0.out; have hnc73 := NB0_257.out; obtain ⟨hcz74_0, hcz74_1, hcz74_2, hfz74_0, hfz74_1, hfz74_2⟩ := bx3 BK257))
      refine bodyPost_ret (results_cell_row rfl _ _ gb257 29 #[.int .i64 t261, .int .i64 x268001_5, .int .i64 t264] (0, 0) _ rfl (kpq_ (kputs BK257 [(0, _), (1, _), (2, _)])) Try.underlying29 rfl (by kernel_rfl)) rfl ?_
      exact ⟨by first | rfl | (simp [errW_none, errW_some] <;> rfl) | (simp [*, errW_none, errW_some] <;> rfl), IsS106.q HI0, hbI_ HB (IsS106.ge HI0.out), hk_ HK⟩

end Go.Proofs.Ytceajigggcihnaa.PFnPieces
