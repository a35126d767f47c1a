-- Laid for this claim by wip/tools/print2.sh, a changed copy of the kit's print (wip/tools/patch_print.py): not by print.sh.
import Derived.Test.YtihjlepgmppedaaGreatDoorPFnRulesx3
import Derived.Test.YtihjlepgmppedaaGreatDoorVFnRules
namespace Go.Proofs.YtihjlepgmppedaaGreatDoor.PFnRules
set_option maxHeartbeats 8000000
set_option maxRecDepth 100000
open Go.RowKit Go.Proofs.YtihjlepgmppedaaGreatDoorW.PrintWords Go.Proofs.YtihjlepgmppedaaGreatDoorW.PrintLast Go.Proofs.YtihjlepgmppedaaGreatDoorW.PrintMore
set_option linter.unusedVariables false
set_option linter.unusedSimpArgs false

/-- A state of type 62 at block g of W; what its slices lead to came in by w0. -/
def IsS62 (w0 W : World) (g : Nat) (f0 : List ByteArray) (f1 : Int) (f2 : List (S73)) : Prop := ∃ A0 c0, ∃ A2 c2, W.heap[g]? = some (.cells #[.slice A0 f0.length c0, .int .i64 f1, .slice A2 f2.length c2] 62 (0, 0)) ∧ w0.heap.size ≤ g ∧ Kd.C Kd.string w0 A0 f0.length f0 ∧ Kd.C k73 w0 A2 f2.length f2
theorem IsS62.grown {w0 W : World} {g : Nat} {f0 : List ByteArray} {f1 : Int} {f2 : List (S73)} {W1 : World} {row : Option Nat} (h : IsS62 w0 W g f0 f1 f2) (hw : W.grownBy W1 row) (hne : some g ≠ row) : IsS62 w0 W1 g f0 f1 f2 := by
 obtain ⟨A0, c0, A2, c2, hb, hg, hr0, hr2⟩ := h
 exact ⟨A0, c0, A2, c2, blk_grown hb hw hne, hg, hr0, hr2⟩
theorem IsS62.own_neN {w0 W : World} {g : Nat} {f0 : List ByteArray} {f1 : Int} {f2 : List (S73)} {α : Type} {d : Kd α} {e : Nat} {base : Nat} {ok : Nat → Prop} {v : Value} {xs : List α} (h : IsS62 w0 W g f0 f1 f2) (ho : Kd.N d e W base ok v xs) (ht : e ≠ 62) : some g ≠ v.ownBlock := by
 obtain ⟨A0, c0, A2, c2, hb, hg, hr0, hr2⟩ := h
 exact Kd.N_ne ho hb ht
theorem IsS62.fresh {w0 W : World} {g : Nat} {f0 : List ByteArray} {f1 : Int} {f2 : List (S73)} (h : IsS62 w0 W g f0 f1 f2) : ∀ k, W.heap.size ≤ k → k ≠ g := by
 obtain ⟨A0, c0, A2, c2, hb, hg, hr0, hr2⟩ := h
 exact Kd.freshB hb
theorem IsS62.kept {w0 W : World} {g : Nat} {f0 : List ByteArray} {f1 : Int} {f2 : List (S73)} {W1 : World} {S : Nat → Prop} (h : IsS62 w0 W g f0 f1 f2) (hk : Kept W W1 S) (hne : ¬ S g) : IsS62 w0 W1 g f0 f1 f2 := by
 obtain ⟨A0, c0, A2, c2, hb, hg, hr0, hr2⟩ := h
 exact ⟨A0, c0, A2, c2, blk_kept hb hk hne, hg, hr0, hr2⟩
theorem IsS62.below {w0 W : World} {g : Nat} {f0 : List ByteArray} {f1 : Int} {f2 : List (S73)} {W1 : World} (h : IsS62 w0 W g f0 f1 f2) (hw : Below W.heap.size W W1) : IsS62 w0 W1 g f0 f1 f2 := h.grown (grown_of_below hw none) (by simp)
theorem IsS62.alloc {w0 W : World} {g : Nat} {f0 : List ByteArray} {f1 : Int} {f2 : List (S73)} (h : IsS62 w0 W g f0 f1 f2) (o : Obj) : IsS62 w0 (W.alloc o) g f0 f1 f2 := h.below (below_alloc (Below.refl _ _) o)
theorem IsS62.drewN {w0 W : World} {g : Nat} {f0 : List ByteArray} {f1 : Int} {f2 : List (S73)} (h : IsS62 w0 W g f0 f1 f2) (m : Nat) : IsS62 w0 (W.drewN m) g f0 f1 f2 := h
theorem IsS62.drew {w0 W : World} {g : Nat} {f0 : List ByteArray} {f1 : Int} {f2 : List (S73)} (h : IsS62 w0 W g f0 f1 f2) : IsS62 w0 W.drew g f0 f1 f2 := h
theorem IsS62.at_ {w0 W : World} {g : Nat} {f0 : List ByteArray} {f1 : Int} {f2 : List (S73)} {w' : World} {m : Nat} (hq : W.drewN m = w') (h : IsS62 w0 W g f0 f1 f2) : IsS62 w0 w' g f0 f1 f2 := by subst hq; exact IsS62.drewN h m
theorem IsS62.apart {w0 W : World} {g : Nat} {f0 : List ByteArray} {f1 : Int} {f2 : List (S73)} {α : Type} {d : Kd α} {e : Nat} {base : Nat} {ok : Nat → Prop} {v : Value} {xs : List α} (h : IsS62 w0 W g f0 f1 f2) (ho : d.R e W base ok v xs) (ht : ∀ q, q ∈ e :: d.E → q ≠ 62) : d.R e W base (fun k => ok k ∧ k ≠ g) v xs := by
 obtain ⟨A0, c0, A2, c2, hb, hg, hr0, hr2⟩ := h
 exact Kd.R_types ho hb ht
theorem IsS62.own_ne {w0 W : World} {g : Nat} {f0 : List ByteArray} {f1 : Int} {f2 : List (S73)} {α : Type} {d : Kd α} {e : Nat} {base : Nat} {ok : Nat → Prop} {v : Value} {xs : List α} (h : IsS62 w0 W g f0 f1 f2) (ho : d.R e W base ok v xs) (ht : e ≠ 62) : some g ≠ v.ownBlock := by
 obtain ⟨A0, c0, A2, c2, hb, hg, hr0, hr2⟩ := h
 exact Kd.R_ne ho hb ht
theorem IsS62.apartQ {w0 W : World} {g : Nat} {f0 : List ByteArray} {f1 : Int} {f2 : List (S73)} {α : Type} {d : Kd α} {e : Nat} {base : Nat} {ok : Nat → Prop} {v : Value} {xs : List α} (h : IsS62 w0 W g f0 f1 f2) (ho : d.Q e W base ok v xs) (ht : ∀ q, q ∈ e :: d.E → q ≠ 62) : d.Q e W base (fun k => ok k ∧ k ≠ g) v xs := by
 obtain ⟨A0, c0, A2, c2, hb, hg, hr0, hr2⟩ := h
 exact Kd.Q_types ho hb ht
theorem IsS62.own_neQ {w0 W : World} {g : Nat} {f0 : List ByteArray} {f1 : Int} {f2 : List (S73)} {α : Type} {d : Kd α} {e : Nat} {base : Nat} {ok : Nat → Prop} {v : Value} {xs : List α} (h : IsS62 w0 W g f0 f1 f2) (ho : d.Q e W base ok v xs) (ht : e ≠ 62) : some g ≠ v.ownBlock := by
 obtain ⟨A0, c0, A2, c2, hb, hg, hr0, hr2⟩ := h
 exact Kd.Q_ne ho hb ht
theorem IsS62.apartS {w0 W : World} {g : Nat} {f0 : List ByteArray} {f1 : Int} {f2 : List (S73)} {α : Type} {d : Kd α} {e : Nat} {base : Nat} {ok : Nat → Prop} {v : Value} {xs : List α} (h : IsS62 w0 W g f0 f1 f2) (ho : d.S e W base ok v xs) (ht : ∀ q, q ∈ e :: d.E → q ≠ 62) : d.S e W base (fun k => ok k ∧ k ≠ g) v xs := by
 obtain ⟨A0, c0, A2, c2, hb, hg, hr0, hr2⟩ := h
 exact Kd.S_types ho hb ht
theorem IsS62.own_neS {w0 W : World} {g : Nat} {f0 : List ByteArray} {f1 : Int} {f2 : List (S73)} {α : Type} {d : Kd α} {e : Nat} {base : Nat} {ok : Nat → Prop} {v : Value} {xs : List α} (h : IsS62 w0 W g f0 f1 f2) (ho : d.S e W base ok v xs) (ht : e ≠ 62) : some g ≠ v.ownBlock := by
 obtain ⟨A0, c0, A2, c2, hb, hg, hr0, hr2⟩ := h
 exact Kd.S_ne ho hb ht
theorem IsS62.lt {w0 W : World} {g : Nat} {f0 : List ByteArray} {f1 : Int} {f2 : List (S73)} (h : IsS62 w0 W g f0 f1 f2) : g < W.heap.size := by
 obtain ⟨A0, c0, A2, c2, hb, hg, hr0, hr2⟩ := h
 exact blk_lt hb
theorem IsS62.ge {w0 W : World} {g : Nat} {f0 : List ByteArray} {f1 : Int} {f2 : List (S73)} (h : IsS62 w0 W g f0 f1 f2) : w0.heap.size ≤ g := by
 obtain ⟨A0, c0, A2, c2, hb, hg, hr0, hr2⟩ := h
 exact hg
theorem IsS62.ne_blk {w0 W : World} {g : Nat} {f0 : List ByteArray} {f1 : Int} {f2 : List (S73)} {a : Nat} {cs : Array Value} {t : TypeId} {fr : Nat × Nat} (h : IsS62 w0 W g f0 f1 f2) (hb2 : W.heap[a]? = some (.cells cs t fr)) (ht : t ≠ 62) : g ≠ a := by
 obtain ⟨A0, c0, A2, c2, hb, hg, hr0, hr2⟩ := h
 rintro rfl
 rw [hb] at hb2
 injection hb2 with hb2
 injection hb2 with _ ht2
 exact ht ht2.symm
theorem IsS62.far {w0 W : World} {g : Nat} {f0 : List ByteArray} {f1 : Int} {f2 : List (S73)} {p : Addr} (h : IsS62 w0 W g f0 f1 f2) (hne : g ≠ p.block) (u : Value) : IsS62 w0 (W.setCell p u) g f0 f1 f2 := by
 obtain ⟨A0, c0, A2, c2, hb, hg, hr0, hr2⟩ := h
 exact ⟨A0, c0, A2, c2, blk_far hb hne u, hg, hr0, hr2⟩
theorem cellS62_0 {W : World} {g : Nat} {A0 : Option Addr} {c0 : Nat} {A2 : Option Addr} {c2 : Nat} {f0 : List ByteArray} {f1 : Int} {f2 : List (S73)} (h : W.heap[g]? = some (.cells #[.slice A0 f0.length c0, .int .i64 f1, .slice A2 f2.length c2] 62 (0, 0))) : W.cell? ⟨g, 0, none⟩ = some (.slice A0 f0.length c0) := (blk_cell h 0).trans rfl
theorem cellS62_1 {W : World} {g : Nat} {A0 : Option Addr} {c0 : Nat} {A2 : Option Addr} {c2 : Nat} {f0 : List ByteArray} {f1 : Int} {f2 : List (S73)} (h : W.heap[g]? = some (.cells #[.slice A0 f0.length c0, .int .i64 f1, .slice A2 f2.length c2] 62 (0, 0))) : W.cell? ⟨g, 1, none⟩ = some (.int .i64 f1) := (blk_cell h 1).trans rfl
theorem IsS62.set_1 {w0 W : World} {g : Nat} {f0 : List ByteArray} {f1 : Int} {f2 : List (S73)} (h : IsS62 w0 W g f0 f1 f2) (x : Int) : IsS62 w0 (W.setCell ⟨g, 1, none⟩ (.int .i64 x)) g f0 x f2 := by
 obtain ⟨A0, c0, A2, c2, hb, hg, hr0, hr2⟩ := h
 exact ⟨A0, c0, A2, c2, by simpa using blk_set hb 1 (.int .i64 x), hg, hr0, hr2⟩
theorem cellS62_2 {W : World} {g : Nat} {A0 : Option Addr} {c0 : Nat} {A2 : Option Addr} {c2 : Nat} {f0 : List ByteArray} {f1 : Int} {f2 : List (S73)} (h : W.heap[g]? = some (.cells #[.slice A0 f0.length c0, .int .i64 f1, .slice A2 f2.length c2] 62 (0, 0))) : W.cell? ⟨g, 2, none⟩ = some (.slice A2 f2.length c2) := (blk_cell h 2).trans rfl
theorem IsS62.new (w0 W : World) (A0 : Option Addr) (c0 : Nat) (A2 : Option Addr) (c2 : Nat) (f0 : List ByteArray) (f1 : Int) (f2 : List (S73)) (hB : Below w0.heap.size w0 W) (hr0 : Kd.C Kd.string w0 A0 f0.length f0) (hr2 : Kd.C k73 w0 A2 f2.length f2) : IsS62 w0 (W.alloc (.cells #[.slice A0 f0.length c0, .int .i64 f1, .slice A2 f2.length c2] 62)) W.heap.size f0 f1 f2 := ⟨A0, c0, A2, c2, by simpa using heap_alloc_new W _, hB.size, hr0, hr2⟩
theorem IsS62.farA {w0 W : World} {g a i : Nat} {f0 : List ByteArray} {f1 : Int} {f2 : List (S73)} {u : Value} (h : IsS62 w0 W g f0 f1 f2) (hn : Aside0 (g ≠ a)) : IsS62 w0 (W.setCell ⟨a, i, none⟩ u) g f0 f1 f2 := IsS62.far (p := ⟨a, i, none⟩) h hn.out u
theorem IsS62.q {w0 W W1 : World} {g : Nat} {f0 : List ByteArray} {f1 : Int} {f2 : List (S73)} {f0' : List ByteArray} {f1' : Int} {f2' : List (S73)} (h : Aside0 (IsS62 w0 W g f0 f1 f2)) (hq : IsS62 w0 W g f0 f1 f2 → IsS62 w0 W1 g f0' f1' f2' := by intro h_; repeat (first | (with_reducible first | exact h_ | apply IsS62.alloc | apply IsS62.drewN | apply IsS62.drew | apply IsS62.set_1 | refine IsS62.farA ?_ (by assumption)) | exact h_)) : IsS62 w0 W1 g f0' f1' f2' := hq h.out
theorem IsS62.b {w0 W W1 W2 : World} {g : Nat} {f0 : List ByteArray} {f1 : Int} {f2 : List (S73)} {f0' : List ByteArray} {f1' : Int} {f2' : List (S73)} (h : Aside0 (IsS62 w0 W g f0 f1 f2)) (hb : Below W1.heap.size W1 W2) (hq : IsS62 w0 W g f0 f1 f2 → IsS62 w0 W1 g f0' f1' f2' := by intro h_; repeat (first | (with_reducible first | exact h_ | apply IsS62.alloc | apply IsS62.drewN | apply IsS62.drew | apply IsS62.set_1 | refine IsS62.farA ?_ (by assumption)) | exact h_)) : Aside0 (IsS62 w0 W2 g f0' f1' f2') := ⟨IsS62.below (hq h.out) hb⟩
theorem IsS62.rk {w0 W W1 W2 : World} {g : Nat} {f0 : List ByteArray} {f1 : Int} {f2 : List (S73)} {α : Type} {d : Kd α} {e : Nat} {base : Nat} {ok : Nat → Prop} {v : Value} {xs : List α} (hI : Aside0 (IsS62 w0 W g f0 f1 f2)) (h : Aside0 (d.R e W base ok v xs)) (hk : KeepBut W1 W2 g none) (hq : Below W.heap.size W W1 := by repeat (first | (with_reducible first | exact Below.refl _ _ | apply below_alloc | apply pw_below_drewN | apply below_drew1) | exact Below.refl _ _)) (ht : ∀ q, q ∈ e :: d.E → q ≠ 62 := by decide) : Aside0 (d.R e W2 base ok v xs) := ⟨Kd.R_mono (Kd.R_keep (Kd.R_below (IsS62.apart hI.out h.out ht) hq) hk (fun _ h => h.2)) (fun _ h => h.1)⟩

/-! ### spec_ruParse: function 35 -/
/-! #### the reader of rules (spec.ruState): what stands in memory -/
def wd (ws : List ByteArray) (i : Nat) : ByteArray := rdOf ByteArray.empty ws (i : Int)
def isW (ws : List ByteArray) (i : Nat) (s : ByteArray) : Bool := decide (i < ws.length) && ((wd ws i).toList == s.toList)
def RP (w0 w : World) (g : Nat) (ws : List ByteArray) (m i : Nat) (out : List S73) : Prop :=
 w0.heap.size ≤ g ∧ Below w0.heap.size w0 w ∧ ws.length ≤ 1000 ∧ i ≤ ws.length ∧ out.length + m ≤ i ∧ ∃ vw vo : Value, w.heap[g]? = some (.cells #[vw, .int .i64 (i : Int), vo] 62 (0, 0)) ∧ Kd.R Kd.string 9 w w0.heap.size (fun _ => True) vw ws ∧ Kd.R k73 73 w w0.heap.size (fun _ => True) vo out
theorem RP.drewN {w0 w : World} {g : Nat} {ws : List ByteArray} {m i : Nat} {out : List S73} (h : RP w0 w g ws m i out) (n : Nat) : RP w0 (w.drewN n) g ws m i out := by
 obtain ⟨h1, h2, h3, h4, h5, vw, vo, h6, h7, h8⟩ := h
 exact ⟨h1, pw_below_drewN h2 n, h3, h4, h5, vw, vo, h6, Kd.R_drewN h7 n, Kd.R_drewN h8 n⟩
theorem ruIs (w0 w : World) (g : Nat) (ws : List ByteArray) (m i : Nat) (out : List S73) (s : ByteArray) (b : Bool) (hI : RP w0 w g ws m i out) (hb : isW ws i s = b) :
  Calls Tryz.prog 84 #[.pointer (some ⟨g, 0, none⟩), .string s] w fun e w' => e = .returned (.bool b) ∧ Drawn0 w w' := by
 obtain ⟨_, _, _, h4, _, vw, vo, h6, h7, h8⟩ := hI
 obtain ⟨A, c, rfl, _, hC⟩ := Kd.R_reads h7
 obtain ⟨A2, c2, rfl, _, _⟩ := Kd.R_reads h8
 obtain ⟨x, hx⟩ : ∃ x : Int, x = (i : Int) := ⟨_, rfl⟩
 rw [← hx] at h6
 have HW := am_ h6
 obtain ⟨hc0, hc1, hc2, hf0, hf1, hf2⟩ := bx3 HW
 clear HW h6 h7 h8
 unfold isW at hb
 by_cases hlt : i < ws.length
 ·have e1 : ((wd ws i).toList == s.toList) = b := by simpa [hlt] using hb
  clear hb
  obtain ⟨ad, rfl, hc⟩ := Kd.at_string hC x (by omega) (by omega)
  replace hc : w.cell? (ad.add x.toNat) = some (.string (wd ws i)) := by rw [hc, hx]; rfl
  have d1 : decide (x < (ws.length : Int)) = true := decide_eq_true (by omega)
  have p1 : ((0 : Int) ≤ x) = True := eq_true (by omega)
  have q1 : (x < (ws.length : Int)) = True := eq_true (by omega)
  have HE := am_ e1
  clear e1 hlt h4 hC hx
  go_enter Tryz.func84, Tryz.ntmps84
  go_wp2
  repeat (go_quiet (fail); try go_wp2)
  go_ret
  exact ⟨by rw [← HE.out]; rfl, ⟨_, rfl⟩⟩
 ·have e1 : b = false := by simpa [hlt] using hb.symm
  subst e1
  have d1 : decide (x < (ws.length : Int)) = false := decide_eq_false (by omega)
  clear hb hlt h4 hC hx
  go_enter Tryz.func84, Tryz.ntmps84
  go_wp2
  repeat (go_quiet (fail); try go_wp2)
  go_ret
  exact ⟨rfl, ⟨_, rfl⟩⟩
theorem RP.drew {w0 w : World} {g : Nat} {ws : List ByteArray} {m i : Nat} {out : List S73} (h : RP w0 w g ws m i out) : RP w0 w.drew g ws m i out := by
 obtain ⟨h1, h2, h3, h4, h5, vw, vo, h6, h7, h8⟩ := h
 exact ⟨h1, below_drew1 h2, h3, h4, h5, vw, vo, h6, Kd.R_drew h7, Kd.R_drew h8⟩
/-- One word on. -/
theorem RP.step {w0 w : World} {g : Nat} {ws : List ByteArray} {m i : Nat} {out : List S73} (h : RP w0 w g ws m i out) (hi : i < ws.length) : RP w0 (w.setCell ⟨g, 1, none⟩ (.int .i64 ((i : Int) + 1))) g ws (m + 1) (i + 1) out := by
 obtain ⟨h1, h2, h3, h4, h5, vw, vo, h6, h7, h8⟩ := h
 refine ⟨h1, below_set h2 h1, h3, by omega, by omega, vw, vo, ?_, Kd.R_set h7 h6 ?_ _ _, Kd.R_set h8 h6 ?_ _ _⟩
 ·have := blk_set h6 1 (.int .i64 ((i : Int) + 1))
  simpa using this
 ·intro q hq; simp [Kd.string, Kd.scalar] at hq; subst hq; decide
 ·intro q hq; simp [k73, Kd.iso, Kd.pair, Kd.int, Kd.scalar] at hq; subst hq; decide
theorem RP.slack {w0 w : World} {g : Nat} {ws : List ByteArray} {m i : Nat} {out : List S73} (h : RP w0 w g ws (m + 1) i out) : RP w0 w g ws m i out := by
 obtain ⟨h1, h2, h3, h4, h5, h6⟩ := h
 exact ⟨h1, h2, h3, h4, by omega, h6⟩
theorem isW_lt {ws : List ByteArray} {i : Nat} {s : ByteArray} (h : isW ws i s = true) : i < ws.length := by
 unfold isW at h; simp at h; exact h.1
theorem ruTakeT (w0 w : World) (g : Nat) (ws : List ByteArray) (m i : Nat) (out : List S73) (s : ByteArray) (hI : RP w0 w g ws m i out) (hb : isW ws i s = true) :
  Calls Tryz.prog 72 #[.pointer (some ⟨g, 0, none⟩), .string s] w fun e w' => e = .returned (.bool true) ∧ RP w0 w' g ws (m + 1) (i + 1) out ∧ KeepBut w w' g none := by
 have hlt := isW_lt hb
 have hl3 := hI.2.2.1
 have HI := am_ hI
 obtain ⟨_, _, _, _, _, vw, vo, h6, _, _⟩ := hI
 obtain ⟨x, hx⟩ : ∃ x : Int, x = (i : Int) := ⟨_, rfl⟩
 rw [← hx] at h6
 obtain ⟨hc0, hc1, hc2, hf0, hf1, hf2⟩ := bx3 (am_ h6)
 clear h6
 have hx0 : 0 ≤ x := by omega
 have hx1 : x < 1000 := by omega
 have HX := am_ hx
 have HLT := am_ hlt
 clear hlt hl3 hx
 have HB := am_ hb
 clear hb
 go_enter Tryz.func72, Tryz.ntmps72
 go_wp2_with (first | ((with_reducible refine gk_ 84 ?_); refine gq_ 7 Tryz.func84 #[.pointer (some ⟨g, 0, none⟩), .string s] ?_; (with_reducible refine (ruIs w0 _ g ws m i out s true HI.out HB.out).mono ?_); rintro e w1 ⟨rfl, ⟨n, rfl⟩⟩; refine ⟨_, rfl, ?_⟩))
 go_ret
 refine ⟨rfl, ?_, ?_⟩
 ·have := (HI.out.drewN n).step HLT.out
  rw [← HX.out] at this
  exact this
 ·exact KeepBut.set_ (keep_drewN (KeepBut.refl w g none) n) _ _
theorem ruTakeF (w0 w : World) (g : Nat) (ws : List ByteArray) (m i : Nat) (out : List S73) (s : ByteArray) (hI : RP w0 w g ws m i out) (hb : isW ws i s = false) :
  Calls Tryz.prog 72 #[.pointer (some ⟨g, 0, none⟩), .string s] w fun e w' => e = .returned (.bool false) ∧ Drawn0 w w' := by
 have HI := am_ hI
 clear hI
 have HB := am_ hb
 clear hb
 go_enter Tryz.func72, Tryz.ntmps72
 go_wp2_with (first | ((with_reducible refine gk_ 84 ?_); refine gq_ 7 Tryz.func84 #[.pointer (some ⟨g, 0, none⟩), .string s] ?_; (with_reducible refine (ruIs w0 _ g ws m i out s false HI.out HB.out).mono ?_); rintro e w1 ⟨rfl, ⟨n, rfl⟩⟩; refine ⟨_, rfl, ?_⟩))
 go_ret
 exact ⟨rfl, ⟨_, rfl⟩⟩
theorem ruGrown {α β : Type} {d : Kd α} {d' : Kd β} {e e' : Nat} {W W1 : World} {base base' : Nat} {ok' : Nat → Prop} {v v' : Value} {xs : List α} {ys : List β} (h : Kd.R d e W base (fun _ => True) v xs) (h' : Kd.R d' e' W base' ok' v' ys)
  (ht : ∀ q, q ∈ e :: d.E → q ≠ e') (hg : W.grownBy W1 v'.ownBlock) : Kd.R d e W1 base (fun _ => True) v xs := by
 refine Kd.R_mono (Kd.R_grown (ok := fun k => some k ≠ v'.ownBlock) (Kd.R_mono (Kd.R_bound h) ?_) hg (fun k hk => hk)) (fun _ _ => trivial)
 rintro k ⟨_, _, _, q, hq, cells, hc⟩ he
 obtain ⟨inner, ho⟩ := Kd.R_own h'
 obtain ⟨cells', hc'⟩ := own_typed ho k he.symm
 rw [hc] at hc'
 injection hc' with hc'
 injection hc' with _ hc'
 exact ht q hq hc'
theorem ruInfo : (Tryz.prog.info? 73).map (fun i => (i.zero, i.size, i.bytes)) = some (some (.agg #[.int .i64 0, .int .i64 0]), 2, 16) := by kernel_rfl
theorem ruAdd (w0 w : World) (g : Nat) (ws : List ByteArray) (m i : Nat) (out : List S73) (a b : Int) (hI : RP w0 w g ws (m + 1) i out) :
  Calls Tryz.prog 74 #[.pointer (some ⟨g, 0, none⟩), .int .i64 a, .int .i64 b] w fun e w' => e = .returned (.tuple #[]) ∧ RP w0 w' g ws m i (out ++ [⟨a, b⟩]) := by
 obtain ⟨h1, h2, h3, h4, h5, vw, vo, h6, h7, h8⟩ := hI
 have H1 := am_ h1
 have H2 := am_ h2
 have H6 := am_ h6
 have H7 := am_ h7
 have H8 := am_ h8
 have hlen : out.length < 1000 := by omega
 have HL := am_ hlen
 have H5 := am_ (show out.length + 1 + m ≤ i by omega)
 have H4 := am_ h4
 have H3 := am_ h3
 clear hlen h1 h2 h3 h4 h5 h6 h7 h8
 obtain ⟨x, hx⟩ : ∃ x : Int, x = (i : Int) := ⟨_, rfl⟩
 have HX := am_ hx
 rw [← hx] at H6
 clear hx
 obtain ⟨hc0, hc1, hc2, hf0, hf1, hf2⟩ := bx3 H6
 go_enter Tryz.func74, Tryz.ntmps74
 go_wp2_with (first | ((with_reducible refine gate_builtin (b := .append) (xs := #[.tmp 10, .tmp 14]) rfl ?_); at_builtin; refine Kd.R_append k73 (w0 := w0) w0.heap.size rfl (.tmp 10) (.tmp 14) 23 73 (.agg #[(.int .i64 0), (.int .i64 0)]) 16 rfl Tryz.underlying23 ruInfo rfl (by decide) (by omega) vo out (⟨a, b⟩ : S73) [.int .i64 a, .int .i64 b] (fun _ => True) (fun _ => False) rfl (by first | (go_simp; done) | (go_simp; rfl)) ?aP (fun _ hk => hk.elim) ?aF ?aO ?aB ?aS ?aL ?_; (case aP => exact k73_mkM _ _ _ (⟨a, b⟩ : S73)); (case aF => exact (fun _ _ => trivial)); (case aO => exact H8.out); (case aB => exact H2.out); (case aS => exact H2.out.size); (case aL => have := HL.out; omega); intro v1 w1 ho hb hg hat; obtain ⟨Ao, co, eo⟩ := Kd.R_slice ho; subst eo; have H8' := am_ ho; have H2' := am_ hb; have H6' := am_ (blk_grown H6.out hg (Kd.R_ne H8.out H6.out (by decide))); have H7' := am_ (ruGrown H7.out H8.out (by intro q hq; simp [Kd.string, Kd.scalar] at hq; subst hq; decide) hg); clear ho hb hg hat; obtain ⟨hd0, hd1, hd2, hg0, hg1, hg2⟩ := bx3 H6'))
 go_end0
 refine ⟨rfl, H1.out, below_set H2'.out H1.out, H3.out, H4.out, ?_, vw, _, ?_, Kd.R_set H7'.out H6'.out (by intro q hq; simp [Kd.string, Kd.scalar] at hq; subst hq; decide) _ _, Kd.R_set H8'.out H6'.out (by intro q hq; simp [k73, Kd.iso, Kd.pair, Kd.int, Kd.scalar] at hq; subst hq; decide) _ _⟩
 ·have := H5.out
  simp; omega
 ·have h := blk_set H6'.out 2 (.slice Ao (out ++ [(⟨a, b⟩ : S73)]).length co)
  rw [HX.out] at h
  simpa using h
/-! #### what the reader comes to -/
def ruF : List ByteArray := [(⟨#[116, 111, 110, 110, 101, 115]⟩ : ByteArray), (⟨#[103, 114, 97, 100, 101]⟩ : ByteArray), (⟨#[114, 111, 99, 107]⟩ : ByteArray), (⟨#[108, 101, 118, 101, 108]⟩ : ByteArray), (⟨#[109, 101, 116, 97, 108]⟩ : ByteArray)]
def fldFrom : Nat → List ByteArray → Nat → Nat → Option Nat
 | 0, _, _, _ => none
 | d + 1, ws, i, k => if isW ws i (rdOf ByteArray.empty ruF (k : Int)) = true then some k else fldFrom d ws i (k + 1)
def numOf (k : Nat) (s : ByteArray) : Option Int := if (s.toList == [49, 48, 48, 48, 48, 48, 48]) = true then some 1000000 else spec_l1Read.f k s
def ruG : List ByteArray := [(⟨#[60]⟩ : ByteArray), (⟨#[61]⟩ : ByteArray), (⟨#[62]⟩ : ByteArray)]
def sigFrom : Nat → List ByteArray → Nat → Nat → Option Nat
 | 0, _, _, _ => none
 | d + 1, ws, i, k => if isW ws i (rdOf ByteArray.empty ruG (k : Int)) = true then some k else sigFrom d ws i (k + 1)
mutual
def ruAtom : Nat → List ByteArray → Nat → List S73 → Option (Bool × Nat × List S73)
 | 0, _, _, _ => none
 | k + 1, ws, i, out =>
  if isW ws i ⟨#[40]⟩ = true then (ruRule k ws (i + 1) out).bind fun r => if r.1 = true then (if isW ws r.2.1 ⟨#[41]⟩ = true then some (true, r.2.1 + 1, r.2.2) else some (false, r.2)) else some r
  else if i = ws.length then some (false, i, out)
  else match fldFrom 5 ws i 0 with
   | some f => some (true, i + 1, out ++ [⟨1, f⟩])
   | none => (numOf 30 (wd ws i)).bind fun n => if n < 0 then some (false, i, out) else some (true, i + 1, out ++ [⟨0, n⟩])
def ruProd : Nat → List ByteArray → Nat → List S73 → Option (Bool × Nat × List S73)
 | 0, _, _, _ => none
 | k + 1, ws, i, out => (ruAtom k ws i out).bind fun r => if r.1 = true then ruProdL k ws r.2.1 r.2.2 else some r
def ruProdL : Nat → List ByteArray → Nat → List S73 → Option (Bool × Nat × List S73)
 | 0, _, _, _ => none
 | k + 1, ws, i, out =>
  if isW ws i ⟨#[42]⟩ = true then (ruAtom k ws (i + 1) out).bind fun r => if r.1 = true then ruProdL k ws r.2.1 (r.2.2 ++ [⟨4, 0⟩]) else some r
  else if isW ws i ⟨#[47]⟩ = true then (ruAtom k ws (i + 1) out).bind fun r => if r.1 = true then ruProdL k ws r.2.1 (r.2.2 ++ [⟨5, 0⟩]) else some r
  else some (true, i, out)
def ruSum : Nat → List ByteArray → Nat → List S73 → Option (Bool × Nat × List S73)
 | 0, _, _, _ => none
 | k + 1, ws, i, out => (ruProd k ws i out).bind fun r => if r.1 = true then ruSumL k ws r.2.1 r.2.2 else some r
def ruSumL : Nat → List ByteArray → Nat → List S73 → Option (Bool × Nat × List S73)
 | 0, _, _, _ => none
 | k + 1, ws, i, out =>
  if isW ws i ⟨#[43]⟩ = true then (ruProd k ws (i + 1) out).bind fun r => if r.1 = true then ruSumL k ws r.2.1 (r.2.2 ++ [⟨2, 0⟩]) else some r
  else if isW ws i ⟨#[45]⟩ = true then (ruProd k ws (i + 1) out).bind fun r => if r.1 = true then ruSumL k ws r.2.1 (r.2.2 ++ [⟨3, 0⟩]) else some r
  else some (true, i, out)
def ruRule : Nat → List ByteArray → Nat → List S73 → Option (Bool × Nat × List S73)
 | 0, _, _, _ => none
 | k + 1, ws, i, out =>
  if isW ws i ⟨#[105, 102]⟩ = true then
   (ruSum k ws (i + 1) out).bind fun r => if r.1 = true then
    match sigFrom 3 ws r.2.1 0 with
    | none => some (false, r.2)
    | some s => (ruSum k ws (r.2.1 + 1) r.2.2).bind fun r => if r.1 = true then
      (if isW ws r.2.1 ⟨#[116, 104, 101, 110]⟩ = true then (ruRule k ws (r.2.1 + 1) r.2.2).bind fun r => if r.1 = true then
        (if isW ws r.2.1 ⟨#[101, 108, 115, 101]⟩ = true then (ruRule k ws (r.2.1 + 1) r.2.2).bind fun r => if r.1 = true then some (true, r.2.1, r.2.2 ++ [⟨6 + (s : Int), 0⟩]) else some r
                 else some (false, r.2)) else some r
             else some (false, r.2)) else some r
   else some r
  else ruSum k ws i out
end
def RuC (f : Nat) (F : List ByteArray → Nat → List S73 → Option (Bool × Nat × List S73)) : Prop :=
 ∀ (w0 w : World) (g : Nat) (ws : List ByteArray) (m i : Nat) (out : List S73) (b : Bool) (j : Nat) (o : List S73), RP w0 w g ws m i out → F ws i out = some (b, j, o) →
  Calls Tryz.prog f #[.pointer (some ⟨g, 0, none⟩)] w fun e w' => e = .returned (.bool b) ∧ RP w0 w' g ws m j o
theorem isW_ne {ws : List ByteArray} {i : Nat} {s t : ByteArray} (h : isW ws i s = true) (hst : (s.toList == t.toList) = false) : isW ws i t = false := by
 have hl := isW_lt h
 unfold isW at h ⊢
 simp [hl] at h ⊢
 rw [h]
 simpa using hst
theorem RP.at_ {w0 w : World} {g : Nat} {ws : List ByteArray} {m i : Nat} {out : List S73} (h : RP w0 w g ws m i out) : ∃ x : Int, Aside0 (x = (i : Int)) ∧ 0 ≤ x ∧ x ≤ 1000 ∧ w.cell? ⟨g, 1, none⟩ = some (.int .i64 x) ∧ w.frozen? ⟨g, 1, none⟩ = false := by
 obtain ⟨_, _, h3, h4, _, vw, vo, h6, _, _⟩ := h
 obtain ⟨_, hc1, _, _, hf1, _⟩ := bx3 (am_ h6)
 exact ⟨_, ⟨rfl⟩, by omega, by omega, hc1, hf1⟩
def SameW (w1 w : World) : Prop := w1.os = w.os ∧ w1.tape = w.tape ∧ w1.output = w.output ∧ w1.heap = w.heap
theorem RP.of_heap {w0 w w1 : World} {g : Nat} {ws : List ByteArray} {m i : Nat} {out : List S73} (h : RP w0 w g ws m i out) (e : SameW w1 w) : RP w0 w1 g ws m i out := by
 obtain ⟨e1, e2, e3, e⟩ := e
 have hb : Below w.heap.size w w1 := ⟨e1, e2, e3, by rw [e]; exact Nat.le_refl _, fun i _ => by rw [e]⟩
 obtain ⟨h1, h2, h3, h4, h5, vw, vo, h6, h7, h8⟩ := h
 exact ⟨h1, below_step h2 hb, h3, h4, h5, vw, vo, by rw [e]; exact h6, Kd.R_below h7 hb, Kd.R_below h8 hb⟩
theorem RP.hh {w0 w w1 : World} {g : Nat} {ws : List ByteArray} {m i : Nat} {out : List S73} (h : Aside0 (RP w0 w g ws m i out)) (e : SameW w1 w := by exact ⟨rfl, rfl, rfl, rfl⟩) : RP w0 w1 g ws m i out := RP.of_heap h.out e
theorem RP.step_ {w0 w w1 : World} {g : Nat} {ws : List ByteArray} {m i : Nat} {out : List S73} {x : Int} (h : RP w0 w g ws m i out) (hi : i < ws.length) (hx : x = (i : Int)) (e : SameW w1 (w.setCell ⟨g, 1, none⟩ (.int .i64 (x + 1)))) : RP w0 w1 g ws (m + 1) (i + 1) out := by
 subst hx
 exact (h.step hi).of_heap e
theorem RP.below {w0 w w1 : World} {g : Nat} {ws : List ByteArray} {m i : Nat} {out : List S73} (h : RP w0 w g ws m i out) (hb : Below w.heap.size w w1) : RP w0 w1 g ws m i out := by
 obtain ⟨h1, h2, h3, h4, h5, vw, vo, h6, h7, h8⟩ := h
 exact ⟨h1, below_step h2 hb, h3, h4, h5, vw, vo, (hb.block g (blk_lt h6)).trans h6, Kd.R_below h7 hb, Kd.R_below h8 hb⟩
theorem RP.slacks {w0 w : World} {g : Nat} {ws : List ByteArray} {m m' i : Nat} {out : List S73} (h : RP w0 w g ws m i out) (hm : m' ≤ m) : RP w0 w g ws m' i out := by
 obtain ⟨h1, h2, h3, h4, h5, h6⟩ := h
 exact ⟨h1, h2, h3, h4, by omega, h6⟩
/-- What a walk reads: the place, the words' row, and the word at the place. -/
theorem RP.read {w0 w : World} {g : Nat} {ws : List ByteArray} {m i : Nat} {out : List S73} (h : RP w0 w g ws m i out) : ∃ (x : Int) (A : Option Addr) (c : Nat), Aside0 (x = (i : Int)) ∧ 0 ≤ x ∧ x ≤ 1000 ∧ w.cell? ⟨g, 0, none⟩ = some (.slice A ws.length c) ∧ w.cell? ⟨g, 1, none⟩ = some (.int .i64 x) ∧ w.frozen? ⟨g, 1, none⟩ = false := by
 obtain ⟨_, _, h3, h4, _, vw, vo, h6, h7, _⟩ := h
 obtain ⟨A, c, rfl, _, _⟩ := Kd.R_reads h7
 obtain ⟨hc0, hc1, _, _, hf1, _⟩ := bx3 (am_ h6)
 exact ⟨_, A, c, ⟨rfl⟩, by omega, by omega, hc0, hc1, hf1⟩
theorem RP.word {w0 w : World} {g : Nat} {ws : List ByteArray} {m i : Nat} {out : List S73} (h : RP w0 w g ws m i out) (hi : i < ws.length) : ∃ (x : Int) (ad : Addr) (c : Nat), Aside0 (x = (i : Int)) ∧ 0 ≤ x ∧ (x < (ws.length : Int)) = True ∧ x ≤ 1000 ∧ w.cell? ⟨g, 0, none⟩ = some (.slice (some ad) ws.length c) ∧ w.cell? ⟨g, 1, none⟩ = some (.int .i64 x) ∧ w.frozen? ⟨g, 1, none⟩ = false ∧ w.cell? (ad.add x.toNat) = some (.string (wd ws i)) := by
 obtain ⟨_, _, h3, h4, _, vw, vo, h6, h7, _⟩ := h
 obtain ⟨A, c, rfl, _, hC⟩ := Kd.R_reads h7
 obtain ⟨hc0, hc1, _, _, hf1, _⟩ := bx3 (am_ h6)
 obtain ⟨ad, rfl, hc⟩ := Kd.at_string hC (i : Int) (by omega) (by omega)
 exact ⟨_, ad, c, ⟨rfl⟩, by omega, eq_true (by omega), by omega, hc0, hc1, hf1, hc⟩
theorem ruFlds : spec_ruFields.f = some ruF := rfl
theorem RP.blk {w0 w : World} {g : Nat} {ws : List ByteArray} {m i : Nat} {out : List S73} (h : RP w0 w g ws m i out) : ∃ cs, w.heap[g]? = some (.cells cs 62 (0, 0)) := by
 obtain ⟨_, _, _, _, _, vw, vo, h6, _, _⟩ := h
 exact ⟨_, h6⟩
theorem ruKeep {w w1 : World} {g : Nat} {v : Value} {xs : List ByteArray} (h : Kd.R Kd.string 9 w 0 (fun _ => True) v xs) (hk : KeepBut w w1 g none) (hb : ∃ cs, w.heap[g]? = some (.cells cs 62 (0, 0))) : Kd.R Kd.string 9 w1 0 (fun _ => True) v xs := by
 obtain ⟨cs, hc⟩ := hb
 exact Kd.R_mono (Kd.R_keep (Kd.R_types h hc (by intro q hq; simp [Kd.string, Kd.scalar] at hq; subst hq; decide)) hk (fun _ hk => hk.2)) (fun _ _ => trivial)
theorem ruProd_calls (k : Nat) (ih : ∀ q, q ≤ k → RuC 94 (ruAtom q)) : RuC 85 (ruProd (k + 1)) := by
 intro w0 w g ws m i out b j o hI h
 have HI := am_ hI
 clear hI
 simp only [ruProd] at h
 obtain ⟨⟨b1, j1, o1⟩, e1, h⟩ := Option.bind_eq_some_iff.mp h
 have E1 := am_ e1
 have IH1 := am_ (ih k (Nat.le_refl k))
 have IH := am_ ih
 clear ih e1
 by_cases hb1 : b1 = true
 ·subst hb1
  replace h : ruProdL k ws j1 o1 = some (b, j, o) := by simpa using h
  have H' := am_ h
  clear h
  go_enter Tryz.func85, Tryz.ntmps85
  go_wp2_with (first | ((with_reducible refine gk_ 94 ?_); (try (refine gate_guard (by rfl) ?_; dsimp only)); refine gq_ 5 Tryz.func94 #[.pointer (some ⟨g, 0, none⟩)] ?_; refine (IH1.out w0 _ g ws m i out true _ _ ?sd E1.out).mono ?_; (case sd => exact RP.hh HI); rintro e w1 ⟨rfl, hr_⟩; refine ⟨_, rfl, ?_⟩; replace HI := am_ hr_; clear hr_))
  go_loopg [] k (fun kq w' => ∃ (i1 : Nat) (o2 : List S73), Aside0 (ruProdL kq ws i1 o2 = some (b, j, o)) ∧ Aside0 (kq ≤ k) ∧ Aside0 (RP w0 w' g ws m i1 o2))
  case atStart => exact ⟨_, _, H', ⟨Nat.le_refl _⟩, HI⟩
  case round =>
   clear H' HI IH1 E1
   obtain ⟨i1, o2, HA, HK, HI⟩ := hrel
   cases gk with
   | zero => exact absurd HA.out (by simp [ruProdL])
   | succ q =>
    have h := HA.out
    clear HA
    simp only [ruProdL] at h
    have hq : q ≤ k := by have := HK.out; omega
    have IH1 := am_ (IH.out q hq)
    clear hq
    by_cases hc0 : isW ws i1 (⟨#[42]⟩ : ByteArray) = true
    ·rw [if_pos hc0] at h
     obtain ⟨⟨b2, j2, o3⟩, e2, h⟩ := Option.bind_eq_some_iff.mp h
     have E2 := am_ e2
     clear e2
     have C0 := am_ hc0
     have C1 := am_ (isW_ne (t := (⟨#[47]⟩ : ByteArray)) hc0 (by kernel_rfl))
     have HLT := am_ (isW_lt hc0)
     clear hc0
     obtain ⟨x, HX, hx0, hx1, hc1_, hf1_⟩ := HI.out.at_
     by_cases hb2 : b2 = true
     ·subst hb2
      replace h : ruProdL q ws j2 (o3 ++ [⟨4, 0⟩]) = some (b, j, o) := by simpa using h
      have H' := am_ h
      clear h
      go_wp2_with (first | ((with_reducible refine gk_ 84 ?_); (try (refine gate_guard (by rfl) ?_; dsimp only)); refine gq_ 8 Tryz.func84 #[.pointer (some ⟨g, 0, none⟩), .string ⟨#[42]⟩] ?_; (with_reducible refine (ruIs w0 _ g ws m i1 o2 (⟨#[42]⟩ : ByteArray) true ?sd C0.out).mono ?_); (case sd => exact RP.hh HI); rintro e w1 ⟨rfl, ⟨nq_, rfl⟩⟩; refine ⟨_, rfl, ?_⟩) | ((with_reducible refine gk_ 84 ?_); (try (refine gate_guard (by rfl) ?_; dsimp only)); refine gq_ 14 Tryz.func84 #[.pointer (some ⟨g, 0, none⟩), .string ⟨#[47]⟩] ?_; (with_reducible refine (ruIs w0 _ g ws m i1 o2 (⟨#[47]⟩ : ByteArray) false ?sd C1.out).mono ?_); (case sd => exact RP.hh HI); rintro e w1 ⟨rfl, ⟨nq_, rfl⟩⟩; refine ⟨_, rfl, ?_⟩) | ((with_reducible refine gk_ 94 ?_); (try (refine gate_guard (by rfl) ?_; dsimp only)); refine gq_ 23 Tryz.func94 #[.pointer (some ⟨g, 0, none⟩)] ?_; refine (IH1.out w0 _ g ws (m + 1) (i1 + 1) o2 true _ _ ?sd E2.out).mono ?_; (case sd => exact RP.step_ HI.out HLT.out HX.out ⟨rfl, rfl, rfl, rfl⟩); rintro e w1 ⟨rfl, hr_⟩; refine ⟨_, rfl, ?_⟩; replace HI := am_ hr_; clear hr_) | ((with_reducible refine gk_ 74 ?_); (try (refine gate_guard (by rfl) ?_; dsimp only)); refine gq_ 27 Tryz.func74 #[.pointer (some ⟨g, 0, none⟩), .int .i64 4, .int .i64 0] ?_; (with_reducible refine (ruAdd w0 _ g ws m j2 o3 4 0 ?sd).mono ?_); (case sd => exact RP.hh HI); rintro e w1 ⟨rfl, hr_⟩; refine ⟨_, rfl, ?_⟩; replace HI := am_ hr_; clear hr_))
      go_roundg q
      case measure => omega
      case rel => exact ⟨_, _, H', ⟨by have := HK.out; omega⟩, HI⟩
     ·replace hb2 := Bool.eq_false_iff.mpr hb2
      subst hb2
      replace h : some (false, j2, o3) = some (b, j, o) := by simpa using h
      simp only [Option.some.injEq, Prod.mk.injEq] at h
      obtain ⟨rfl, rfl, rfl⟩ := h
      go_wp2_with (first | ((with_reducible refine gk_ 84 ?_); (try (refine gate_guard (by rfl) ?_; dsimp only)); refine gq_ 8 Tryz.func84 #[.pointer (some ⟨g, 0, none⟩), .string ⟨#[42]⟩] ?_; (with_reducible refine (ruIs w0 _ g ws m i1 o2 (⟨#[42]⟩ : ByteArray) true ?sd C0.out).mono ?_); (case sd => exact RP.hh HI); rintro e w1 ⟨rfl, ⟨nq_, rfl⟩⟩; refine ⟨_, rfl, ?_⟩) | ((with_reducible refine gk_ 84 ?_); (try (refine gate_guard (by rfl) ?_; dsimp only)); refine gq_ 14 Tryz.func84 #[.pointer (some ⟨g, 0, none⟩), .string ⟨#[47]⟩] ?_; (with_reducible refine (ruIs w0 _ g ws m i1 o2 (⟨#[47]⟩ : ByteArray) false ?sd C1.out).mono ?_); (case sd => exact RP.hh HI); rintro e w1 ⟨rfl, ⟨nq_, rfl⟩⟩; refine ⟨_, rfl, ?_⟩) | ((with_reducible refine gk_ 94 ?_); (try (refine gate_guard (by rfl) ?_; dsimp only)); refine gq_ 23 Tryz.func94 #[.pointer (some ⟨g, 0, none⟩)] ?_; refine (IH1.out w0 _ g ws (m + 1) (i1 + 1) o2 false _ _ ?sd E2.out).mono ?_; (case sd => exact RP.step_ HI.out HLT.out HX.out ⟨rfl, rfl, rfl, rfl⟩); rintro e w1 ⟨rfl, hr_⟩; refine ⟨_, rfl, ?_⟩; replace HI := am_ hr_; clear hr_))
      go_ret
      exact ⟨rfl, HI.out.slack⟩
    ·rw [if_neg hc0] at h
     by_cases hc1 : isW ws i1 (⟨#[47]⟩ : ByteArray) = true
     ·rw [if_pos hc1] at h
      obtain ⟨⟨b2, j2, o3⟩, e2, h⟩ := Option.bind_eq_some_iff.mp h
      have E2 := am_ e2
      clear e2
      have C0 := am_ (Bool.eq_false_iff.mpr hc0)
      have C1 := am_ hc1
      have HLT := am_ (isW_lt hc1)
      clear hc0 hc1
      obtain ⟨x, HX, hx0, hx1, hc1_, hf1_⟩ := HI.out.at_
      by_cases hb2 : b2 = true
      ·subst hb2
       replace h : ruProdL q ws j2 (o3 ++ [⟨5, 0⟩]) = some (b, j, o) := by simpa using h
       have H' := am_ h
       clear h
       go_wp2_with (first | ((with_reducible refine gk_ 84 ?_); (try (refine gate_guard (by rfl) ?_; dsimp only)); refine gq_ 8 Tryz.func84 #[.pointer (some ⟨g, 0, none⟩), .string ⟨#[42]⟩] ?_; (with_reducible refine (ruIs w0 _ g ws m i1 o2 (⟨#[42]⟩ : ByteArray) false ?sd C0.out).mono ?_); (case sd => exact RP.hh HI); rintro e w1 ⟨rfl, ⟨nq_, rfl⟩⟩; refine ⟨_, rfl, ?_⟩) | ((with_reducible refine gk_ 84 ?_); (try (refine gate_guard (by rfl) ?_; dsimp only)); refine gq_ 11 Tryz.func84 #[.pointer (some ⟨g, 0, none⟩), .string ⟨#[47]⟩] ?_; (with_reducible refine (ruIs w0 _ g ws m i1 o2 (⟨#[47]⟩ : ByteArray) true ?sd C1.out).mono ?_); (case sd => exact RP.hh HI); rintro e w1 ⟨rfl, ⟨nq_, rfl⟩⟩; refine ⟨_, rfl, ?_⟩) | ((with_reducible refine gk_ 84 ?_); (try (refine gate_guard (by rfl) ?_; dsimp only)); refine gq_ 14 Tryz.func84 #[.pointer (some ⟨g, 0, none⟩), .string ⟨#[47]⟩] ?_; (with_reducible refine (ruIs w0 _ g ws m i1 o2 (⟨#[47]⟩ : ByteArray) true ?sd C1.out).mono ?_); (case sd => exact RP.hh HI); rintro e w1 ⟨rfl, ⟨nq_, rfl⟩⟩; refine ⟨_, rfl, ?_⟩) | ((with_reducible refine gk_ 94 ?_); (try (refine gate_guard (by rfl) ?_; dsimp only)); refine gq_ 23 Tryz.func94 #[.pointer (some ⟨g, 0, none⟩)] ?_; refine (IH1.out w0 _ g ws (m + 1) (i1 + 1) o2 true _ _ ?sd E2.out).mono ?_; (case sd => exact RP.step_ HI.out HLT.out HX.out ⟨rfl, rfl, rfl, rfl⟩); rintro e w1 ⟨rfl, hr_⟩; refine ⟨_, rfl, ?_⟩; replace HI := am_ hr_; clear hr_) | ((with_reducible refine gk_ 74 ?_); (try (refine gate_guard (by rfl) ?_; dsimp only)); refine gq_ 27 Tryz.func74 #[.pointer (some ⟨g, 0, none⟩), .int .i64 5, .int .i64 0] ?_; (with_reducible refine (ruAdd w0 _ g ws m j2 o3 5 0 ?sd).mono ?_); (case sd => exact RP.hh HI); rintro e w1 ⟨rfl, hr_⟩; refine ⟨_, rfl, ?_⟩; replace HI := am_ hr_; clear hr_))
       go_roundg q
       case measure => omega
       case rel => exact ⟨_, _, H', ⟨by have := HK.out; omega⟩, HI⟩
      ·replace hb2 := Bool.eq_false_iff.mpr hb2
       subst hb2
       replace h : some (false, j2, o3) = some (b, j, o) := by simpa using h
       simp only [Option.some.injEq, Prod.mk.injEq] at h
       obtain ⟨rfl, rfl, rfl⟩ := h
       go_wp2_with (first | ((with_reducible refine gk_ 84 ?_); (try (refine gate_guard (by rfl) ?_; dsimp only)); refine gq_ 8 Tryz.func84 #[.pointer (some ⟨g, 0, none⟩), .string ⟨#[42]⟩] ?_; (with_reducible refine (ruIs w0 _ g ws m i1 o2 (⟨#[42]⟩ : ByteArray) false ?sd C0.out).mono ?_); (case sd => exact RP.hh HI); rintro e w1 ⟨rfl, ⟨nq_, rfl⟩⟩; refine ⟨_, rfl, ?_⟩) | ((with_reducible refine gk_ 84 ?_); (try (refine gate_guard (by rfl) ?_; dsimp only)); refine gq_ 11 Tryz.func84 #[.pointer (some ⟨g, 0, none⟩), .string ⟨#[47]⟩] ?_; (with_reducible refine (ruIs w0 _ g ws m i1 o2 (⟨#[47]⟩ : ByteArray) true ?sd C1.out).mono ?_); (case sd => exact RP.hh HI); rintro e w1 ⟨rfl, ⟨nq_, rfl⟩⟩; refine ⟨_, rfl, ?_⟩) | ((with_reducible refine gk_ 84 ?_); (try (refine gate_guard (by rfl) ?_; dsimp only)); refine gq_ 14 Tryz.func84 #[.pointer (some ⟨g, 0, none⟩), .string ⟨#[47]⟩] ?_; (with_reducible refine (ruIs w0 _ g ws m i1 o2 (⟨#[47]⟩ : ByteArray) true ?sd C1.out).mono ?_); (case sd => exact RP.hh HI); rintro e w1 ⟨rfl, ⟨nq_, rfl⟩⟩; refine ⟨_, rfl, ?_⟩) | ((with_reducible refine gk_ 94 ?_); (try (refine gate_guard (by rfl) ?_; dsimp only)); refine gq_ 23 Tryz.func94 #[.pointer (some ⟨g, 0, none⟩)] ?_; refine (IH1.out w0 _ g ws (m + 1) (i1 + 1) o2 false _ _ ?sd E2.out).mono ?_; (case sd => exact RP.step_ HI.out HLT.out HX.out ⟨rfl, rfl, rfl, rfl⟩); rintro e w1 ⟨rfl, hr_⟩; refine ⟨_, rfl, ?_⟩; replace HI := am_ hr_; clear hr_))
       go_ret
       exact ⟨rfl, HI.out.slack⟩
     ·rw [if_neg hc1] at h
      have C0 := am_ (Bool.eq_false_iff.mpr hc0)
      have C1 := am_ (Bool.eq_false_iff.mpr hc1)
      clear hc0 hc1
      simp only [Option.some.injEq, Prod.mk.injEq] at h
      obtain ⟨rfl, rfl, rfl⟩ := h
      go_wp2_with (first | ((with_reducible refine gk_ 84 ?_); (try (refine gate_guard (by rfl) ?_; dsimp only)); refine gq_ 8 Tryz.func84 #[.pointer (some ⟨g, 0, none⟩), .string ⟨#[42]⟩] ?_; (with_reducible refine (ruIs w0 _ g ws m i1 o2 (⟨#[42]⟩ : ByteArray) false ?sd C0.out).mono ?_); (case sd => exact RP.hh HI); rintro e w1 ⟨rfl, ⟨nq_, rfl⟩⟩; refine ⟨_, rfl, ?_⟩) | ((with_reducible refine gk_ 84 ?_); (try (refine gate_guard (by rfl) ?_; dsimp only)); refine gq_ 11 Tryz.func84 #[.pointer (some ⟨g, 0, none⟩), .string ⟨#[47]⟩] ?_; (with_reducible refine (ruIs w0 _ g ws m i1 o2 (⟨#[47]⟩ : ByteArray) false ?sd C1.out).mono ?_); (case sd => exact RP.hh HI); rintro e w1 ⟨rfl, ⟨nq_, rfl⟩⟩; refine ⟨_, rfl, ?_⟩))
      go_ret
      exact ⟨rfl, HI.out.of_heap ⟨rfl, rfl, rfl, rfl⟩⟩
 ·replace hb1 := Bool.eq_false_iff.mpr hb1
  subst hb1
  replace h : some (false, j1, o1) = some (b, j, o) := by simpa using h
  simp only [Option.some.injEq, Prod.mk.injEq] at h
  obtain ⟨rfl, rfl, rfl⟩ := h
  go_enter Tryz.func85, Tryz.ntmps85
  go_wp2_with (first | ((with_reducible refine gk_ 94 ?_); (try (refine gate_guard (by rfl) ?_; dsimp only)); refine gq_ 5 Tryz.func94 #[.pointer (some ⟨g, 0, none⟩)] ?_; refine (IH1.out w0 _ g ws m i out false _ _ ?sd E1.out).mono ?_; (case sd => exact RP.hh HI); rintro e w1 ⟨rfl, hr_⟩; refine ⟨_, rfl, ?_⟩; replace HI := am_ hr_; clear hr_))
  go_ret
  exact ⟨rfl, HI.out⟩
theorem ruSum_calls (k : Nat) (ih : ∀ q, q ≤ k → RuC 85 (ruProd q)) : RuC 73 (ruSum (k + 1)) := by
 intro w0 w g ws m i out b j o hI h
 have HI := am_ hI
 clear hI
 simp only [ruSum] at h
 obtain ⟨⟨b1, j1, o1⟩, e1, h⟩ := Option.bind_eq_some_iff.mp h
 have E1 := am_ e1
 have IH1 := am_ (ih k (Nat.le_refl k))
 have IH := am_ ih
 clear ih e1
 by_cases hb1 : b1 = true
 ·subst hb1
  replace h : ruSumL k ws j1 o1 = some (b, j, o) := by simpa using h
  have H' := am_ h
  clear h
  go_enter Tryz.func73, Tryz.ntmps73
  go_wp2_with (first | ((with_reducible refine gk_ 85 ?_); (try (refine gate_guard (by rfl) ?_; dsimp only)); refine gq_ 5 Tryz.func85 #[.pointer (some ⟨g, 0, none⟩)] ?_; refine (IH1.out w0 _ g ws m i out true _ _ ?sd E1.out).mono ?_; (case sd => exact RP.hh HI); rintro e w1 ⟨rfl, hr_⟩; refine ⟨_, rfl, ?_⟩; replace HI := am_ hr_; clear hr_))
  go_loopg [] k (fun kq w' => ∃ (i1 : Nat) (o2 : List S73), Aside0 (ruSumL kq ws i1 o2 = some (b, j, o)) ∧ Aside0 (kq ≤ k) ∧ Aside0 (RP w0 w' g ws m i1 o2))
  case atStart => exact ⟨_, _, H', ⟨Nat.le_refl _⟩, HI⟩
  case round =>
   clear H' HI IH1 E1
   obtain ⟨i1, o2, HA, HK, HI⟩ := hrel
   cases gk with
   | zero => exact absurd HA.out (by simp [ruSumL])
   | succ q =>
    have h := HA.out
    clear HA
    simp only [ruSumL] at h
    have hq : q ≤ k := by have := HK.out; omega
    have IH1 := am_ (IH.out q hq)
    clear hq
    by_cases hc0 : isW ws i1 (⟨#[43]⟩ : ByteArray) = true
    ·rw [if_pos hc0] at h
     obtain ⟨⟨b2, j2, o3⟩, e2, h⟩ := Option.bind_eq_some_iff.mp h
     have E2 := am_ e2
     clear e2
     have C0 := am_ hc0
     have C1 := am_ (isW_ne (t := (⟨#[45]⟩ : ByteArray)) hc0 (by kernel_rfl))
     have HLT := am_ (isW_lt hc0)
     clear hc0
     obtain ⟨x, HX, hx0, hx1, hc1_, hf1_⟩ := HI.out.at_
     by_cases hb2 : b2 = true
     ·subst hb2
      replace h : ruSumL q ws j2 (o3 ++ [⟨2, 0⟩]) = some (b, j, o) := by simpa using h
      have H' := am_ h
      clear h
      go_wp2_with (first | ((with_reducible refine gk_ 84 ?_); (try (refine gate_guard (by rfl) ?_; dsimp only)); refine gq_ 8 Tryz.func84 #[.pointer (some ⟨g, 0, none⟩), .string ⟨#[43]⟩] ?_; (with_reducible refine (ruIs w0 _ g ws m i1 o2 (⟨#[43]⟩ : ByteArray) true ?sd C0.out).mono ?_); (case sd => exact RP.hh HI); rintro e w1 ⟨rfl, ⟨nq_, rfl⟩⟩; refine ⟨_, rfl, ?_⟩) | ((with_reducible refine gk_ 84 ?_); (try (refine gate_guard (by rfl) ?_; dsimp only)); refine gq_ 14 Tryz.func84 #[.pointer (some ⟨g, 0, none⟩), .string ⟨#[45]⟩] ?_; (with_reducible refine (ruIs w0 _ g ws m i1 o2 (⟨#[45]⟩ : ByteArray) false ?sd C1.out).mono ?_); (case sd => exact RP.hh HI); rintro e w1 ⟨rfl, ⟨nq_, rfl⟩⟩; refine ⟨_, rfl, ?_⟩) | ((with_reducible refine gk_ 85 ?_); (try (refine gate_guard (by rfl) ?_; dsimp only)); refine gq_ 23 Tryz.func85 #[.pointer (some ⟨g, 0, none⟩)] ?_; refine (IH1.out w0 _ g ws (m + 1) (i1 + 1) o2 true _ _ ?sd E2.out).mono ?_; (case sd => exact RP.step_ HI.out HLT.out HX.out ⟨rfl, rfl, rfl, rfl⟩); rintro e w1 ⟨rfl, hr_⟩; refine ⟨_, rfl, ?_⟩; replace HI := am_ hr_; clear hr_) | ((with_reducible refine gk_ 74 ?_); (try (refine gate_guard (by rfl) ?_; dsimp only)); refine gq_ 27 Tryz.func74 #[.pointer (some ⟨g, 0, none⟩), .int .i64 2, .int .i64 0] ?_; (with_reducible refine (ruAdd w0 _ g ws m j2 o3 2 0 ?sd).mono ?_); (case sd => exact RP.hh HI); rintro e w1 ⟨rfl, hr_⟩; refine ⟨_, rfl, ?_⟩; replace HI := am_ hr_; clear hr_))
      go_roundg q
      case measure => omega
      case rel => exact ⟨_, _, H', ⟨by have := HK.out; omega⟩, HI⟩
     ·replace hb2 := Bool.eq_false_iff.mpr hb2
      subst hb2
      replace h : some (false, j2, o3) = some (b, j, o) := by simpa using h
      simp only [Option.some.injEq, Prod.mk.injEq] at h
      obtain ⟨rfl, rfl, rfl⟩ := h
      go_wp2_with (first | ((with_reducible refine gk_ 84 ?_); (try (refine gate_guard (by rfl) ?_; dsimp only)); refine gq_ 8 Tryz.func84 #[.pointer (some ⟨g, 0, none⟩), .string ⟨#[43]⟩] ?_; (with_reducible refine (ruIs w0 _ g ws m i1 o2 (⟨#[43]⟩ : ByteArray) true ?sd C0.out).mono ?_); (case sd => exact RP.hh HI); rintro e w1 ⟨rfl, ⟨nq_, rfl⟩⟩; refine ⟨_, rfl, ?_⟩) | ((with_reducible refine gk_ 84 ?_); (try (refine gate_guard (by rfl) ?_; dsimp only)); refine gq_ 14 Tryz.func84 #[.pointer (some ⟨g, 0, none⟩), .string ⟨#[45]⟩] ?_; (with_reducible refine (ruIs w0 _ g ws m i1 o2 (⟨#[45]⟩ : ByteArray) false ?sd C1.out).mono ?_); (case sd => exact RP.hh HI); rintro e w1 ⟨rfl, ⟨nq_, rfl⟩⟩; refine ⟨_, rfl, ?_⟩) | ((with_reducible refine gk_ 85 ?_); (try (refine gate_guard (by rfl) ?_; dsimp only)); refine gq_ 23 Tryz.func85 #[.pointer (some ⟨g, 0, none⟩)] ?_; refine (IH1.out w0 _ g ws (m + 1) (i1 + 1) o2 false _ _ ?sd E2.out).mono ?_; (case sd => exact RP.step_ HI.out HLT.out HX.out ⟨rfl, rfl, rfl, rfl⟩); rintro e w1 ⟨rfl, hr_⟩; refine ⟨_, rfl, ?_⟩; replace HI := am_ hr_; clear hr_))
      go_ret
      exact ⟨rfl, HI.out.slack⟩
    ·rw [if_neg hc0] at h
     by_cases hc1 : isW ws i1 (⟨#[45]⟩ : ByteArray) = true
     ·rw [if_pos hc1] at h
      obtain ⟨⟨b2, j2, o3⟩, e2, h⟩ := Option.bind_eq_some_iff.mp h
      have E2 := am_ e2
      clear e2
      have C0 := am_ (Bool.eq_false_iff.mpr hc0)
      have C1 := am_ hc1
      have HLT := am_ (isW_lt hc1)
      clear hc0 hc1
      obtain ⟨x, HX, hx0, hx1, hc1_, hf1_⟩ := HI.out.at_
      by_cases hb2 : b2 = true
      ·subst hb2
       replace h : ruSumL q ws j2 (o3 ++ [⟨3, 0⟩]) = some (b, j, o) := by simpa using h
       have H' := am_ h
       clear h
       go_wp2_with (first | ((with_reducible refine gk_ 84 ?_); (try (refine gate_guard (by rfl) ?_; dsimp only)); refine gq_ 8 Tryz.func84 #[.pointer (some ⟨g, 0, none⟩), .string ⟨#[43]⟩] ?_; (with_reducible refine (ruIs w0 _ g ws m i1 o2 (⟨#[43]⟩ : ByteArray) false ?sd C0.out).mono ?_); (case sd => exact RP.hh HI); rintro e w1 ⟨rfl, ⟨nq_, rfl⟩⟩; refine ⟨_, rfl, ?_⟩) | ((with_reducible refine gk_ 84 ?_); (try (refine gate_guard (by rfl) ?_; dsimp only)); refine gq_ 11 Tryz.func84 #[.pointer (some ⟨g, 0, none⟩), .string ⟨#[45]⟩] ?_; (with_reducible refine (ruIs w0 _ g ws m i1 o2 (⟨#[45]⟩ : ByteArray) true ?sd C1.out).mono ?_); (case sd => exact RP.hh HI); rintro e w1 ⟨rfl, ⟨nq_, rfl⟩⟩; refine ⟨_, rfl, ?_⟩) | ((with_reducible refine gk_ 84 ?_); (try (refine gate_guard (by rfl) ?_; dsimp only)); refine gq_ 14 Tryz.func84 #[.pointer (some ⟨g, 0, none⟩), .string ⟨#[45]⟩] ?_; (with_reducible refine (ruIs w0 _ g ws m i1 o2 (⟨#[45]⟩ : ByteArray) true ?sd C1.out).mono ?_); (case sd => exact RP.hh HI); rintro e w1 ⟨rfl, ⟨nq_, rfl⟩⟩; refine ⟨_, rfl, ?_⟩) | ((with_reducible refine gk_ 85 ?_); (try (refine gate_guard (by rfl) ?_; dsimp only)); refine gq_ 23 Tryz.func85 #[.pointer (some ⟨g, 0, none⟩)] ?_; refine (IH1.out w0 _ g ws (m + 1) (i1 + 1) o2 true _ _ ?sd E2.out).mono ?_; (case sd => exact RP.step_ HI.out HLT.out HX.out ⟨rfl, rfl, rfl, rfl⟩); rintro e w1 ⟨rfl, hr_⟩; refine ⟨_, rfl, ?_⟩; replace HI := am_ hr_; clear hr_) | ((with_reducible refine gk_ 74 ?_); (try (refine gate_guard (by rfl) ?_; dsimp only)); refine gq_ 27 Tryz.func74 #[.pointer (some ⟨g, 0, none⟩), .int .i64 3, .int .i64 0] ?_; (with_reducible refine (ruAdd w0 _ g ws m j2 o3 3 0 ?sd).mono ?_); (case sd => exact RP.hh HI); rintro e w1 ⟨rfl, hr_⟩; refine ⟨_, rfl, ?_⟩; replace HI := am_ hr_; clear hr_))
       go_roundg q
       case measure => omega
       case rel => exact ⟨_, _, H', ⟨by have := HK.out; omega⟩, HI⟩
      ·replace hb2 := Bool.eq_false_iff.mpr hb2
       subst hb2
       replace h : some (false, j2, o3) = some (b, j, o) := by simpa using h
       simp only [Option.some.injEq, Prod.mk.injEq] at h
       obtain ⟨rfl, rfl, rfl⟩ := h
       go_wp2_with (first | ((with_reducible refine gk_ 84 ?_); (try (refine gate_guard (by rfl) ?_; dsimp only)); refine gq_ 8 Tryz.func84 #[.pointer (some ⟨g, 0, none⟩), .string ⟨#[43]⟩] ?_; (with_reducible refine (ruIs w0 _ g ws m i1 o2 (⟨#[43]⟩ : ByteArray) false ?sd C0.out).mono ?_); (case sd => exact RP.hh HI); rintro e w1 ⟨rfl, ⟨nq_, rfl⟩⟩; refine ⟨_, rfl, ?_⟩) | ((with_reducible refine gk_ 84 ?_); (try (refine gate_guard (by rfl) ?_; dsimp only)); refine gq_ 11 Tryz.func84 #[.pointer (some ⟨g, 0, none⟩), .string ⟨#[45]⟩] ?_; (with_reducible refine (ruIs w0 _ g ws m i1 o2 (⟨#[45]⟩ : ByteArray) true ?sd C1.out).mono ?_); (case sd => exact RP.hh HI); rintro e w1 ⟨rfl, ⟨nq_, rfl⟩⟩; refine ⟨_, rfl, ?_⟩) | ((with_reducible refine gk_ 84 ?_); (try (refine gate_guard (by rfl) ?_; dsimp only)); refine gq_ 14 Tryz.func84 #[.pointer (some ⟨g, 0, none⟩), .string ⟨#[45]⟩] ?_; (with_reducible refine (ruIs w0 _ g ws m i1 o2 (⟨#[45]⟩ : ByteArray) true ?sd C1.out).mono ?_); (case sd => exact RP.hh HI); rintro e w1 ⟨rfl, ⟨nq_, rfl⟩⟩; refine ⟨_, rfl, ?_⟩) | ((with_reducible refine gk_ 85 ?_); (try (refine gate_guard (by rfl) ?_; dsimp only)); refine gq_ 23 Tryz.func85 #[.pointer (some ⟨g, 0, none⟩)] ?_; refine (IH1.out w0 _ g ws (m + 1) (i1 + 1) o2 false _ _ ?sd E2.out).mono ?_; (case sd => exact RP.step_ HI.out HLT.out HX.out ⟨rfl, rfl, rfl, rfl⟩); rintro e w1 ⟨rfl, hr_⟩; refine ⟨_, rfl, ?_⟩; replace HI := am_ hr_; clear hr_))
       go_ret
       exact ⟨rfl, HI.out.slack⟩
     ·rw [if_neg hc1] at h
      have C0 := am_ (Bool.eq_false_iff.mpr hc0)
      have C1 := am_ (Bool.eq_false_iff.mpr hc1)
      clear hc0 hc1
      simp only [Option.some.injEq, Prod.mk.injEq] at h
      obtain ⟨rfl, rfl, rfl⟩ := h
      go_wp2_with (first | ((with_reducible refine gk_ 84 ?_); (try (refine gate_guard (by rfl) ?_; dsimp only)); refine gq_ 8 Tryz.func84 #[.pointer (some ⟨g, 0, none⟩), .string ⟨#[43]⟩] ?_; (with_reducible refine (ruIs w0 _ g ws m i1 o2 (⟨#[43]⟩ : ByteArray) false ?sd C0.out).mono ?_); (case sd => exact RP.hh HI); rintro e w1 ⟨rfl, ⟨nq_, rfl⟩⟩; refine ⟨_, rfl, ?_⟩) | ((with_reducible refine gk_ 84 ?_); (try (refine gate_guard (by rfl) ?_; dsimp only)); refine gq_ 11 Tryz.func84 #[.pointer (some ⟨g, 0, none⟩), .string ⟨#[45]⟩] ?_; (with_reducible refine (ruIs w0 _ g ws m i1 o2 (⟨#[45]⟩ : ByteArray) false ?sd C1.out).mono ?_); (case sd => exact RP.hh HI); rintro e w1 ⟨rfl, ⟨nq_, rfl⟩⟩; refine ⟨_, rfl, ?_⟩))
      go_ret
      exact ⟨rfl, HI.out.of_heap ⟨rfl, rfl, rfl, rfl⟩⟩
 ·replace hb1 := Bool.eq_false_iff.mpr hb1
  subst hb1
  replace h : some (false, j1, o1) = some (b, j, o) := by simpa using h
  simp only [Option.some.injEq, Prod.mk.injEq] at h
  obtain ⟨rfl, rfl, rfl⟩ := h
  go_enter Tryz.func73, Tryz.ntmps73
  go_wp2_with (first | ((with_reducible refine gk_ 85 ?_); (try (refine gate_guard (by rfl) ?_; dsimp only)); refine gq_ 5 Tryz.func85 #[.pointer (some ⟨g, 0, none⟩)] ?_; refine (IH1.out w0 _ g ws m i out false _ _ ?sd E1.out).mono ?_; (case sd => exact RP.hh HI); rintro e w1 ⟨rfl, hr_⟩; refine ⟨_, rfl, ?_⟩; replace HI := am_ hr_; clear hr_))
  go_ret
  exact ⟨rfl, HI.out⟩
theorem ruAtom_calls (k : Nat) (ih : ∀ q, q ≤ k → RuC 56 (ruRule q)) : RuC 94 (ruAtom (k + 1)) := by
 intro w0 w g ws m i out b j o hI h
 have HI := am_ hI
 simp only [ruAtom] at h
 have IH1 := am_ (ih k (Nat.le_refl k))
 clear ih hI
 by_cases c1 : isW ws i (⟨#[40]⟩ : ByteArray) = true
 ·rw [if_pos c1] at h
  obtain ⟨⟨b1, j1, o1⟩, e1, h⟩ := Option.bind_eq_some_iff.mp h
  have E1 := am_ e1
  have C1 := am_ c1
  clear e1 c1
  by_cases hb1 : b1 = true
  ·subst hb1
   by_cases c2 : isW ws j1 (⟨#[41]⟩ : ByteArray) = true
   ·have C2 := am_ c2
    replace h : some (true, j1 + 1, o1) = some (b, j, o) := by simpa [c2] using h
    simp only [Option.some.injEq, Prod.mk.injEq] at h
    obtain ⟨rfl, rfl, rfl⟩ := h
    clear c2
    go_enter Tryz.func94, Tryz.ntmps94
    go_wp2_with (first | ((with_reducible refine gk_ 72 ?_); (try (refine gate_guard (by rfl) ?_; dsimp only)); refine gq_ 8 Tryz.func72 #[.pointer (some ⟨g, 0, none⟩), .string ⟨#[40]⟩] ?_; (with_reducible refine (ruTakeT w0 _ g ws m i out (⟨#[40]⟩ : ByteArray) ?sd C1.out).mono ?_); (case sd => exact RP.hh HI); rintro e w1 ⟨rfl, hr_, hk_⟩; refine ⟨_, rfl, ?_⟩; replace HI := am_ hr_; clear hr_ hk_) | ((with_reducible refine gk_ 56 ?_); (try (refine gate_guard (by rfl) ?_; dsimp only)); refine gq_ 10 Tryz.func56 #[.pointer (some ⟨g, 0, none⟩)] ?_; refine (IH1.out w0 _ g ws (m + 1) (i + 1) out true _ _ ?sd E1.out).mono ?_; (case sd => exact RP.hh HI); rintro e w1 ⟨rfl, hr_⟩; refine ⟨_, rfl, ?_⟩; replace HI := am_ hr_; clear hr_) | ((with_reducible refine gk_ 72 ?_); (try (refine gate_guard (by rfl) ?_; dsimp only)); refine gq_ 13 Tryz.func72 #[.pointer (some ⟨g, 0, none⟩), .string ⟨#[41]⟩] ?_; (with_reducible refine (ruTakeT w0 _ g ws (m + 1) j1 o1 (⟨#[41]⟩ : ByteArray) ?sd C2.out).mono ?_); (case sd => exact RP.hh HI); rintro e w1 ⟨rfl, hr_, hk_⟩; refine ⟨_, rfl, ?_⟩; replace HI := am_ hr_; clear hr_ hk_))
    go_ret
    exact ⟨rfl, RP.slacks (RP.of_heap HI.out ⟨rfl, rfl, rfl, rfl⟩) (by omega)⟩
   ·have C2 := am_ (Bool.eq_false_iff.mpr c2)
    replace h : some (false, j1, o1) = some (b, j, o) := by simpa [c2] using h
    simp only [Option.some.injEq, Prod.mk.injEq] at h
    obtain ⟨rfl, rfl, rfl⟩ := h
    clear c2
    go_enter Tryz.func94, Tryz.ntmps94
    go_wp2_with (first | ((with_reducible refine gk_ 72 ?_); (try (refine gate_guard (by rfl) ?_; dsimp only)); refine gq_ 8 Tryz.func72 #[.pointer (some ⟨g, 0, none⟩), .string ⟨#[40]⟩] ?_; (with_reducible refine (ruTakeT w0 _ g ws m i out (⟨#[40]⟩ : ByteArray) ?sd C1.out).mono ?_); (case sd => exact RP.hh HI); rintro e w1 ⟨rfl, hr_, hk_⟩; refine ⟨_, rfl, ?_⟩; replace HI := am_ hr_; clear hr_ hk_) | ((with_reducible refine gk_ 56 ?_); (try (refine gate_guard (by rfl) ?_; dsimp only)); refine gq_ 10 Tryz.func56 #[.pointer (some ⟨g, 0, none⟩)] ?_; refine (IH1.out w0 _ g ws (m + 1) (i + 1) out true _ _ ?sd E1.out).mono ?_; (case sd => exact RP.hh HI); rintro e w1 ⟨rfl, hr_⟩; refine ⟨_, rfl, ?_⟩; replace HI := am_ hr_; clear hr_) | ((with_reducible refine gk_ 72 ?_); (try (refine gate_guard (by rfl) ?_; dsimp only)); refine gq_ 13 Tryz.func72 #[.pointer (some ⟨g, 0, none⟩), .string ⟨#[41]⟩] ?_; (with_reducible refine (ruTakeF w0 _ g ws (m + 1) j1 o1 (⟨#[41]⟩ : ByteArray) ?sd C2.out).mono ?_); (case sd => exact RP.hh HI); rintro e w1 ⟨rfl, ⟨nq_, rfl⟩⟩; refine ⟨_, rfl, ?_⟩))
    go_ret
    exact ⟨rfl, RP.slacks (RP.of_heap HI.out ⟨rfl, rfl, rfl, rfl⟩) (by omega)⟩
  ·replace hb1 := Bool.eq_false_iff.mpr hb1
   subst hb1
   replace h : some (false, j1, o1) = some (b, j, o) := by simpa using h
   simp only [Option.some.injEq, Prod.mk.injEq] at h
   obtain ⟨rfl, rfl, rfl⟩ := h
   go_enter Tryz.func94, Tryz.ntmps94
   go_wp2_with (first | ((with_reducible refine gk_ 72 ?_); (try (refine gate_guard (by rfl) ?_; dsimp only)); refine gq_ 8 Tryz.func72 #[.pointer (some ⟨g, 0, none⟩), .string ⟨#[40]⟩] ?_; (with_reducible refine (ruTakeT w0 _ g ws m i out (⟨#[40]⟩ : ByteArray) ?sd C1.out).mono ?_); (case sd => exact RP.hh HI); rintro e w1 ⟨rfl, hr_, hk_⟩; refine ⟨_, rfl, ?_⟩; replace HI := am_ hr_; clear hr_ hk_) | ((with_reducible refine gk_ 56 ?_); (try (refine gate_guard (by rfl) ?_; dsimp only)); refine gq_ 10 Tryz.func56 #[.pointer (some ⟨g, 0, none⟩)] ?_; refine (IH1.out w0 _ g ws (m + 1) (i + 1) out false _ _ ?sd E1.out).mono ?_; (case sd => exact RP.hh HI); rintro e w1 ⟨rfl, hr_⟩; refine ⟨_, rfl, ?_⟩; replace HI := am_ hr_; clear hr_))
   go_ret
   exact ⟨rfl, RP.slacks (RP.of_heap HI.out ⟨rfl, rfl, rfl, rfl⟩) (by omega)⟩
 ·rw [if_neg c1] at h
  have C1 := am_ (Bool.eq_false_iff.mpr c1)
  clear c1 IH1
  by_cases c2 : i = ws.length
  ·rw [if_pos c2] at h
   simp only [Option.some.injEq, Prod.mk.injEq] at h
   obtain ⟨rfl, rfl, rfl⟩ := h
   obtain ⟨x, A0, c0, HX, hx0, hx1, hd0, hd1, hf1⟩ := HI.out.read
   have d1 : (x == (ws.length : Int)) = true := by have := HX.out; simp; omega
   have d2 := am_ c2
   clear c2
   go_enter Tryz.func94, Tryz.ntmps94
   go_wp2_with (first | ((with_reducible refine gk_ 72 ?_); (try (refine gate_guard (by rfl) ?_; dsimp only)); refine gq_ 8 Tryz.func72 #[.pointer (some ⟨g, 0, none⟩), .string ⟨#[40]⟩] ?_; (with_reducible refine (ruTakeF w0 _ g ws m i out (⟨#[40]⟩ : ByteArray) ?sd C1.out).mono ?_); (case sd => exact RP.hh HI); rintro e w1 ⟨rfl, ⟨nq_, rfl⟩⟩; refine ⟨_, rfl, ?_⟩))
   repeat (go_quiet (fail); try go_wp2)
   go_ret
   exact ⟨rfl, RP.of_heap HI.out ⟨rfl, rfl, rfl, rfl⟩⟩
  ·rw [if_neg c2] at h
   obtain ⟨x, A0, c0, HX, hx0, hx1, hd0, hd1, hf1⟩ := HI.out.read
   have HLT := am_ (show i < ws.length from by have := HI.out.2.2.2.1; omega)
   have d1 : (x == (ws.length : Int)) = false := by have := HX.out; simp; omega
   have H' := am_ h
   clear c2 h
   go_enter Tryz.func94, Tryz.ntmps94
   go_wp2_with (first | ((with_reducible refine gk_ 72 ?_); (try (refine gate_guard (by rfl) ?_; dsimp only)); refine gq_ 8 Tryz.func72 #[.pointer (some ⟨g, 0, none⟩), .string ⟨#[40]⟩] ?_; (with_reducible refine (ruTakeF w0 _ g ws m i out (⟨#[40]⟩ : ByteArray) ?sd C1.out).mono ?_); (case sd => exact RP.hh HI); rintro e w1 ⟨rfl, ⟨nq_, rfl⟩⟩; refine ⟨_, rfl, ?_⟩))
   repeat (go_quiet (fail); try go_wp2_with (first | ((with_reducible refine gk_ 48 ?_); (try (refine gate_guard (by rfl) ?_; dsimp only)); refine gq_ 25 Tryz.func48 #[] ?_; (with_reducible refine (spec_ruFields.calls ruF _ ruFlds).mono ?_); rintro e w1 ⟨v1, rfl, ho_, hbq_⟩; refine ⟨_, rfl, ?_⟩; obtain ⟨Af, cf, ef⟩ := Kd.R_slice ho_; subst ef; replace HI := am_ (show RP w0 w1 g ws m i out from by refine RP.below ?_ hbq_; exact RP.hh HI); have HO := am_ (Kd.R_lower ho_ (Nat.zero_le _)); clear ho_ hbq_ hd0 hd1 hf1)))
   go_loopg [27] 5 (fun kq v27 w' => ∃ (y : Int) (kk : Nat), v27 = .int .i64 y ∧ Aside0 (y = (kk : Int)) ∧ Aside0 (kq + kk = 5) ∧ Aside0 (fldFrom 5 ws i 0 = fldFrom kq ws i kk) ∧ Aside0 (RP w0 w' g ws m i out) ∧ Aside0 (Kd.R Kd.string 9 w' 0 (fun _ => True) (.slice Af ruF.length cf) ruF))
   case atStart => exact ⟨0, 0, rfl, ⟨rfl⟩, ⟨rfl⟩, ⟨rfl⟩, ⟨RP.of_heap HI.out ⟨rfl, rfl, rfl, rfl⟩⟩, HO⟩
   case round =>
    clear HI HO d1 hx0 hx1 HX
    obtain ⟨y, kk, rfl, HY, HQ, HF, HI, HO⟩ := hrel
    cases gk with
    | zero =>
     have d0 : decide (y < (ruF.length : Int)) = false := decide_eq_false (by have := HY.out; have := HQ.out; simp [ruF]; omega)
     have h := H'.out
     rw [HF.out] at h
     simp only [fldFrom] at h
     obtain ⟨n, en, h⟩ := Option.bind_eq_some_iff.mp h
     obtain ⟨x, ad, c, HX, p0, p1, hx1, hd0, hd1, hf1, hd3⟩ := HI.out.word HLT.out
     have EN := am_ en
     clear en HF H'
     by_cases hn : n < 0
     ·have dn : decide (n < 0) = true := decide_eq_true hn
      rw [if_pos hn] at h
      simp only [Option.some.injEq, Prod.mk.injEq] at h
      obtain ⟨rfl, rfl, rfl⟩ := h
      clear hn
      by_cases hm : ((wd ws i).toList == [49, 48, 48, 48, 48, 48, 48]) = true
      ·have en : n = 1000000 := by have := EN.out; unfold numOf at this; rw [if_pos hm] at this; exact (Option.some.inj this).symm
       subst en
       exact absurd dn (by decide)
      ·have EL := am_ (show spec_l1Read.f 30 (wd ws i) = some n from by have := EN.out; unfold numOf at this; rw [if_neg hm] at this; exact this)
       replace hm := Bool.eq_false_iff.mpr hm
       go_wp2
       repeat (go_quiet (fail); try go_wp2_with (first | ((with_reducible refine gk_ 100 ?_); (try (refine gate_guard (by rfl) ?_; dsimp only)); refine gq_ 52 Tryz.func100 #[.string (wd ws i)] ?_; (with_reducible refine (spec_l1Read.calls 30 _ n _ EL.out).mono ?_); rintro e w1 ⟨rfl, ⟨nq_, rfl⟩⟩; refine ⟨_, rfl, ?_⟩)))
       go_ret
       exact ⟨rfl, RP.of_heap HI.out ⟨rfl, rfl, rfl, rfl⟩⟩
     ·have dn : decide (n < 0) = false := decide_eq_false hn
      rw [if_neg hn] at h
      simp only [Option.some.injEq, Prod.mk.injEq] at h
      obtain ⟨rfl, rfl, rfl⟩ := h
      clear hn
      by_cases hm : ((wd ws i).toList == [49, 48, 48, 48, 48, 48, 48]) = true
      ·have en : n = 1000000 := by have := EN.out; unfold numOf at this; rw [if_pos hm] at this; exact (Option.some.inj this).symm
       subst en
       clear dn
       go_wp2
       repeat (go_quiet (fail); try go_wp2_with (first | ((with_reducible refine gk_ 74 ?_); (try (refine gate_guard (by rfl) ?_; dsimp only)); refine gq_ 64 Tryz.func74 #[.pointer (some ⟨g, 0, none⟩), .int .i64 0, .int .i64 1000000] ?_; (with_reducible refine (ruAdd w0 _ g ws m (i + 1) out 0 1000000 ?sd).mono ?_); (case sd => exact RP.step_ HI.out HLT.out HX.out ⟨rfl, rfl, rfl, rfl⟩); rintro e w1 ⟨rfl, hr_⟩; refine ⟨_, rfl, ?_⟩; replace HI := am_ hr_; clear hr_)))
       go_ret
       exact ⟨rfl, RP.of_heap HI.out ⟨rfl, rfl, rfl, rfl⟩⟩
      ·have EL := am_ (show spec_l1Read.f 30 (wd ws i) = some n from by have := EN.out; unfold numOf at this; rw [if_neg hm] at this; exact this)
       replace hm := Bool.eq_false_iff.mpr hm
       go_wp2
       repeat (go_quiet (fail); try go_wp2_with (first | ((with_reducible refine gk_ 100 ?_); (try (refine gate_guard (by rfl) ?_; dsimp only)); refine gq_ 52 Tryz.func100 #[.string (wd ws i)] ?_; (with_reducible refine (spec_l1Read.calls 30 _ n _ EL.out).mono ?_); rintro e w1 ⟨rfl, ⟨nq_, rfl⟩⟩; refine ⟨_, rfl, ?_⟩) | ((with_reducible refine gk_ 74 ?_); (try (refine gate_guard (by rfl) ?_; dsimp only)); refine gq_ 64 Tryz.func74 #[.pointer (some ⟨g, 0, none⟩), .int .i64 0, .int .i64 n] ?_; (with_reducible refine (ruAdd w0 _ g ws m (i + 1) out 0 n ?sd).mono ?_); (case sd => exact RP.step_ HI.out HLT.out HX.out ⟨rfl, rfl, rfl, rfl⟩); rintro e w1 ⟨rfl, hr_⟩; refine ⟨_, rfl, ?_⟩; replace HI := am_ hr_; clear hr_)))
       go_ret
       exact ⟨rfl, RP.of_heap HI.out ⟨rfl, rfl, rfl, rfl⟩⟩
    | succ q =>
     have hk : kk < 5 := by have := HQ.out; omega
     have d0 : decide (y < (ruF.length : Int)) = true := decide_eq_true (by have := HY.out; simp [ruF]; omega)
     obtain ⟨_, _, e0_, _, hC⟩ := Kd.R_reads HO.out
     injection e0_ with e1_ e2_ e3_
     subst e1_ e3_
     obtain ⟨ad, ea, hc⟩ := Kd.at_string hC y (by have := HY.out; omega) (by have := HY.out; simp [ruF]; omega)
     subst ea
     have p0 : (0 ≤ y) = True := eq_true (by have := HY.out; omega)
     have p1 : (y < (ruF.length : Int)) = True := eq_true (by have := HY.out; simp [ruF]; omega)
     have hy1 : y ≤ 5 := by have := HY.out; omega
     have hy0 : 0 ≤ y := by have := HY.out; omega
     obtain ⟨s, hs⟩ : ∃ s, s = rdOf ByteArray.empty ruF y := ⟨_, rfl⟩
     rw [← hs] at hc
     have HS := am_ hs
     clear hs hC hk
     by_cases cw : isW ws i s = true
     ·have CW := am_ cw
      have hf : fldFrom 5 ws i 0 = some kk := by rw [HF.out, fldFrom, ← HY.out, ← HS.out, if_pos cw]
      have h := H'.out
      rw [hf] at h
      simp only [Option.some.injEq, Prod.mk.injEq] at h
      obtain ⟨rfl, rfl, rfl⟩ := h
      clear hf cw
      go_wp2_with (first | ((with_reducible refine gk_ 72 ?_); (try (refine gate_guard (by rfl) ?_; dsimp only)); refine gq_ 34 Tryz.func72 #[.pointer (some ⟨g, 0, none⟩), .string s] ?_; (with_reducible refine (ruTakeT w0 _ g ws m i out s ?sd CW.out).mono ?_); (case sd => exact RP.hh HI); rintro e w1 ⟨rfl, hr_, hk_⟩; refine ⟨_, rfl, ?_⟩; replace HI := am_ hr_; clear hr_ hk_) | ((with_reducible refine gk_ 74 ?_); (try (refine gate_guard (by rfl) ?_; dsimp only)); refine gq_ 37 Tryz.func74 #[.pointer (some ⟨g, 0, none⟩), .int .i64 1, .int .i64 y] ?_; (with_reducible refine (ruAdd w0 _ g ws m (i + 1) out 1 y ?sd).mono ?_); (case sd => exact RP.hh HI); rintro e w1 ⟨rfl, hr_⟩; refine ⟨_, rfl, ?_⟩; replace HI := am_ hr_; clear hr_))
      go_ret
      have hr := HI.out
      rw [HY.out] at hr
      exact ⟨rfl, RP.of_heap hr ⟨rfl, rfl, rfl, rfl⟩⟩
     ·have CW := am_ (Bool.eq_false_iff.mpr cw)
      have HF2 := am_ (show fldFrom 5 ws i 0 = fldFrom q ws i (kk + 1) from by rw [HF.out, fldFrom, ← HY.out, ← HS.out, if_neg cw])
      clear cw
      go_wp2_with (first | ((with_reducible refine gk_ 72 ?_); (try (refine gate_guard (by rfl) ?_; dsimp only)); refine gq_ 34 Tryz.func72 #[.pointer (some ⟨g, 0, none⟩), .string s] ?_; (with_reducible refine (ruTakeF w0 _ g ws m i out s ?sd CW.out).mono ?_); (case sd => exact RP.hh HI); rintro e w1 ⟨rfl, ⟨nq_, rfl⟩⟩; refine ⟨_, rfl, ?_⟩))
      go_roundg q
      case measure => omega
      case rel => exact ⟨y + 1, kk + 1, rfl, ⟨by have := HY.out; omega⟩, ⟨by have := HQ.out; omega⟩, HF2, ⟨RP.of_heap HI.out ⟨rfl, rfl, rfl, rfl⟩⟩, ⟨Kd.R_drewN HO.out _⟩⟩
theorem ruRule_calls (k : Nat) (ihS : RuC 73 (ruSum k)) (ihR : RuC 56 (ruRule k)) : RuC 56 (ruRule (k + 1)) := by
 intro w0 w g ws m i out b j o hI h
 have HI := am_ hI
 simp only [ruRule] at h
 have IS := am_ ihS
 have IR := am_ ihR
 clear ihS ihR hI
 by_cases c1 : isW ws i (⟨#[105, 102]⟩ : ByteArray) = true
 ·rw [if_pos c1] at h
  obtain ⟨⟨b1, j1, o1⟩, e1, h⟩ := Option.bind_eq_some_iff.mp h
  have E1 := am_ e1
  have C1 := am_ c1
  clear e1 c1
  by_cases hb1 : b1 = true
  ·subst hb1
   rw [if_pos rfl] at h
   have H' := am_ h
   clear h
   go_enter Tryz.func56, Tryz.ntmps56
   go_wp2_with (first | ((with_reducible refine gk_ 72 ?_); (try (refine gate_guard (by rfl) ?_; dsimp only)); refine gq_ 7 Tryz.func72 #[.pointer (some ⟨g, 0, none⟩), .string ⟨#[105, 102]⟩] ?_; (with_reducible refine (ruTakeT w0 _ g ws m i out (⟨#[105, 102]⟩ : ByteArray) ?sd C1.out).mono ?_); (case sd => exact RP.hh HI); rintro e w1 ⟨rfl, hr_, hk_⟩; refine ⟨_, rfl, ?_⟩; replace HI := am_ hr_; clear hr_ hk_) | ((with_reducible refine gk_ 73 ?_); (try (refine gate_guard (by rfl) ?_; dsimp only)); refine gq_ 12 Tryz.func73 #[.pointer (some ⟨g, 0, none⟩)] ?_; refine (IS.out w0 _ g ws (m + 1) (i + 1) out true _ _ ?sd E1.out).mono ?_; (case sd => exact RP.hh HI); rintro e w1 ⟨rfl, hr_⟩; refine ⟨_, rfl, ?_⟩; replace HI := am_ hr_; clear hr_) | ((with_reducible refine gate_dst (N := 14) rfl ?_); refine Kd.R_lit Kd.string _ 9 ?hg (N := 14) ?hd (xs := ([⟨#[60]⟩, ⟨#[61]⟩, ⟨#[62]⟩] : List ByteArray)) (inner := [.string ⟨#[60]⟩, .string ⟨#[61]⟩, .string ⟨#[62]⟩]) (ok := fun _ => True) (okp := fun _ => True) ?hr ?hp (fun _ hk => hk) trivial (Below.refl _ _) (Nat.le_refl _) (by simp) ?_; (case hd => rfl); (case hg => rfl); (case hr => first | (go_simp; done) | (go_simp; rfl)); (case hp => exact (Reps.one (show Kd.M Kd.string _ _ _ (⟨#[60]⟩ : ByteArray) [.string ⟨#[60]⟩] from rfl) (Reps.one (show Kd.M Kd.string _ _ _ (⟨#[61]⟩ : ByteArray) [.string ⟨#[61]⟩] from rfl) (Reps.one (show Kd.M Kd.string _ _ _ (⟨#[62]⟩ : ByteArray) [.string ⟨#[62]⟩] from rfl) (Reps.none _ _))))); intro v1 w1 ho_ hbq_ hg_ hnew_; clear hg_ hnew_; replace ho_ : Kd.R Kd.string 9 w1 _ (fun _ => True) v1 ruG := ho_; obtain ⟨Af, cf, ef⟩ := Kd.R_slice ho_; subst ef; replace HI := am_ (show RP w0 w1 g ws (m + 1) j1 o1 from by refine RP.below ?_ hbq_; exact RP.hh HI); have HO := am_ (Kd.R_lower ho_ (Nat.zero_le _)); clear ho_ hbq_))
   go_loopg [3, 16] 3 (fun kq v3 v16 w' => ∃ (kn y : Int) (kk : Nat), v3 = .int .i64 kn ∧ v16 = .int .i64 y ∧ Aside0 (y = (kk : Int)) ∧ Aside0 (kq + kk = 3) ∧ Aside0 ((kn = -1 ∧ sigFrom 3 ws j1 0 = sigFrom kq ws j1 kk ∧ RP w0 w' g ws (m + 1) j1 o1) ∨ (∃ s : Nat, s < 3 ∧ sigFrom 3 ws j1 0 = some s ∧ kn = 6 + (s : Int) ∧ RP w0 w' g ws (m + 2) (j1 + 1) o1)) ∧ Aside0 (Kd.R Kd.string 9 w' 0 (fun _ => True) (.slice Af ruG.length cf) ruG))
   case atStart => exact ⟨-1, 0, 0, rfl, rfl, ⟨rfl⟩, ⟨rfl⟩, ⟨Or.inl ⟨rfl, rfl, RP.of_heap HI.out ⟨rfl, rfl, rfl, rfl⟩⟩⟩, HO⟩
   case round =>
    clear HI HO
    obtain ⟨kn, y, kk, rfl, rfl, HY, HQ, HD, HO⟩ := hrel
    cases gk with
    | zero =>
     have d0 : decide (y < (ruG.length : Int)) = false := decide_eq_false (by have := HY.out; have := HQ.out; simp [ruG]; omega)
     rcases HD.out with ⟨hk, hs, hr⟩ | ⟨s, hs3, hs, hk, hr⟩
     ·have h := H'.out
      rw [hs] at h
      simp only [sigFrom, Option.some.injEq, Prod.mk.injEq] at h
      obtain ⟨rfl, rfl, rfl⟩ := h
      have HI := am_ hr
      clear hr hs HD
      subst hk
      go_wp2
      go_ret
      exact ⟨rfl, RP.slacks (RP.of_heap HI.out ⟨rfl, rfl, rfl, rfl⟩) (by omega)⟩
     ·have h := H'.out
      rw [hs] at h
      replace h := h
      have HI := am_ hr
      have HK := am_ hk
      have dk : decide (kn < 0) = false := decide_eq_false (by omega)
      clear hr hs HD hk hs3 H'
      simp only at h
      obtain ⟨⟨b2, j2, o2⟩, e2, h⟩ := Option.bind_eq_some_iff.mp h
      have E2 := am_ e2
      clear e2
      dsimp only at h
      by_cases hb2 : b2 = true
      ·subst hb2
       rw [if_pos rfl] at h
       by_cases hC3 : isW ws j2 (⟨#[116, 104, 101, 110]⟩ : ByteArray) = true
       ·rw [if_pos hC3] at h
        have C3 := am_ hC3
        clear hC3
        obtain ⟨⟨b3, j3, o3⟩, e3, h⟩ := Option.bind_eq_some_iff.mp h
        have E3 := am_ e3
        clear e3
        dsimp only at h
        by_cases hb3 : b3 = true
        ·subst hb3
         rw [if_pos rfl] at h
         by_cases hC4 : isW ws j3 (⟨#[101, 108, 115, 101]⟩ : ByteArray) = true
         ·rw [if_pos hC4] at h
          have C4 := am_ hC4
          clear hC4
          obtain ⟨⟨b4, j4, o4⟩, e4, h⟩ := Option.bind_eq_some_iff.mp h
          have E4 := am_ e4
          clear e4
          dsimp only at h
          by_cases hb4 : b4 = true
          ·subst hb4
           rw [if_pos rfl] at h
           rw [← HK.out] at h
           simp only [Option.some.injEq, Prod.mk.injEq] at h
           obtain ⟨rfl, rfl, rfl⟩ := h
           go_wp2_with (first | ((with_reducible refine gk_ 73 ?_); (try (refine gate_guard (by rfl) ?_; dsimp only)); refine gq_ 35 Tryz.func73 #[.pointer (some ⟨g, 0, none⟩)] ?_; refine (IS.out w0 _ g ws (m + 2) (j1 + 1) o1 true _ _ ?sd E2.out).mono ?_; (case sd => exact RP.hh HI); rintro e w1 ⟨rfl, hr_⟩; refine ⟨_, rfl, ?_⟩; replace HI := am_ hr_; clear hr_) | ((with_reducible refine gk_ 72 ?_); (try (refine gate_guard (by rfl) ?_; dsimp only)); refine gq_ 40 Tryz.func72 #[.pointer (some ⟨g, 0, none⟩), .string ⟨#[116, 104, 101, 110]⟩] ?_; (with_reducible refine (ruTakeT w0 _ g ws (m + 2) j2 o2 (⟨#[116, 104, 101, 110]⟩ : ByteArray) ?sd C3.out).mono ?_); (case sd => exact RP.hh HI); rintro e w1 ⟨rfl, hr_, hk_⟩; refine ⟨_, rfl, ?_⟩; replace HI := am_ hr_; clear hr_ hk_) | ((with_reducible refine gk_ 56 ?_); (try (refine gate_guard (by rfl) ?_; dsimp only)); refine gq_ 45 Tryz.func56 #[.pointer (some ⟨g, 0, none⟩)] ?_; refine (IR.out w0 _ g ws (m + 3) (j2 + 1) o2 true _ _ ?sd E3.out).mono ?_; (case sd => exact RP.hh HI); rintro e w1 ⟨rfl, hr_⟩; refine ⟨_, rfl, ?_⟩; replace HI := am_ hr_; clear hr_) | ((with_reducible refine gk_ 72 ?_); (try (refine gate_guard (by rfl) ?_; dsimp only)); refine gq_ 50 Tryz.func72 #[.pointer (some ⟨g, 0, none⟩), .string ⟨#[101, 108, 115, 101]⟩] ?_; (with_reducible refine (ruTakeT w0 _ g ws (m + 3) j3 o3 (⟨#[101, 108, 115, 101]⟩ : ByteArray) ?sd C4.out).mono ?_); (case sd => exact RP.hh HI); rintro e w1 ⟨rfl, hr_, hk_⟩; refine ⟨_, rfl, ?_⟩; replace HI := am_ hr_; clear hr_ hk_) | ((with_reducible refine gk_ 56 ?_); (try (refine gate_guard (by rfl) ?_; dsimp only)); refine gq_ 55 Tryz.func56 #[.pointer (some ⟨g, 0, none⟩)] ?_; refine (IR.out w0 _ g ws (m + 4) (j3 + 1) o3 true _ _ ?sd E4.out).mono ?_; (case sd => exact RP.hh HI); rintro e w1 ⟨rfl, hr_⟩; refine ⟨_, rfl, ?_⟩; replace HI := am_ hr_; clear hr_) | ((with_reducible refine gk_ 74 ?_); (try (refine gate_guard (by rfl) ?_; dsimp only)); refine gq_ 60 Tryz.func74 #[.pointer (some ⟨g, 0, none⟩), .int .i64 kn, .int .i64 0] ?_; (with_reducible refine (ruAdd w0 _ g ws (m + 3) j4 o4 kn 0 ?sd).mono ?_); (case sd => exact RP.hh HI); rintro e w1 ⟨rfl, hr_⟩; refine ⟨_, rfl, ?_⟩; replace HI := am_ hr_; clear hr_))
           go_ret
           exact ⟨rfl, RP.slacks (RP.of_heap HI.out ⟨rfl, rfl, rfl, rfl⟩) (by omega)⟩
          ·replace hb4 := Bool.eq_false_iff.mpr hb4
           subst hb4
           rw [if_neg (by simp)] at h
           simp only [Option.some.injEq, Prod.mk.injEq] at h
           obtain ⟨rfl, rfl, rfl⟩ := h
           go_wp2_with (first | ((with_reducible refine gk_ 73 ?_); (try (refine gate_guard (by rfl) ?_; dsimp only)); refine gq_ 35 Tryz.func73 #[.pointer (some ⟨g, 0, none⟩)] ?_; refine (IS.out w0 _ g ws (m + 2) (j1 + 1) o1 true _ _ ?sd E2.out).mono ?_; (case sd => exact RP.hh HI); rintro e w1 ⟨rfl, hr_⟩; refine ⟨_, rfl, ?_⟩; replace HI := am_ hr_; clear hr_) | ((with_reducible refine gk_ 72 ?_); (try (refine gate_guard (by rfl) ?_; dsimp only)); refine gq_ 40 Tryz.func72 #[.pointer (some ⟨g, 0, none⟩), .string ⟨#[116, 104, 101, 110]⟩] ?_; (with_reducible refine (ruTakeT w0 _ g ws (m + 2) j2 o2 (⟨#[116, 104, 101, 110]⟩ : ByteArray) ?sd C3.out).mono ?_); (case sd => exact RP.hh HI); rintro e w1 ⟨rfl, hr_, hk_⟩; refine ⟨_, rfl, ?_⟩; replace HI := am_ hr_; clear hr_ hk_) | ((with_reducible refine gk_ 56 ?_); (try (refine gate_guard (by rfl) ?_; dsimp only)); refine gq_ 45 Tryz.func56 #[.pointer (some ⟨g, 0, none⟩)] ?_; refine (IR.out w0 _ g ws (m + 3) (j2 + 1) o2 true _ _ ?sd E3.out).mono ?_; (case sd => exact RP.hh HI); rintro e w1 ⟨rfl, hr_⟩; refine ⟨_, rfl, ?_⟩; replace HI := am_ hr_; clear hr_) | ((with_reducible refine gk_ 72 ?_); (try (refine gate_guard (by rfl) ?_; dsimp only)); refine gq_ 50 Tryz.func72 #[.pointer (some ⟨g, 0, none⟩), .string ⟨#[101, 108, 115, 101]⟩] ?_; (with_reducible refine (ruTakeT w0 _ g ws (m + 3) j3 o3 (⟨#[101, 108, 115, 101]⟩ : ByteArray) ?sd C4.out).mono ?_); (case sd => exact RP.hh HI); rintro e w1 ⟨rfl, hr_, hk_⟩; refine ⟨_, rfl, ?_⟩; replace HI := am_ hr_; clear hr_ hk_) | ((with_reducible refine gk_ 56 ?_); (try (refine gate_guard (by rfl) ?_; dsimp only)); refine gq_ 55 Tryz.func56 #[.pointer (some ⟨g, 0, none⟩)] ?_; refine (IR.out w0 _ g ws (m + 4) (j3 + 1) o3 false _ _ ?sd E4.out).mono ?_; (case sd => exact RP.hh HI); rintro e w1 ⟨rfl, hr_⟩; refine ⟨_, rfl, ?_⟩; replace HI := am_ hr_; clear hr_))
           go_ret
           exact ⟨rfl, RP.slacks (RP.of_heap HI.out ⟨rfl, rfl, rfl, rfl⟩) (by omega)⟩
         ·rw [if_neg hC4] at h
          have C4 := am_ (Bool.eq_false_iff.mpr hC4)
          clear hC4
          simp only [Option.some.injEq, Prod.mk.injEq] at h
          obtain ⟨rfl, rfl, rfl⟩ := h
          go_wp2_with (first | ((with_reducible refine gk_ 73 ?_); (try (refine gate_guard (by rfl) ?_; dsimp only)); refine gq_ 35 Tryz.func73 #[.pointer (some ⟨g, 0, none⟩)] ?_; refine (IS.out w0 _ g ws (m + 2) (j1 + 1) o1 true _ _ ?sd E2.out).mono ?_; (case sd => exact RP.hh HI); rintro e w1 ⟨rfl, hr_⟩; refine ⟨_, rfl, ?_⟩; replace HI := am_ hr_; clear hr_) | ((with_reducible refine gk_ 72 ?_); (try (refine gate_guard (by rfl) ?_; dsimp only)); refine gq_ 40 Tryz.func72 #[.pointer (some ⟨g, 0, none⟩), .string ⟨#[116, 104, 101, 110]⟩] ?_; (with_reducible refine (ruTakeT w0 _ g ws (m + 2) j2 o2 (⟨#[116, 104, 101, 110]⟩ : ByteArray) ?sd C3.out).mono ?_); (case sd => exact RP.hh HI); rintro e w1 ⟨rfl, hr_, hk_⟩; refine ⟨_, rfl, ?_⟩; replace HI := am_ hr_; clear hr_ hk_) | ((with_reducible refine gk_ 56 ?_); (try (refine gate_guard (by rfl) ?_; dsimp only)); refine gq_ 45 Tryz.func56 #[.pointer (some ⟨g, 0, none⟩)] ?_; refine (IR.out w0 _ g ws (m + 3) (j2 + 1) o2 true _ _ ?sd E3.out).mono ?_; (case sd => exact RP.hh HI); rintro e w1 ⟨rfl, hr_⟩; refine ⟨_, rfl, ?_⟩; replace HI := am_ hr_; clear hr_) | ((with_reducible refine gk_ 72 ?_); (try (refine gate_guard (by rfl) ?_; dsimp only)); refine gq_ 50 Tryz.func72 #[.pointer (some ⟨g, 0, none⟩), .string ⟨#[101, 108, 115, 101]⟩] ?_; (with_reducible refine (ruTakeF w0 _ g ws (m + 3) j3 o3 (⟨#[101, 108, 115, 101]⟩ : ByteArray) ?sd C4.out).mono ?_); (case sd => exact RP.hh HI); rintro e w1 ⟨rfl, ⟨nq_, rfl⟩⟩; refine ⟨_, rfl, ?_⟩))
          go_ret
          exact ⟨rfl, RP.slacks (RP.of_heap HI.out ⟨rfl, rfl, rfl, rfl⟩) (by omega)⟩
        ·replace hb3 := Bool.eq_false_iff.mpr hb3
         subst hb3
         rw [if_neg (by simp)] at h
         simp only [Option.some.injEq, Prod.mk.injEq] at h
         obtain ⟨rfl, rfl, rfl⟩ := h
         go_wp2_with (first | ((with_reducible refine gk_ 73 ?_); (try (refine gate_guard (by rfl) ?_; dsimp only)); refine gq_ 35 Tryz.func73 #[.pointer (some ⟨g, 0, none⟩)] ?_; refine (IS.out w0 _ g ws (m + 2) (j1 + 1) o1 true _ _ ?sd E2.out).mono ?_; (case sd => exact RP.hh HI); rintro e w1 ⟨rfl, hr_⟩; refine ⟨_, rfl, ?_⟩; replace HI := am_ hr_; clear hr_) | ((with_reducible refine gk_ 72 ?_); (try (refine gate_guard (by rfl) ?_; dsimp only)); refine gq_ 40 Tryz.func72 #[.pointer (some ⟨g, 0, none⟩), .string ⟨#[116, 104, 101, 110]⟩] ?_; (with_reducible refine (ruTakeT w0 _ g ws (m + 2) j2 o2 (⟨#[116, 104, 101, 110]⟩ : ByteArray) ?sd C3.out).mono ?_); (case sd => exact RP.hh HI); rintro e w1 ⟨rfl, hr_, hk_⟩; refine ⟨_, rfl, ?_⟩; replace HI := am_ hr_; clear hr_ hk_) | ((with_reducible refine gk_ 56 ?_); (try (refine gate_guard (by rfl) ?_; dsimp only)); refine gq_ 45 Tryz.func56 #[.pointer (some ⟨g, 0, none⟩)] ?_; refine (IR.out w0 _ g ws (m + 3) (j2 + 1) o2 false _ _ ?sd E3.out).mono ?_; (case sd => exact RP.hh HI); rintro e w1 ⟨rfl, hr_⟩; refine ⟨_, rfl, ?_⟩; replace HI := am_ hr_; clear hr_))
         go_ret
         exact ⟨rfl, RP.slacks (RP.of_heap HI.out ⟨rfl, rfl, rfl, rfl⟩) (by omega)⟩
       ·rw [if_neg hC3] at h
        have C3 := am_ (Bool.eq_false_iff.mpr hC3)
        clear hC3
        simp only [Option.some.injEq, Prod.mk.injEq] at h
        obtain ⟨rfl, rfl, rfl⟩ := h
        go_wp2_with (first | ((with_reducible refine gk_ 73 ?_); (try (refine gate_guard (by rfl) ?_; dsimp only)); refine gq_ 35 Tryz.func73 #[.pointer (some ⟨g, 0, none⟩)] ?_; refine (IS.out w0 _ g ws (m + 2) (j1 + 1) o1 true _ _ ?sd E2.out).mono ?_; (case sd => exact RP.hh HI); rintro e w1 ⟨rfl, hr_⟩; refine ⟨_, rfl, ?_⟩; replace HI := am_ hr_; clear hr_) | ((with_reducible refine gk_ 72 ?_); (try (refine gate_guard (by rfl) ?_; dsimp only)); refine gq_ 40 Tryz.func72 #[.pointer (some ⟨g, 0, none⟩), .string ⟨#[116, 104, 101, 110]⟩] ?_; (with_reducible refine (ruTakeF w0 _ g ws (m + 2) j2 o2 (⟨#[116, 104, 101, 110]⟩ : ByteArray) ?sd C3.out).mono ?_); (case sd => exact RP.hh HI); rintro e w1 ⟨rfl, ⟨nq_, rfl⟩⟩; refine ⟨_, rfl, ?_⟩))
        go_ret
        exact ⟨rfl, RP.slacks (RP.of_heap HI.out ⟨rfl, rfl, rfl, rfl⟩) (by omega)⟩
      ·replace hb2 := Bool.eq_false_iff.mpr hb2
       subst hb2
       rw [if_neg (by simp)] at h
       simp only [Option.some.injEq, Prod.mk.injEq] at h
       obtain ⟨rfl, rfl, rfl⟩ := h
       go_wp2_with (first | ((with_reducible refine gk_ 73 ?_); (try (refine gate_guard (by rfl) ?_; dsimp only)); refine gq_ 35 Tryz.func73 #[.pointer (some ⟨g, 0, none⟩)] ?_; refine (IS.out w0 _ g ws (m + 2) (j1 + 1) o1 false _ _ ?sd E2.out).mono ?_; (case sd => exact RP.hh HI); rintro e w1 ⟨rfl, hr_⟩; refine ⟨_, rfl, ?_⟩; replace HI := am_ hr_; clear hr_))
       go_ret
       exact ⟨rfl, RP.slacks (RP.of_heap HI.out ⟨rfl, rfl, rfl, rfl⟩) (by omega)⟩
    | succ q =>
     have hk : kk < 3 := by have := HQ.out; omega
     have d0 : decide (y < (ruG.length : Int)) = true := decide_eq_true (by have := HY.out; simp [ruG]; omega)
     obtain ⟨_, _, e0_, _, hC⟩ := Kd.R_reads HO.out
     injection e0_ with e1_ e2_ e3_
     subst e1_ e3_
     obtain ⟨ad, ea, hc⟩ := Kd.at_string hC y (by have := HY.out; omega) (by have := HY.out; simp [ruG]; omega)
     subst ea
     have p1 : (y < (ruG.length : Int)) = True := eq_true (by have := HY.out; simp [ruG]; omega)
     have hy1 : y ≤ 5 := by have := HY.out; omega
     have hy0 : 0 ≤ y := by have := HY.out; omega
     obtain ⟨s, hs⟩ : ∃ s, s = rdOf ByteArray.empty ruG y := ⟨_, rfl⟩
     rw [← hs] at hc
     have HS := am_ hs
     clear hs hC hk
     rcases HD.out with ⟨hk, hs, hr⟩ | ⟨s2, hs3, hs, hk, hr⟩
     ·have HI := am_ hr
      have HF := am_ hs
      clear hr hs HD
      subst hk
      by_cases cw : isW ws j1 s = true
      ·have CW := am_ cw
       have HF2 := am_ (show sigFrom 3 ws j1 0 = some kk from by rw [HF.out, sigFrom, ← HY.out, ← HS.out, if_pos cw])
       clear cw
       have HB0 := am_ HI.out.blk
       go_wp2_with (first | ((with_reducible refine gk_ 72 ?_); (try (refine gate_guard (by rfl) ?_; dsimp only)); refine gq_ 26 Tryz.func72 #[.pointer (some ⟨g, 0, none⟩), .string s] ?_; (with_reducible refine (ruTakeT w0 _ g ws (m + 1) j1 o1 s ?sd CW.out).mono ?_); (case sd => exact RP.hh HI); rintro e w1 ⟨rfl, hr_, hk_⟩; refine ⟨_, rfl, ?_⟩; replace HI := am_ hr_; replace HO := am_ (ruKeep HO.out hk_ HB0.out); clear hr_ hk_))
       go_roundg q
       case measure => omega
       case rel => exact ⟨6 + y, y + 1, kk + 1, rfl, rfl, ⟨by have := HY.out; omega⟩, ⟨by have := HQ.out; omega⟩, ⟨Or.inr ⟨kk, by have := HQ.out; omega, HF2.out, by rw [HY.out], RP.of_heap HI.out ⟨rfl, rfl, rfl, rfl⟩⟩⟩, HO⟩
      ·have CW := am_ (Bool.eq_false_iff.mpr cw)
       have HF2 := am_ (show sigFrom 3 ws j1 0 = sigFrom q ws j1 (kk + 1) from by rw [HF.out, sigFrom, ← HY.out, ← HS.out, if_neg cw])
       clear cw
       go_wp2_with (first | ((with_reducible refine gk_ 72 ?_); (try (refine gate_guard (by rfl) ?_; dsimp only)); refine gq_ 26 Tryz.func72 #[.pointer (some ⟨g, 0, none⟩), .string s] ?_; (with_reducible refine (ruTakeF w0 _ g ws (m + 1) j1 o1 s ?sd CW.out).mono ?_); (case sd => exact RP.hh HI); rintro e w1 ⟨rfl, ⟨nq_, rfl⟩⟩; refine ⟨_, rfl, ?_⟩))
       go_roundg q
       case measure => omega
       case rel => exact ⟨-1, y + 1, kk + 1, rfl, rfl, ⟨by have := HY.out; omega⟩, ⟨by have := HQ.out; omega⟩, ⟨Or.inl ⟨rfl, HF2.out, RP.of_heap HI.out ⟨rfl, rfl, rfl, rfl⟩⟩⟩, ⟨Kd.R_drewN HO.out _⟩⟩
     ·have HI := am_ hr
      have dk : decide (kn < 0) = false := decide_eq_false (by omega)
      have HE := am_ (And.intro hs3 (And.intro hs hk))
      clear hr hs HD hk hs3
      go_wp2
      go_roundg q
      case measure => omega
      case rel => exact ⟨kn, y + 1, kk + 1, rfl, rfl, ⟨by have := HY.out; omega⟩, ⟨by have := HQ.out; omega⟩, ⟨Or.inr ⟨s2, HE.out.1, HE.out.2.1, HE.out.2.2, RP.of_heap HI.out ⟨rfl, rfl, rfl, rfl⟩⟩⟩, HO⟩
  ·replace hb1 := Bool.eq_false_iff.mpr hb1
   subst hb1
   rw [if_neg (by simp)] at h
   simp only [Option.some.injEq, Prod.mk.injEq] at h
   obtain ⟨rfl, rfl, rfl⟩ := h
   go_enter Tryz.func56, Tryz.ntmps56
   go_wp2_with (first | ((with_reducible refine gk_ 72 ?_); (try (refine gate_guard (by rfl) ?_; dsimp only)); refine gq_ 7 Tryz.func72 #[.pointer (some ⟨g, 0, none⟩), .string ⟨#[105, 102]⟩] ?_; (with_reducible refine (ruTakeT w0 _ g ws m i out (⟨#[105, 102]⟩ : ByteArray) ?sd C1.out).mono ?_); (case sd => exact RP.hh HI); rintro e w1 ⟨rfl, hr_, hk_⟩; refine ⟨_, rfl, ?_⟩; replace HI := am_ hr_; clear hr_ hk_) | ((with_reducible refine gk_ 73 ?_); (try (refine gate_guard (by rfl) ?_; dsimp only)); refine gq_ 12 Tryz.func73 #[.pointer (some ⟨g, 0, none⟩)] ?_; refine (IS.out w0 _ g ws (m + 1) (i + 1) out false _ _ ?sd E1.out).mono ?_; (case sd => exact RP.hh HI); rintro e w1 ⟨rfl, hr_⟩; refine ⟨_, rfl, ?_⟩; replace HI := am_ hr_; clear hr_))
   go_ret
   exact ⟨rfl, RP.slacks (RP.of_heap HI.out ⟨rfl, rfl, rfl, rfl⟩) (by omega)⟩
 ·rw [if_neg c1] at h
  have C1 := am_ (Bool.eq_false_iff.mpr c1)
  have E1 := am_ h
  clear c1 h
  go_enter Tryz.func56, Tryz.ntmps56
  go_wp2_with (first | ((with_reducible refine gk_ 72 ?_); (try (refine gate_guard (by rfl) ?_; dsimp only)); refine gq_ 7 Tryz.func72 #[.pointer (some ⟨g, 0, none⟩), .string ⟨#[105, 102]⟩] ?_; (with_reducible refine (ruTakeF w0 _ g ws m i out (⟨#[105, 102]⟩ : ByteArray) ?sd C1.out).mono ?_); (case sd => exact RP.hh HI); rintro e w1 ⟨rfl, ⟨nq_, rfl⟩⟩; refine ⟨_, rfl, ?_⟩) | ((with_reducible refine gk_ 73 ?_); (try (refine gate_guard (by rfl) ?_; dsimp only)); refine gq_ 10 Tryz.func73 #[.pointer (some ⟨g, 0, none⟩)] ?_; refine (IS.out w0 _ g ws m i out _ _ _ ?sd E1.out).mono ?_; (case sd => exact RP.hh HI); rintro e w1 ⟨rfl, hr_⟩; refine ⟨_, rfl, ?_⟩; replace HI := am_ hr_; clear hr_))
  go_ret
  exact ⟨rfl, RP.of_heap HI.out ⟨rfl, rfl, rfl, rfl⟩⟩
theorem RuC_zero (f : Nat) {F : List ByteArray → Nat → List S73 → Option (Bool × Nat × List S73)} (h : ∀ ws i out, F ws i out = none) : RuC f F := by
 intro w0 w g ws m i out b j o _ e
 rw [h] at e
 cases e
theorem ruAll (k : Nat) : ∀ q, q ≤ k → RuC 94 (ruAtom q) ∧ RuC 85 (ruProd q) ∧ RuC 73 (ruSum q) ∧ RuC 56 (ruRule q) := by
 induction k with
 | zero =>
  intro q hq
  obtain rfl : q = 0 := by omega
  exact ⟨RuC_zero _ (fun _ _ _ => by simp [ruAtom]), RuC_zero _ (fun _ _ _ => by simp [ruProd]), RuC_zero _ (fun _ _ _ => by simp [ruSum]), RuC_zero _ (fun _ _ _ => by simp [ruRule])⟩
 | succ k ih =>
  intro q hq
  rcases Nat.lt_or_ge q (k + 1) with h | h
  ·exact ih q (by omega)
  ·obtain rfl : q = k + 1 := by omega
   exact ⟨ruAtom_calls k (fun q hq => (ih q hq).2.2.2), ruProd_calls k (fun q hq => (ih q hq).1), ruSum_calls k (fun q hq => (ih q hq).2.1), ruRule_calls k (ih k (Nat.le_refl k)).2.2.1 (ih k (Nat.le_refl k)).2.2.2⟩
/-! #### a text is read (spec.ruParse) -/
/-- The reader's state behind spec.ruParse: the place and the parts; the last Boolean: is it a text of a rule? -/
def ruRun (k : Nat) (s : ByteArray) : Option (Nat × List S73 × Bool) :=
 (spec_l1Split.f k s 32).bind fun ws => if ws.length ≤ 1000 then (ruRule k ws 0 []).bind fun r => some (r.2.1, r.2.2, r.1 && decide (r.2.1 = ws.length)) else none
theorem ruParse_calls (k : Nat) (s : ByteArray) (j : Nat) (o : List S73) (ok : Bool) (w : World) (h : ruRun k s = some (j, o, ok)) :
  Calls Tryz.prog 35 #[.string s] w fun e w' => ∃ (g : Nat) (ws : List ByteArray), e = .returned (.tuple #[.pointer (some ⟨g, 0, none⟩), .bool ok]) ∧ RP w w' g ws 0 j o := by
 unfold ruRun at h
 obtain ⟨ws, e1, h⟩ := Option.bind_eq_some_iff.mp h
 by_cases hl : ws.length ≤ 1000
 case neg => rw [if_neg hl] at h; cases h
 rw [if_pos hl] at h
 obtain ⟨⟨b, j', o'⟩, e2, h⟩ := Option.bind_eq_some_iff.mp h
 simp only [Option.some.injEq, Prod.mk.injEq] at h
 obtain ⟨rfl, rfl, hok⟩ := h
 have E1 := am_ e1
 have E2 := am_ e2
 have HL := am_ hl
 have HOK := am_ hok
 clear e1 e2 hl hok
 go_enter Tryz.func35, Tryz.ntmps35
 go_wp2_with (first | ((with_reducible refine gk_ 55 ?_); refine gq_ 6 Tryz.func55 #[.string s, .int .u8 32] ?_; (with_reducible refine (spec_l1Split.calls k s 32 ws _ E1.out).mono ?_); rintro e w1 ⟨v1, rfl, ho_, hbq_⟩; refine ⟨_, rfl, ?_⟩; obtain ⟨Af, cf, ef⟩ := Kd.R_slice ho_; subst ef; have HO := am_ ho_; have HB := am_ hbq_; clear ho_ hbq_))
 have HI := am_ (show RP w (w1.alloc (.cells #[.slice Af ws.length cf, .int .i64 0, .slice none 0 0] 62 (0, 0))) w1.heap.size ws 0 0 [] from ⟨HB.out.size, below_alloc HB.out _, HL.out, Nat.zero_le _, Nat.zero_le _, _, _, Array.getElem?_push_size, Kd.R_alloc HO.out _, Kd.R_nil _ _ _ _ _⟩)
 clear HO HB
 generalize w1.alloc (.cells #[.slice Af ws.length cf, .int .i64 0, .slice none 0 0] 62 (0, 0)) = W2 at HI ⊢
 generalize w1.heap.size = g at HI ⊢
 have HR := am_ (ruAll k k (Nat.le_refl k)).2.2.2
 cases b with
 | false =>
  obtain rfl : false = ok := by simpa using HOK.out
  clear HOK
  refine start_ (n := 17) (S := fun _ => True) (ds := []) (bb 17 0) (by kernel_rfl) rfl rfl trivial (fun _ => ?_)
  refine pure_ (i := 0) (N := some 9) (v := ?_) (a' := ?_) (bb 17 1) rfl rfl (by kernel_rfl) (fun _ _ _ h => h) (Or.inl ⟨by rfl, ?_⟩) ?_ ?_
  rotate_left
  ·intro w'
   go_simp
   with_reducible rfl
  rotate_left
  ·simp only [Act.put, List.setIfInBounds_toArray, List.set_cons_zero, List.set_cons_succ, i64_w, i32_w]
   rfl
  refine pure_ (i := 1) (N := some 10) (v := ?_) (a' := ?_) (bb 17 3) rfl rfl (by kernel_rfl) (fun _ _ _ h => h) (Or.inl ⟨by rfl, ?_⟩) ?_ ?_
  rotate_left
  ·intro w'
   go_simp
   with_reducible rfl
  rotate_left
  ·simp only [Act.put, List.setIfInBounds_toArray, List.set_cons_zero, List.set_cons_succ, i64_w, i32_w]
   rfl
  refine one_ (i := 2) (N := some 11) (bb 17 7) rfl rfl (by kernel_rfl) (by decide) (fun K hK => ?_)
  refine goes_ Tryz.func56 (by kernel_rfl) rfl #[.pointer (some ⟨g, 0, none⟩)] (by rfl) rfl rfl (by simp only [List.map_toArray, List.map_cons, List.map_nil]; rfl) ?_
  refine (HR.out w _ g ws 0 0 [] false j' o' ?sd E2.out).mono ?_
  case sd => exact RP.hh HI
  rintro e w3 ⟨rfl, hr_⟩
  refine ⟨_, rfl, ?_⟩
  have HI2 := am_ hr_
  clear hr_
  refine hK.out _ _ trivial (fun _ => ?_)
  clear hK K
  refine norm_ (a' := ?_) ?_ ?_
  rotate_left
  ·show Act.put _ (some 11) _ = _
   simp only [Act.put, List.setIfInBounds_toArray, List.set_cons_zero, List.set_cons_succ, i64_w, i32_w]
   rfl
  refine one_ (i := 3) (N := some 12) (bb 17 15) rfl rfl (by kernel_rfl) (by decide) (fun K hK => ?_)
  refine value_ (w1 := ?_) (v := ?_) (by rfl) rfl ?_ ?_
  rotate_left 2
  ·go_simp
   first | done | rfl | (constructor <;> rfl)
  refine hK.out _ _ trivial (fun _ => ?_)
  clear hK K
  refine norm_ (a' := ?_) ?_ ?_
  rotate_left
  ·show Act.put _ (some 12) _ = _
   simp only [Act.put, List.setIfInBounds_toArray, List.set_cons_zero, List.set_cons_succ, i64_w, i32_w]
   rfl
  refine pure_ (i := 4) (N := some 13) (v := undef) (a' := ?_) (bb 17 31) rfl rfl (by kernel_rfl) (fun _ _ _ h => h) (Or.inr ⟨by rfl, rfl⟩) ?_ ?_
  rotate_left
  ·simp only [Act.put, List.setIfInBounds_toArray, List.set_cons_zero, List.set_cons_succ, i64_w, i32_w]
   rfl
  refine pure_ (i := 5) (N := some 14) (v := undef) (a' := ?_) (bb 17 63) rfl rfl (by kernel_rfl) (fun _ _ _ h => h) (Or.inr ⟨by rfl, rfl⟩) ?_ ?_
  rotate_left
  ·simp only [Act.put, List.setIfInBounds_toArray, List.set_cons_zero, List.set_cons_succ, i64_w, i32_w]
   rfl
  refine pure_ (i := 6) (N := some 15) (v := undef) (a' := ?_) (bb 17 127) rfl rfl (by kernel_rfl) (fun _ _ _ h => h) (Or.inr ⟨by rfl, rfl⟩) ?_ ?_
  rotate_left
  ·simp only [Act.put, List.setIfInBounds_toArray, List.set_cons_zero, List.set_cons_succ, i64_w, i32_w]
   rfl
  refine pure_ (i := 8) (N := some 17) (v := undef) (a' := ?_) (bb 17 383) rfl rfl (by kernel_rfl) (fun _ _ _ h => h) (Or.inr ⟨by rfl, rfl⟩) ?_ ?_
  rotate_left
  ·simp only [Act.put, List.setIfInBounds_toArray, List.set_cons_zero, List.set_cons_succ, i64_w, i32_w]
   rfl
  refine pure_ (i := 9) (N := some 18) (v := undef) (a' := ?_) (bb 17 895) rfl rfl (by kernel_rfl) (fun _ _ _ h => h) (Or.inr ⟨by rfl, rfl⟩) ?_ ?_
  rotate_left
  ·simp only [Act.put, List.setIfInBounds_toArray, List.set_cons_zero, List.set_cons_succ, i64_w, i32_w]
   rfl
  refine pure_ (i := 10) (N := some 19) (v := undef) (a' := ?_) (bb 17 1919) rfl rfl (by kernel_rfl) (fun _ _ _ h => h) (Or.inr ⟨by rfl, rfl⟩) ?_ ?_
  rotate_left
  ·simp only [Act.put, List.setIfInBounds_toArray, List.set_cons_zero, List.set_cons_succ, i64_w, i32_w]
   rfl
  refine pure_ (i := 15) (N := some 2) (v := ?_) (a' := ?_) (bb 17 34687) rfl rfl (by kernel_rfl) (fun _ _ _ h => h) (Or.inl ⟨by rfl, ?_⟩) ?_ ?_
  rotate_left
  ·intro w'
   go_simp
   with_reducible rfl
  rotate_left
  ·simp only [Act.put, List.setIfInBounds_toArray, List.set_cons_zero, List.set_cons_succ, i64_w, i32_w]
   rfl
  refine two_ (i := 7) (j := 11) (Ni := some 16) (Nj := some 20) (bb 17 34815) (bb 17 36735) rfl rfl rfl rfl (by kernel_rfl) (by decide) (by decide) (fun K hK => ?_) (fun K hK => ?_)
  ·skip
   refine off_ (by rfl) ?_
   refine hK.out _ _ trivial (fun _ => ?_)
   clear hK K
   refine norm_ (a' := ?_) ?_ ?_
   rotate_left
   ·show Act.put _ (some 16) _ = _
    simp only [Act.put, List.setIfInBounds_toArray, List.set_cons_zero, List.set_cons_succ, i64_w, i32_w]
    rfl
   refine one_ (i := 11) (N := some 20) (bb 17 36863) rfl rfl (by kernel_rfl) (by decide) (fun K hK => ?_)
   refine off_ (by rfl) ?_
   refine hK.out _ _ trivial (fun _ => ?_)
   clear hK K
   refine norm_ (a' := ?_) ?_ ?_
   rotate_left
   ·show Act.put _ (some 20) _ = _
    simp only [Act.put, List.setIfInBounds_toArray, List.set_cons_zero, List.set_cons_succ, i64_w, i32_w]
    rfl
   refine pure_ (i := 12) (N := some 21) (v := undef) (a' := ?_) (bb 17 40959) rfl rfl (by kernel_rfl) (fun _ _ _ h => h) (Or.inr ⟨by rfl, rfl⟩) ?_ ?_
   rotate_left
   ·simp only [Act.put, List.setIfInBounds_toArray, List.set_cons_zero, List.set_cons_succ, i64_w, i32_w]
    rfl
   refine pure_ (i := 13) (N := some 22) (v := undef) (a' := ?_) (bb 17 49151) rfl rfl (by kernel_rfl) (fun _ _ _ h => h) (Or.inr ⟨by rfl, rfl⟩) ?_ ?_
   rotate_left
   ·simp only [Act.put, List.setIfInBounds_toArray, List.set_cons_zero, List.set_cons_succ, i64_w, i32_w]
    rfl
   refine pure_ (i := 14) (N := some 23) (v := ?_) (a' := ?_) (bb 17 65535) rfl rfl (by kernel_rfl) (fun _ _ _ h => h) (Or.inl ⟨by rfl, ?_⟩) ?_ ?_
   rotate_left
   ·intro w'
    go_simp
    with_reducible rfl
   rotate_left
   ·simp only [Act.put, List.setIfInBounds_toArray, List.set_cons_zero, List.set_cons_succ, i64_w, i32_w]
    rfl
   refine one_ (i := 16) (N := some 3) (bb 17 131071) rfl rfl (by kernel_rfl) (by decide) (fun K hK => ?_)
   refine value_ (w1 := ?_) (v := ?_) (by rfl) rfl ?_ ?_
   rotate_left 2
   ·go_simp
    first | done | rfl | (constructor <;> rfl)
   refine hK.out _ _ trivial (fun _ => ?_)
   clear hK K
   refine norm_ (a' := ?_) ?_ ?_
   rotate_left
   ·show Act.put _ (some 3) _ = _
    simp only [Act.put, List.setIfInBounds_toArray, List.set_cons_zero, List.set_cons_succ, i64_w, i32_w]
    rfl
   refine done_ (by kernel_rfl) ?_
   go_wp2
   go_ret2
   exact ⟨g, ws, rfl, RP.of_heap HI2.out ⟨rfl, rfl, rfl, rfl⟩⟩
  ·skip
   refine off_ (by rfl) ?_
   refine hK.out _ _ trivial (fun _ => ?_)
   clear hK K
   refine norm_ (a' := ?_) ?_ ?_
   rotate_left
   ·show Act.put _ (some 20) _ = _
    simp only [Act.put, List.setIfInBounds_toArray, List.set_cons_zero, List.set_cons_succ, i64_w, i32_w]
    rfl
   refine pure_ (i := 12) (N := some 21) (v := undef) (a' := ?_) (bb 17 40831) rfl rfl (by kernel_rfl) (fun _ _ _ h => h) (Or.inr ⟨by rfl, rfl⟩) ?_ ?_
   rotate_left
   ·simp only [Act.put, List.setIfInBounds_toArray, List.set_cons_zero, List.set_cons_succ, i64_w, i32_w]
    rfl
   refine one_ (i := 7) (N := some 16) (bb 17 40959) rfl rfl (by kernel_rfl) (by decide) (fun K hK => ?_)
   refine off_ (by rfl) ?_
   refine hK.out _ _ trivial (fun _ => ?_)
   clear hK K
   refine norm_ (a' := ?_) ?_ ?_
   rotate_left
   ·show Act.put _ (some 16) _ = _
    simp only [Act.put, List.setIfInBounds_toArray, List.set_cons_zero, List.set_cons_succ, i64_w, i32_w]
    rfl
   refine pure_ (i := 13) (N := some 22) (v := undef) (a' := ?_) (bb 17 49151) rfl rfl (by kernel_rfl) (fun _ _ _ h => h) (Or.inr ⟨by rfl, rfl⟩) ?_ ?_
   rotate_left
   ·simp only [Act.put, List.setIfInBounds_toArray, List.set_cons_zero, List.set_cons_succ, i64_w, i32_w]
    rfl
   refine pure_ (i := 14) (N := some 23) (v := ?_) (a' := ?_) (bb 17 65535) rfl rfl (by kernel_rfl) (fun _ _ _ h => h) (Or.inl ⟨by rfl, ?_⟩) ?_ ?_
   rotate_left
   ·intro w'
    go_simp
    with_reducible rfl
   rotate_left
   ·simp only [Act.put, List.setIfInBounds_toArray, List.set_cons_zero, List.set_cons_succ, i64_w, i32_w]
    rfl
   refine one_ (i := 16) (N := some 3) (bb 17 131071) rfl rfl (by kernel_rfl) (by decide) (fun K hK => ?_)
   refine value_ (w1 := ?_) (v := ?_) (by rfl) rfl ?_ ?_
   rotate_left 2
   ·go_simp
    first | done | rfl | (constructor <;> rfl)
   refine hK.out _ _ trivial (fun _ => ?_)
   clear hK K
   refine norm_ (a' := ?_) ?_ ?_
   rotate_left
   ·show Act.put _ (some 3) _ = _
    simp only [Act.put, List.setIfInBounds_toArray, List.set_cons_zero, List.set_cons_succ, i64_w, i32_w]
    rfl
   refine done_ (by kernel_rfl) ?_
   go_wp2
   go_ret2
   exact ⟨g, ws, rfl, RP.of_heap HI2.out ⟨rfl, rfl, rfl, rfl⟩⟩
 | true =>
  obtain rfl : decide (j' = ws.length) = ok := by simpa using HOK.out
  clear HOK
  refine start_ (n := 17) (S := fun _ => True) (ds := []) (bb 17 0) (by kernel_rfl) rfl rfl trivial (fun _ => ?_)
  refine pure_ (i := 0) (N := some 9) (v := ?_) (a' := ?_) (bb 17 1) rfl rfl (by kernel_rfl) (fun _ _ _ h => h) (Or.inl ⟨by rfl, ?_⟩) ?_ ?_
  rotate_left
  ·intro w'
   go_simp
   with_reducible rfl
  rotate_left
  ·simp only [Act.put, List.setIfInBounds_toArray, List.set_cons_zero, List.set_cons_succ, i64_w, i32_w]
   rfl
  refine pure_ (i := 1) (N := some 10) (v := ?_) (a' := ?_) (bb 17 3) rfl rfl (by kernel_rfl) (fun _ _ _ h => h) (Or.inl ⟨by rfl, ?_⟩) ?_ ?_
  rotate_left
  ·intro w'
   go_simp
   with_reducible rfl
  rotate_left
  ·simp only [Act.put, List.setIfInBounds_toArray, List.set_cons_zero, List.set_cons_succ, i64_w, i32_w]
   rfl
  refine one_ (i := 2) (N := some 11) (bb 17 7) rfl rfl (by kernel_rfl) (by decide) (fun K hK => ?_)
  refine goes_ Tryz.func56 (by kernel_rfl) rfl #[.pointer (some ⟨g, 0, none⟩)] (by rfl) rfl rfl (by simp only [List.map_toArray, List.map_cons, List.map_nil]; rfl) ?_
  refine (HR.out w _ g ws 0 0 [] true j' o' ?sd E2.out).mono ?_
  case sd => exact RP.hh HI
  rintro e w3 ⟨rfl, hr_⟩
  refine ⟨_, rfl, ?_⟩
  have HI2 := am_ hr_
  clear hr_
  obtain ⟨x, A0, c0, HX, hx0, hx1, hd0, hd1, hf1⟩ := HI2.out.read
  clear hx0 hx1 hf1
  refine hK.out _ _ trivial (fun _ => ?_)
  clear hK K
  refine norm_ (a' := ?_) ?_ ?_
  rotate_left
  ·show Act.put _ (some 11) _ = _
   simp only [Act.put, List.setIfInBounds_toArray, List.set_cons_zero, List.set_cons_succ, i64_w, i32_w]
   rfl
  refine one_ (i := 3) (N := some 12) (bb 17 15) rfl rfl (by kernel_rfl) (by decide) (fun K hK => ?_)
  refine value_ (w1 := ?_) (v := ?_) (by rfl) rfl ?_ ?_
  rotate_left 2
  ·go_simp
   first | done | rfl | (constructor <;> rfl)
  refine hK.out _ _ trivial (fun _ => ?_)
  clear hK K
  refine norm_ (a' := ?_) ?_ ?_
  rotate_left
  ·show Act.put _ (some 12) _ = _
   simp only [Act.put, List.setIfInBounds_toArray, List.set_cons_zero, List.set_cons_succ, i64_w, i32_w]
   rfl
  refine pure_ (i := 4) (N := some 13) (v := ?_) (a' := ?_) (bb 17 31) rfl rfl (by kernel_rfl) (fun _ _ _ h => h) (Or.inl ⟨by rfl, ?_⟩) ?_ ?_
  rotate_left
  ·intro w'
   go_simp
   with_reducible rfl
  rotate_left
  ·simp only [Act.put, List.setIfInBounds_toArray, List.set_cons_zero, List.set_cons_succ, i64_w, i32_w]
   rfl
  refine pure_ (i := 5) (N := some 14) (v := ?_) (a' := ?_) (bb 17 63) rfl rfl (by kernel_rfl) (fun _ _ _ h => h) (Or.inl ⟨by rfl, ?_⟩) ?_ ?_
  rotate_left
  ·intro w'
   go_simp
   with_reducible rfl
  rotate_left
  ·simp only [Act.put, List.setIfInBounds_toArray, List.set_cons_zero, List.set_cons_succ, i64_w, i32_w]
   rfl
  refine pure_ (i := 6) (N := some 15) (v := ?_) (a' := ?_) (bb 17 127) rfl rfl (by kernel_rfl) (fun _ _ _ h => h) (Or.inl ⟨by rfl, ?_⟩) ?_ ?_
  rotate_left
  ·intro w'
   go_simp
   with_reducible rfl
  rotate_left
  ·simp only [Act.put, List.setIfInBounds_toArray, List.set_cons_zero, List.set_cons_succ, i64_w, i32_w]
   rfl
  refine pure_ (i := 8) (N := some 17) (v := ?_) (a' := ?_) (bb 17 383) rfl rfl (by kernel_rfl) (fun _ _ _ h => h) (Or.inl ⟨by rfl, ?_⟩) ?_ ?_
  rotate_left
  ·intro w'
   go_simp
   with_reducible rfl
  rotate_left
  ·simp only [Act.put, List.setIfInBounds_toArray, List.set_cons_zero, List.set_cons_succ, i64_w, i32_w]
   rfl
  refine pure_ (i := 9) (N := some 18) (v := ?_) (a' := ?_) (bb 17 895) rfl rfl (by kernel_rfl) (fun _ _ _ h => h) (Or.inl ⟨by rfl, ?_⟩) ?_ ?_
  rotate_left
  ·intro w'
   go_simp
   with_reducible rfl
  rotate_left
  ·simp only [Act.put, List.setIfInBounds_toArray, List.set_cons_zero, List.set_cons_succ, i64_w, i32_w]
   rfl
  refine pure_ (i := 10) (N := some 19) (v := ?_) (a' := ?_) (bb 17 1919) rfl rfl (by kernel_rfl) (fun _ _ _ h => h) (Or.inl ⟨by rfl, ?_⟩) ?_ ?_
  rotate_left
  ·intro w'
   go_simp
   with_reducible rfl
  rotate_left
  ·simp only [Act.put, List.setIfInBounds_toArray, List.set_cons_zero, List.set_cons_succ, i64_w, i32_w]
   rfl
  refine pure_ (i := 15) (N := some 2) (v := ?_) (a' := ?_) (bb 17 34687) rfl rfl (by kernel_rfl) (fun _ _ _ h => h) (Or.inl ⟨by rfl, ?_⟩) ?_ ?_
  rotate_left
  ·intro w'
   go_simp
   with_reducible rfl
  rotate_left
  ·simp only [Act.put, List.setIfInBounds_toArray, List.set_cons_zero, List.set_cons_succ, i64_w, i32_w]
   rfl
  refine two_ (i := 7) (j := 11) (Ni := some 16) (Nj := some 20) (bb 17 34815) (bb 17 36735) rfl rfl rfl rfl (by kernel_rfl) (by decide) (by decide) (fun K hK => ?_) (fun K hK => ?_)
  ·skip
   refine value_ (w1 := ?_) (v := ?_) (by rfl) rfl ?_ ?_
   rotate_left 2
   ·go_simp
    first | done | rfl | (constructor <;> rfl)
   refine hK.out _ _ trivial (fun _ => ?_)
   clear hK K
   refine norm_ (a' := ?_) ?_ ?_
   rotate_left
   ·show Act.put _ (some 16) _ = _
    simp only [Act.put, List.setIfInBounds_toArray, List.set_cons_zero, List.set_cons_succ, i64_w, i32_w]
    rfl
   refine one_ (i := 11) (N := some 20) (bb 17 36863) rfl rfl (by kernel_rfl) (by decide) (fun K hK => ?_)
   refine value_ (w1 := ?_) (v := ?_) (by rfl) rfl ?_ ?_
   rotate_left 2
   ·go_simp
    first | done | rfl | (constructor <;> rfl)
   refine hK.out _ _ trivial (fun _ => ?_)
   clear hK K
   refine norm_ (a' := ?_) ?_ ?_
   rotate_left
   ·show Act.put _ (some 20) _ = _
    simp only [Act.put, List.setIfInBounds_toArray, List.set_cons_zero, List.set_cons_succ, i64_w, i32_w]
    rfl
   refine pure_ (i := 12) (N := some 21) (v := ?_) (a' := ?_) (bb 17 40959) rfl rfl (by kernel_rfl) (fun _ _ _ h => h) (Or.inl ⟨by rfl, ?_⟩) ?_ ?_
   rotate_left
   ·intro w'
    go_simp
    with_reducible rfl
   rotate_left
   ·simp only [Act.put, List.setIfInBounds_toArray, List.set_cons_zero, List.set_cons_succ, i64_w, i32_w]
    rfl
   refine pure_ (i := 13) (N := some 22) (v := ?_) (a' := ?_) (bb 17 49151) rfl rfl (by kernel_rfl) (fun _ _ _ h => h) (Or.inl ⟨by rfl, ?_⟩) ?_ ?_
   rotate_left
   ·intro w'
    go_simp
    with_reducible rfl
   rotate_left
   ·simp only [Act.put, List.setIfInBounds_toArray, List.set_cons_zero, List.set_cons_succ, i64_w, i32_w]
    rfl
   refine pure_ (i := 14) (N := some 23) (v := ?_) (a' := ?_) (bb 17 65535) rfl rfl (by kernel_rfl) (fun _ _ _ h => h) (Or.inl ⟨by rfl, ?_⟩) ?_ ?_
   rotate_left
   ·intro w'
    go_simp
    with_reducible rfl
   rotate_left
   ·simp only [Act.put, List.setIfInBounds_toArray, List.set_cons_zero, List.set_cons_succ, i64_w, i32_w]
    rfl
   refine one_ (i := 16) (N := some 3) (bb 17 131071) rfl rfl (by kernel_rfl) (by decide) (fun K hK => ?_)
   refine value_ (w1 := ?_) (v := ?_) (by rfl) rfl ?_ ?_
   rotate_left 2
   ·go_simp
    first | done | rfl | (constructor <;> rfl)
   refine hK.out _ _ trivial (fun _ => ?_)
   clear hK K
   refine norm_ (a' := ?_) ?_ ?_
   rotate_left
   ·show Act.put _ (some 3) _ = _
    simp only [Act.put, List.setIfInBounds_toArray, List.set_cons_zero, List.set_cons_succ, i64_w, i32_w]
    rfl
   refine done_ (by kernel_rfl) ?_
   go_wp2
   go_ret2
   refine ⟨g, ws, ?_, RP.of_heap HI2.out ⟨rfl, rfl, rfl, rfl⟩⟩
   have hx := HX.out
   subst hx
   have hd : ((j' : Int) == (ws.length : Int)) = decide (j' = ws.length) := by rw [Bool.eq_iff_iff]; simp; omega
   simp [hd]
  ·skip
   refine value_ (w1 := ?_) (v := ?_) (by rfl) rfl ?_ ?_
   rotate_left 2
   ·go_simp
    first | done | rfl | (constructor <;> rfl)
   refine hK.out _ _ trivial (fun _ => ?_)
   clear hK K
   refine norm_ (a' := ?_) ?_ ?_
   rotate_left
   ·show Act.put _ (some 20) _ = _
    simp only [Act.put, List.setIfInBounds_toArray, List.set_cons_zero, List.set_cons_succ, i64_w, i32_w]
    rfl
   refine pure_ (i := 12) (N := some 21) (v := ?_) (a' := ?_) (bb 17 40831) rfl rfl (by kernel_rfl) (fun _ _ _ h => h) (Or.inl ⟨by rfl, ?_⟩) ?_ ?_
   rotate_left
   ·intro w'
    go_simp
    with_reducible rfl
   rotate_left
   ·simp only [Act.put, List.setIfInBounds_toArray, List.set_cons_zero, List.set_cons_succ, i64_w, i32_w]
    rfl
   refine one_ (i := 7) (N := some 16) (bb 17 40959) rfl rfl (by kernel_rfl) (by decide) (fun K hK => ?_)
   refine value_ (w1 := ?_) (v := ?_) (by rfl) rfl ?_ ?_
   rotate_left 2
   ·go_simp
    first | done | rfl | (constructor <;> rfl)
   refine hK.out _ _ trivial (fun _ => ?_)
   clear hK K
   refine norm_ (a' := ?_) ?_ ?_
   rotate_left
   ·show Act.put _ (some 16) _ = _
    simp only [Act.put, List.setIfInBounds_toArray, List.set_cons_zero, List.set_cons_succ, i64_w, i32_w]
    rfl
   refine pure_ (i := 13) (N := some 22) (v := ?_) (a' := ?_) (bb 17 49151) rfl rfl (by kernel_rfl) (fun _ _ _ h => h) (Or.inl ⟨by rfl, ?_⟩) ?_ ?_
   rotate_left
   ·intro w'
    go_simp
    with_reducible rfl
   rotate_left
   ·simp only [Act.put, List.setIfInBounds_toArray, List.set_cons_zero, List.set_cons_succ, i64_w, i32_w]
    rfl
   refine pure_ (i := 14) (N := some 23) (v := ?_) (a' := ?_) (bb 17 65535) rfl rfl (by kernel_rfl) (fun _ _ _ h => h) (Or.inl ⟨by rfl, ?_⟩) ?_ ?_
   rotate_left
   ·intro w'
    go_simp
    with_reducible rfl
   rotate_left
   ·simp only [Act.put, List.setIfInBounds_toArray, List.set_cons_zero, List.set_cons_succ, i64_w, i32_w]
    rfl
   refine one_ (i := 16) (N := some 3) (bb 17 131071) rfl rfl (by kernel_rfl) (by decide) (fun K hK => ?_)
   refine value_ (w1 := ?_) (v := ?_) (by rfl) rfl ?_ ?_
   rotate_left 2
   ·go_simp
    first | done | rfl | (constructor <;> rfl)
   refine hK.out _ _ trivial (fun _ => ?_)
   clear hK K
   refine norm_ (a' := ?_) ?_ ?_
   rotate_left
   ·show Act.put _ (some 3) _ = _
    simp only [Act.put, List.setIfInBounds_toArray, List.set_cons_zero, List.set_cons_succ, i64_w, i32_w]
    rfl
   refine done_ (by kernel_rfl) ?_
   go_wp2
   go_ret2
   refine ⟨g, ws, ?_, RP.of_heap HI2.out ⟨rfl, rfl, rfl, rfl⟩⟩
   have hx := HX.out
   subst hx
   have hd : ((j' : Int) == (ws.length : Int)) = decide (j' = ws.length) := by rw [Bool.eq_iff_iff]; simp; omega
   simp [hd]
theorem RP.parts {w0 w : World} {g : Nat} {ws : List ByteArray} {m i : Nat} {out : List S73} (h : RP w0 w g ws m i out) : ∃ (A : Option Addr) (c : Nat), w.cell? ⟨g, 2, none⟩ = some (.slice A out.length c) ∧ out.length ≤ c ∧ Aside0 (Kd.C k73 w A out.length out) ∧ Aside0 (Kd.R k73 73 w w0.heap.size (fun _ => True) (.slice A out.length c) out) := by
 obtain ⟨_, _, _, _, _, vw, vo, h6, _, h8⟩ := h
 obtain ⟨A, c, rfl, hl, hC⟩ := Kd.R_reads h8
 obtain ⟨_, _, hc2, _, _, _⟩ := bx3 (am_ h6)
 exact ⟨A, c, hc2, hl, ⟨hC⟩, ⟨h8⟩⟩

end Go.Proofs.YtihjlepgmppedaaGreatDoor.PFnRules
