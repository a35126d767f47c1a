/- Short words for the walks of great laws: each says in one name what a walk says often. No condition beyond those of the words that it is made of. -/
import Derived.Test.YtikdododhkljeaaDoorWSteps
import Derived.Test.YtikdododhkljeaaDoorWShort
import Derived.Test.YtikdododhkljeaaDoorWMore
set_option linter.unusedVariables false
set_option linter.unusedSimpArgs false
namespace Go.Proofs.YtikdododhkljeaaDoorW.PrintWords
open Go.RowKit Go.Proofs.YtikdododhkljeaaDoorW.PrintLast
section
variable {α : Type} {d : Kd α} {e : Nat} {W W1 : World} {base : Nat} {ok ok' : Nat → Prop} {v : Value} {xs : List α}
theorem rm_ (hq : Below W.heap.size W W1 := by repeat (first | (with_reducible first | exact Below.refl _ _ | apply below_alloc | apply pw_below_drewN | apply below_drew1) | exact Below.refl _ _)) (h : d.R e W base ok v xs) (hm : ∀ k, ok k → ok' k := by intro _ h_; first | exact trivial | exact h_ | exact h_.2 | exact h_.1 | (simp only [h_, ne_eq, not_false_eq_true, and_self, and_true, true_and])) : d.R e W1 base ok' v xs := Kd.R_pp (Kd.R_mono h hm) hq
theorem rq_ (hq : Below W.heap.size W W1 := by repeat (first | (with_reducible first | exact Below.refl _ _ | apply below_alloc | apply pw_below_drewN | apply below_drew1) | exact Below.refl _ _)) (h : d.R e W base ok v xs) : d.R e W1 base ok v xs := Kd.R_pp h hq
theorem rf_ (h : d.R e W base ok v xs) {p : Addr} {u : Value} (hm : ∀ k, ok k → k ≠ p.block := by intro _ h_; first | exact trivial | exact h_ | exact h_.2 | exact h_.1 | (simp only [h_, ne_eq, not_false_eq_true, and_self, and_true, true_and])) : d.R e (W.setCell p u) base ok v xs := Kd.R_far h hm u
theorem rt_ (h : d.R e W base ok v xs) {g t : Nat} {cells : Array Value} (hb : Aside0 (W.heap[g]? = some (.cells cells t (0, 0)))) (ht : ∀ q, q ∈ e :: d.E → q ≠ t := by decide) : d.R e W base (fun k => ok k ∧ k ≠ g) v xs := Kd.R_types h hb.out ht
theorem bf_ {g t : Nat} {cs : Array Value} {p : Addr} {u : Value} (hq : Below W.heap.size W W1 := by repeat (first | (with_reducible first | exact Below.refl _ _ | apply below_alloc | apply pw_below_drewN | apply below_drew1) | exact Below.refl _ _)) (hn : Aside0 (g ≠ p.block)) (h : W.heap[g]? = some (.cells cs t (0, 0))) : (W1.setCell p u).heap[g]? = some (.cells cs t (0, 0)) := blk_far (kpq_ h hq) hn.out u
theorem kq_ {g : Nat} {o : Obj} (hq : Below W.heap.size W W1 := by repeat (first | (with_reducible first | exact Below.refl _ _ | apply below_alloc | apply pw_below_drewN | apply below_drew1) | exact Below.refl _ _)) (h : W.heap[g]? = some o) : W1.heap[g]? = some o := kpq_ h hq
theorem bp_ {g t i : Nat} {cs cs' : Array Value} {u : Value} (hq : Below W.heap.size W W1 := by repeat (first | (with_reducible first | exact Below.refl _ _ | apply below_alloc | apply pw_below_drewN | apply below_drew1) | exact Below.refl _ _)) (h : W.heap[g]? = some (.cells cs t (0, 0))) (e : cs.setIfInBounds i u = cs' := by rfl) : (W1.setCell ⟨g, i, none⟩ u).heap[g]? = some (.cells cs' t (0, 0)) := blk_put (kpq_ h hq) i u e
end
theorem ad_ {e e' : Ending} {q : Prop} (hq : q) (hp : e = e' := by first | rfl | (simp [errW_none, errW_some] <;> rfl) | (simp [*, errW_none, errW_some] <;> rfl)) : e = e' ∧ q := ⟨hp, hq⟩
section
variable {P : Program} {ops : Array Oper} {Q : Exit → Act → World → Prop} {rest : List Oper} {o : Oper} {a : Act} {W : World}
theorem bv_ (N : Tmp) {cs : Array Value} {t : TypeId} (h : ∀ g, g = W.heap.size → ∀ w1, w1.heap[g]? = some (.cells cs t (0, 0)) → Below W.heap.size W w1 → wpList P ops Q rest (a.put o.dst (.pointer (some ⟨g, 0, none⟩))) w1)
    (hg : o.guard = none := by rfl) (hd : o.dst = some N := by rfl) (hr : (execOp a.eval o).run P W = .ok (.value (.pointer (some ⟨W.heap.size, 0, none⟩))) (W.alloc (.cells cs t (0, 0))) := by first | (go_simp; done) | (go_simp; rfl)) : wpList P ops Q (o :: rest) a W := box_event hg hd hr h
end
theorem hc_ {w W : World} {a : Addr} {v : Value} (h : Aside0 (Below w.heap.size w W)) (hx : w.cell? a = some v) : W.cell? a = some v := (h.out.cell (World.block_lt_of_cell? w _ hx)).trans hx
theorem ai_ {k : IntKind} {w : World} {A : Option Addr} {n : Nat} {xs : List Int} (h : (Kd.int k).C w A n xs) (i : Int) (h0 : 0 ≤ i := by exact of_decide_eq_true (by first | (with_reducible assumption) | assumption)) (h1 : i < (n : Int) := by exact of_decide_eq_true (by first | (with_reducible assumption) | assumption)) : ∃ ad, A = some ad ∧ w.cell? (ad.add i.toNat) = some (.int k (rd xs i)) ∧ (0 ≤ i) = True ∧ (i < (n : Int)) = True := by
  obtain ⟨ad, e, hx⟩ := Kd.at_int h i h0 h1
  exact ⟨ad, e, hx, eq_true h0, eq_true h1⟩
end Go.Proofs.YtikdododhkljeaaDoorW.PrintWords
namespace Go.Proofs.YtikdododhkljeaaDoorW.PrintLast
open Go.Proofs.YtikdododhkljeaaDoorW.PrintWords Go.Proofs.YtikdododhkljeaaDoorW.PrintMore Go.RowKit
section
variable {P : Program} {ops : Array Oper} {Q : Exit → Act → World → Prop} {md : Region.Mode} {S : World → Prop} {ds : List Nat} {T : Bool × List (List Nat × List Nat)}
theorem tk_ {B : List Nat} (hT : Aside0 (rtab md ops = T)) (hB : Aside0 (waitsOk T.2 B = true)) {w : World} (hS : S w) (i : Nat) (N : Option Tmp) (l' : Array Bool) {oi : Oper} {v : Value} {fuel : Nat} {l : Array Bool} {a a' : Act} (hi : ops[i]? = some oi := by rfl) (hN : oi.dst = N := by rfl)
    (hc : takeW T B ds l.toList l'.toList i = true := by kernel_rfl) (hQ : ∀ c a w, Q (.panic c) (a.put oi.dst v) w → Q (.panic c) a w := by exact fun _ _ _ h => h) (hy : YieldsIf P ops S oi v a := by exact Or.inl ⟨by rfl, by intro w' hs_; repeat (obtain ⟨s_, hs_⟩ := hs_); (go_simp; with_reducible rfl)⟩)
    (ha : a.put N v = a' := by simp only [Act.put, List.setIfInBounds_toArray, List.set_cons_zero, List.set_cons_succ, i64_w, i32_w]; rfl) (h : wpAnyLast P md ops Q S ds fuel l' a' w) : wpAnyLast P md ops Q S ds (fuel + 1) l a w := take_ l' hi hN (take_ofW hT.out hB.out hc) hQ hy hS ha h
theorem nm_ (N : Option Tmp) {fuel : Nat} {l : Array Bool} {a a' : Act} {v : Value} {w : World} (ha : a.put N v = a' := by simp only [Act.put, List.setIfInBounds_toArray, List.set_cons_zero, List.set_cons_succ, i64_w, i32_w]; rfl) (h : wpAnyLast P md ops Q S ds fuel l a' w) : wpAnyLast P md ops Q S ds fuel l (a.put N v) w := norm_ ha h
end
end Go.Proofs.YtikdododhkljeaaDoorW.PrintLast
