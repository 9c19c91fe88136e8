/- Short names for steps that the printed walks repeat. No conditions. -/
import Derived.Test.YtllchgipnfdneaaDoorWordsMore
namespace Go.Proofs.YtllchgipnfdneaaDoorW.PrintWords
open Go.Proofs.YtllchgipnfdneaaDoorW.PrintLast Go.Proofs.YtllchgipnfdneaaDoorW.PrintMore
theorem m_ {p : Prop} (h : p) : Aside0 p := ⟨h⟩
theorem rN {p q : Prop} (h : p) (f : p → q := by intro z_; (with_reducible repeat (first | apply Kd.R_alloc | apply Kd.R_drewN | apply Kd.R_drew)); exact z_) : q := f h
theorem kN {p q : Prop} (h : p) (f : p → q := by intro z_; (with_reducible repeat (first | refine blk_drewN ?_ _ | refine blk_drew ?_ | refine blk_alloc ?_ _)); exact z_) : q := f h
theorem bN {p q : Prop} (h : p) (f : p → q := by intro z_; repeat (first | (with_reducible first | exact z_ | apply below_alloc | apply pw_below_drewN | apply below_drew1 | refine below_set ?_ (Aside0.out (by assumption))) | exact z_)) : q := f h
theorem cN {p q : Prop} (h : p) (f : p → q := by intro z_; repeat (first | exact z_ | (with_reducible refine Kd.C_alloc ?_ _) | (with_reducible refine Kd.C_drewN ?_ _) | (with_reducible refine Kd.C_drew ?_))) : q := f h
theorem frN {p q : Prop} (h : p) (f : p → q := by intro z_; (with_reducible repeat (first | apply Kd.R_alloc | apply Kd.R_drewN | apply Kd.R_drew)); (with_reducible apply Kd.R_drop); (with_reducible repeat (first | exact z_ | apply Kd.R_far)); all_goals exact fun _ hk => hk.2) : q := f h
theorem frM {p q : Prop} (h : p) (f : p → q := by intro z_; (with_reducible repeat (first | apply Kd.R_alloc | apply Kd.R_drewN | apply Kd.R_drew)); (with_reducible apply Kd.R_mono); (with_reducible repeat (first | exact z_ | apply Kd.R_far | apply Kd.R_drewN | apply Kd.R_drew | apply Kd.R_alloc)); all_goals (first | exact fun _ _ => trivial | (intro _ hk; (repeat' apply And.intro); all_goals (first | exact hk.2 | exact hk.1.2 | exact hk.1.1.2 | exact hk.1.1.1.2 | exact hk.1.1.1.1.2 | exact hk.1.1.1.1.1.2 | exact hk.1.1.1.1.1.1.2 | exact hk.1.1.1.1.1.1.1.2 | exact hk.1.1.1.1.1.1.1.1.2 | exact hk.2.1 | exact hk.1.2.1 | exact hk.1.1.2.1 | exact hk.1.1.1.2.1 | exact hk.1.1.1.1.2.1 | exact hk.1.1.1.1.1.2.1 | exact hk.1.1.1.1.1.1.2.1 | exact hk.2.2 | exact hk.1.2.2 | exact hk.1.1.2.2 | exact hk.1.1.1.2.2 | exact hk.1.1.1.1.2.2 | exact hk.1 | exact hk.1.1 | exact hk.1.1.1 | exact hk.1.1.1.1 | exact hk.1.1.1.1.1 | exact hk.1.1.1.1.1.1 | exact hk.1.1.1.1.1.1.1 | exact hk.1.1.1.1.1.1.1.1 | exact hk)))) : q := f h
theorem frQ {p q : Prop} (h : p) (f : p → q := by intro z_; (with_reducible repeat (first | apply Kd.Q_alloc | apply Kd.Q_drewN | apply Kd.Q_drew)); (with_reducible apply Kd.Q_mono); (with_reducible repeat (first | exact z_ | apply Kd.Q_far | apply Kd.Q_drewN | apply Kd.Q_drew | apply Kd.Q_alloc)); all_goals (first | exact fun _ _ => trivial | (intro _ hk; (repeat' apply And.intro); all_goals (first | exact hk.2 | exact hk.1.2 | exact hk.1.1.2 | exact hk.1.1.1.2 | exact hk.1.1.1.1.2 | exact hk.1.1.1.1.1.2 | exact hk.1.1.1.1.1.1.2 | exact hk.1.1.1.1.1.1.1.2 | exact hk.1.1.1.1.1.1.1.1.2 | exact hk.2.1 | exact hk.1.2.1 | exact hk.1.1.2.1 | exact hk.1.1.1.2.1 | exact hk.1.1.1.1.2.1 | exact hk.1.1.1.1.1.2.1 | exact hk.1.1.1.1.1.1.2.1 | exact hk.2.2 | exact hk.1.2.2 | exact hk.1.1.2.2 | exact hk.1.1.1.2.2 | exact hk.1.1.1.1.2.2 | exact hk.1 | exact hk.1.1 | exact hk.1.1.1 | exact hk.1.1.1.1 | exact hk.1.1.1.1.1 | exact hk.1.1.1.1.1.1 | exact hk.1.1.1.1.1.1.1 | exact hk.1.1.1.1.1.1.1.1 | exact hk)))) : q := f h
theorem gl_ {p : Prop} (h : p := by (try simp only [List.map_toArray, List.map_cons, List.map_nil]); first | done | rfl | (simp only [List.length_drop, List.length_take]; rfl)) : p := h
theorem kF {p q r : Prop} (h : p) (g : r) (f : p → r → q := by intro z_ y_; (with_reducible repeat (first | refine blk_drewN ?_ _ | refine blk_drew ?_ | refine blk_alloc ?_ _)); (repeat (refine blk_far ?_ y_ _; (with_reducible repeat (first | refine blk_drewN ?_ _ | refine blk_drew ?_ | refine blk_alloc ?_ _)))); exact z_) : q := f h g
section
variable {P : Program} {ops : Array Oper} {Q : Exit → Act → World → Prop} {md : Region.Mode} {S : World → Prop} {ds : List Nat} {T : Bool × List (List Nat × List Nat)} {v : Value} {fuel : Nat} {l : Array Bool} {a a' : Act} {w : World} {oi : Oper}
theorem pu (i n : Nat) (hT : Aside0 (rtab md ops = T)) (hi : ops[i]? = some oi := by rfl) (hN : oi.dst = some n := by rfl) (hc : anyT T l.toList (l.setIfInBounds i true).toList i = true := by kernel_rfl)
    (hQ : ∀ c a w, Q (.panic c) (a.put oi.dst v) w → Q (.panic c) a w := by exact fun _ _ _ h => h) (hk : Region.wanted oi (yielded ops a.tmps) = true := by rfl)
    (hy : ∀ w, (execOp a.eval oi).run P w = .ok (.value v) w := by intro w'; go_simp; with_reducible rfl) (ha : a.put (some n) v = a' := by simp only [Act.put, List.setIfInBounds_toArray, List.set_cons_zero, List.set_cons_succ, i64_w, i32_w]; rfl)
    (h : wpAnyLast P md ops Q S ds fuel (l.setIfInBounds i true) a' w) : wpAnyLast P md ops Q S ds (fuel + 1) l a w :=
  pure_ (l.setIfInBounds i true) hi hN (any_of hT.out hc) hQ (Or.inl ⟨hk, hy⟩) ha h
theorem pv (i n : Nat) (hT : Aside0 (rtab md ops = T)) (hi : ops[i]? = some oi := by rfl) (hN : oi.dst = some n := by rfl) (hc : anyT T l.toList (l.setIfInBounds i true).toList i = true := by kernel_rfl)
    (hQ : ∀ c a w, Q (.panic c) (a.put oi.dst undef) w → Q (.panic c) a w := by exact fun _ _ _ h => h) (hk : Region.wanted oi (yielded ops a.tmps) = false := by rfl)
    (ha : a.put (some n) undef = a' := by simp only [Act.put, List.setIfInBounds_toArray, List.set_cons_zero, List.set_cons_succ, i64_w, i32_w]; rfl)
    (h : wpAnyLast P md ops Q S ds fuel (l.setIfInBounds i true) a' w) : wpAnyLast P md ops Q S ds (fuel + 1) l a w :=
  pure_ (l.setIfInBounds i true) hi hN (any_of hT.out hc) hQ (Or.inr ⟨hk, rfl⟩) ha h
end
abbrev nb (a : Option Addr) (n c : Nat) (k : Nat) : Prop := some k ≠ (Value.slice a n c).ownBlock
abbrev T_ : Bool := true
abbrev F_ : Bool := false
end Go.Proofs.YtllchgipnfdneaaDoorW.PrintWords
