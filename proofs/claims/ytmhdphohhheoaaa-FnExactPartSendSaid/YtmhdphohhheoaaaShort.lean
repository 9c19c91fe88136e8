/- Short names for steps that the printed walks repeat. No conditions. -/
import Derived.Test.YtmhdphohhheoaaaWordsMore
namespace Go.Proofs.YtmhdphohhheoaaaW.PrintWords
theorem m_ {p : Prop} (h : p) : Aside0 p := ⟨h⟩
theorem rN {p q : Prop} (h : p) (f : p → q := by intro z_; (with_reducible repeat (first | apply Kd.R_alloc | apply Kd.R_drewN | apply Kd.R_drew)); exact z_) : q := f h
theorem kN {p q : Prop} (h : p) (f : p → q := by intro z_; (with_reducible repeat (first | refine blk_drewN ?_ _ | refine blk_drew ?_ | refine blk_alloc ?_ _)); exact z_) : q := f h
theorem bN {p q : Prop} (h : p) (f : p → q := by intro z_; repeat (first | (with_reducible first | exact z_ | apply below_alloc | apply pw_below_drewN | apply below_drew1 | refine below_set ?_ (Aside0.out (by assumption))) | exact z_)) : q := f h
theorem cN {p q : Prop} (h : p) (f : p → q := by intro z_; repeat (first | exact z_ | (with_reducible refine Kd.C_alloc ?_ _) | (with_reducible refine Kd.C_drewN ?_ _) | (with_reducible refine Kd.C_drew ?_))) : q := f h
theorem frN {p q : Prop} (h : p) (f : p → q := by intro z_; (with_reducible repeat (first | apply Kd.R_alloc | apply Kd.R_drewN | apply Kd.R_drew)); (with_reducible apply Kd.R_drop); (with_reducible repeat (first | exact z_ | apply Kd.R_far)); all_goals exact fun _ hk => hk.2) : q := f h
theorem frM {p q : Prop} (h : p) (f : p → q := by intro z_; (with_reducible repeat (first | apply Kd.R_alloc | apply Kd.R_drewN | apply Kd.R_drew)); (with_reducible apply Kd.R_mono); (with_reducible repeat (first | exact z_ | apply Kd.R_far | apply Kd.R_drewN | apply Kd.R_drew | apply Kd.R_alloc)); all_goals (first | exact fun _ _ => trivial | exact fun _ hk => hk.2 | exact fun _ hk => hk.1.2 | exact fun _ hk => hk.1 | exact fun _ hk => hk.1.1 | exact fun _ hk => hk.1.1.2 | exact fun _ hk => hk.1.1.1 | exact fun _ hk => hk.1.1.1.2 | exact fun _ hk => hk.1.1.1.1)) : q := f h
theorem gl_ {p : Prop} (h : p := by (try simp only [List.map_toArray, List.map_cons, List.map_nil]); first | done | rfl | (simp only [List.length_drop, List.length_take]; rfl)) : p := h
theorem kF {p q r : Prop} (h : p) (g : r) (f : p → r → q := by intro z_ y_; (with_reducible repeat (first | refine blk_drewN ?_ _ | refine blk_drew ?_ | refine blk_alloc ?_ _)); (repeat (refine blk_far ?_ y_ _; (with_reducible repeat (first | refine blk_drewN ?_ _ | refine blk_drew ?_ | refine blk_alloc ?_ _)))); exact z_) : q := f h g
abbrev nb (a : Option Addr) (n c : Nat) (k : Nat) : Prop := some k ≠ (Value.slice a n c).ownBlock
abbrev T_ : Bool := true
abbrev F_ : Bool := false
end Go.Proofs.YtmhdphohhheoaaaW.PrintWords
