/- The machine side of these statements, function by function: what each Go function answers (as a Lean function), and that it does. Written by a program (mp.py) for this claim. -/
import Derived.Test.YtcenmlpfbpogoaaDoorPx0
import Derived.Test.YtcenmlpfbpogoaaDoorPx1
import Derived.Test.YtcenmlpfbpogoaaDoorPx6
import Derived.Test.YtcenmlpfbpogoaaDoorPx8
import Derived.Test.YtcenmlpfbpogoaaDoorPx9
namespace Go.Proofs.YtcenmlpfbpogoaaDoor.P
open Go.RowKit Go.Proofs.YtcenmlpfbpogoaaDoorW.PrintWords Go.Proofs.YtcenmlpfbpogoaaDoorW.PrintLast Go.Proofs.YtcenmlpfbpogoaaDoorW.PrintMore
attribute [local go_sem] max2_int min2_int max_two min_two max_three min_three max_four min_four   -- for this text's walks alone
set_option linter.unusedVariables false
set_option linter.unusedSimpArgs false

/-! ### spec_l15AnyConf: function 34 -/
def spec_l15AnyConf.f (k : Nat) (s0_0 : List Int) (s0_1 : Int) : Option (Int × Int × (List (List (S107))) × List Int × List Int × List Int × List Int × List Int × (List (S78)) × Int × Int) := (spec_l15Conf.f k s0_0 s0_1).bind fun bt278 => ((spec_l1Rd_pick.f k s0_0 bt278.2.2.2.2.2.2.2.2.2.2 24).bind fun bt304 => (if bt304.1 = 0 then ((spec_l1Rd_one.f k s0_0 bt304.2 (([(-1), 1024] : List Int))).bind fun bt309 => (some (bt309.1, bt278.2.1, bt278.2.2.1, bt278.2.2.2.1, bt278.2.2.2.2.1, bt278.2.2.2.2.2.1, bt278.2.2.2.2.2.2.1, bt278.2.2.2.2.2.2.2.1, bt278.2.2.2.2.2.2.2.2.1, bt278.2.2.2.2.2.2.2.2.2.1, bt309.2))) else (if bt304.1 = 1 then (if 0 < (bt278.2.2.1.length : Int) then (some (bt278.1, bt278.2.1, (bt278.2.2.1.set (0 : Int).toNat (([] : List (S107)))), bt278.2.2.2.1, bt278.2.2.2.2.1, bt278.2.2.2.2.2.1, bt278.2.2.2.2.2.2.1, bt278.2.2.2.2.2.2.2.1, bt278.2.2.2.2.2.2.2.2.1, bt278.2.2.2.2.2.2.2.2.2.1, bt304.2)) else (none)) else (if bt304.1 = 2 then ((spec_l1Rd_one.f k s0_0 bt304.2 (([0, 2047, 7] : List Int))).bind fun bt318 => (if 0 < (bt278.2.2.2.1.length : Int) then (some (bt278.1, bt278.2.1, bt278.2.2.1, (bt278.2.2.2.1.set (0 : Int).toNat bt318.1), bt278.2.2.2.2.1, bt278.2.2.2.2.2.1, bt278.2.2.2.2.2.2.1, bt278.2.2.2.2.2.2.2.1, bt278.2.2.2.2.2.2.2.2.1, bt278.2.2.2.2.2.2.2.2.2.1, bt318.2)) else (none))) else (if bt304.1 = 3 then ((spec_l1Rd_one.f k s0_0 bt304.2 (([0, 41] : List Int))).bind fun bt324 => (if 0 < (bt278.2.2.2.2.1.length : Int) then (some (bt278.1, bt278.2.1, bt278.2.2.1, bt278.2.2.2.1, (bt278.2.2.2.2.1.set (0 : Int).toNat bt324.1), bt278.2.2.2.2.2.1, bt278.2.2.2.2.2.2.1, bt278.2.2.2.2.2.2.2.1, bt278.2.2.2.2.2.2.2.2.1, bt278.2.2.2.2.2.2.2.2.2.1, bt324.2)) else (none))) else (if bt304.1 = 4 then (if bt278.2.2.2.2.2.1.length < 17592186044416 then (some (bt278.1, bt278.2.1, bt278.2.2.1, bt278.2.2.2.1, bt278.2.2.2.2.1, (bt278.2.2.2.2.2.1 ++ [0]), bt278.2.2.2.2.2.2.1, bt278.2.2.2.2.2.2.2.1, bt278.2.2.2.2.2.2.2.2.1, bt278.2.2.2.2.2.2.2.2.2.1, bt304.2)) else (none)) else (if bt304.1 = 5 then ((spec_l1Rd_one.f k s0_0 bt304.2 (([(-2), 3] : List Int))).bind fun bt333 => (if 0 < (bt278.2.2.2.2.2.2.1.length : Int) then (some (bt278.1, bt278.2.1, bt278.2.2.1, bt278.2.2.2.1, bt278.2.2.2.2.1, bt278.2.2.2.2.2.1, (bt278.2.2.2.2.2.2.1.set (0 : Int).toNat bt333.1), bt278.2.2.2.2.2.2.2.1, bt278.2.2.2.2.2.2.2.2.1, bt278.2.2.2.2.2.2.2.2.2.1, bt333.2)) else (none))) else (if bt304.1 = 6 then ((spec_l1Rd_oneOf.f k s0_0 bt304.2 (([(([] : List Int)), (([4] : List Int)), (([(-1)] : List Int))] : List (List Int)))).bind fun bt348 => (some (bt278.1, bt278.2.1, bt278.2.2.1, bt278.2.2.2.1, bt278.2.2.2.2.1, bt278.2.2.2.2.2.1, bt278.2.2.2.2.2.2.1, bt348.1, bt278.2.2.2.2.2.2.2.2.1, bt278.2.2.2.2.2.2.2.2.2.1, bt348.2))) else (if bt304.1 = 7 then (if bt278.2.2.2.2.2.2.2.2.1.length < 3518437208883 then (some (bt278.1, bt278.2.1, bt278.2.2.1, bt278.2.2.2.1, bt278.2.2.2.2.1, bt278.2.2.2.2.2.1, bt278.2.2.2.2.2.2.1, bt278.2.2.2.2.2.2.2.1, (bt278.2.2.2.2.2.2.2.2.1 ++ [(⟨0, 0, 0, (-1), false, false⟩ : S78)]), bt278.2.2.2.2.2.2.2.2.2.1, bt304.2)) else (none)) else (if bt304.1 = 8 then ((spec_l1Rd_one.f k s0_0 bt304.2 (([(-1), 10000] : List Int))).bind fun bt358 => (some (bt278.1, bt278.2.1, bt278.2.2.1, bt278.2.2.2.1, bt278.2.2.2.2.1, bt278.2.2.2.2.2.1, bt278.2.2.2.2.2.2.1, bt278.2.2.2.2.2.2.2.1, bt278.2.2.2.2.2.2.2.2.1, bt358.1, bt358.2))) else (some (bt278.1, bt278.2.1, bt278.2.2.1, bt278.2.2.2.1, bt278.2.2.2.2.1, bt278.2.2.2.2.2.1, bt278.2.2.2.2.2.2.1, bt278.2.2.2.2.2.2.2.1, bt278.2.2.2.2.2.2.2.2.1, bt278.2.2.2.2.2.2.2.2.2.1, bt304.2))))))))))))
theorem spec_l15AnyConf.mono : ∀ a0 a1 k, LeO (spec_l15AnyConf.f k a0 a1) (spec_l15AnyConf.f (k + 1) a0 a1) := by
 intro a0 a1 k
 unfold spec_l15AnyConf.f
 repeat' first
   | (with_reducible exact spec_l15Conf.mono _ _ _)
   | (with_reducible exact spec_l1Rd_one.mono _ _ _ _)
   | (with_reducible exact spec_l1Rd_oneOf.mono _ _ _ _)
   | (with_reducible exact spec_l1Rd_pick.mono _ _ _ _)
   | (with_reducible exact LeO.refl _)
   | (with_reducible exact LeO.none _)
   | (with_reducible refine LeO.ite ?_ ?_)
   | (with_reducible refine LeO.bind ?_ (fun _ => ?_))
   | exact spec_l15Conf.mono _ _ _
   | exact spec_l1Rd_one.mono _ _ _ _
   | exact spec_l1Rd_oneOf.mono _ _ _ _
   | exact spec_l1Rd_pick.mono _ _ _ _
   | exact LeO.none _
   | refine LeO.ite ?_ ?_
   | refine LeO.bind ?_ (fun _ => ?_)
/-- What the switch is on. -/
def spec_l15AnyConf.on (k : Nat) (s0_0 : List Int) (s0_1 : Int) : Option Int := (spec_l15Conf.f k s0_0 s0_1).bind fun a => (spec_l1Rd_pick.f k s0_0 a.2.2.2.2.2.2.2.2.2.2 24).bind fun b => some b.1
end Go.Proofs.YtcenmlpfbpogoaaDoor.P
