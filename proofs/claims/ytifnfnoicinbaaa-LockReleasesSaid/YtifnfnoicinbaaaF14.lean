/- The function lock_Conflict (number 14) of the program: what it computes, and that the call comes to it: printed by the kit's printer for this seat. -/
import Derived.Test.YtifnfnoicinbaaaT
import Derived.Test.YtifnfnoicinbaaaF31
import Derived.Test.YtifnfnoicinbaaaF43
namespace Go.Proofs.Ytifnfnoicinbaaa.M
open Go.RowKit Go.Proofs.YtifnfnoicinbaaaW.PrintWords Go.Proofs.YtifnfnoicinbaaaW.PrintLast Go.Proofs.YtifnfnoicinbaaaW.PrintMore
attribute [local go_sem] max2_int min2_int max_two min_two max_three min_three max_four min_four   -- for this text's walks alone
set_option linter.unusedVariables false
set_option linter.unusedSimpArgs false

attribute [local go_sem high] eqA24
/-! ### lock_Conflict: function 14 -/
def lock_Conflict.f (a0_0 : Int) (a0_1 : Int) (a0_2 : Int) (a0_3 : Int) (a0_4 : Bool) (a1_0 : Int) (a1_1 : Int) (a1_2 : Int) (a1_3 : Int) (a1_4 : Bool) : Option (Bool) := (lock_Valid.f a0_0 a0_1 a0_2 a0_3 a0_4).bind fun t106 => (if t106 = true then ((lock_Valid.f a1_0 a1_1 a1_2 a1_3 a1_4).bind fun t107 => (if t107 = true then ((lock_meet.f a0_0 a0_1 a0_2 a0_3 a0_4 a1_0 a1_1 a1_2 a1_3 a1_4).bind fun t108 => (some t108)) else (some false))) else (some false))
end Go.Proofs.Ytifnfnoicinbaaa.M
