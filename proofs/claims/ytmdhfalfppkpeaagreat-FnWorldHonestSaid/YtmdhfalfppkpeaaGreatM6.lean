/- Part 6 of the proof: texts one behind the other. -/
import Derived.Test.YtmdhfalfppkpeaaGreatM5
/- Books. -/
set_option linter.unusedVariables false
set_option linter.unusedSimpArgs false
namespace Go.Proofs.YtmdhfalfppkpeaaGreat
open Go Go.Wt
theorem mul64_ct : CtP Tryz.prog 180 [.v (UN.mk 1), .v (UN.mk 3)] (.tup [.v (UN.mk 0), .v (UN.mk 3)]) := by
  refine Ct.intro Tryz.func180 rfl rfl ?_
  all_goals first | refine awp_seq (awp_region (id := 0) ?_) | refine awp_seq (awp_seq (awp_region (id := 0) ?_)) | refine awp_region (id := 0) ?_ | refine awp_seq (awp_seq (awp_seq (awp_region (id := 0) ?_)))
  all_goals refine awpOps_cons (op_asU rfl) ?_
  all_goals refine awpOps_cons (op_asU rfl) ?_
  all_goals refine awpOps_nil ?_
  all_goals first | refine awp_seq (awp_region (id := 1) ?_) | refine awp_seq (awp_seq (awp_region (id := 1) ?_)) | refine awp_region (id := 1) ?_ | refine awp_seq (awp_seq (awp_seq (awp_region (id := 1) ?_)))
  all_goals first | refine awpOps_cons (op_mv rfl (Conv.of rfl) rfl) ?_ | refine awpOps_cons (op_mvl rfl rfl rfl rfl) ?_ | refine awpOps_cons (op_mvo rfl rfl rfl rfl) ?_
  all_goals refine awpOps_cons (un_binc rfl rfl (fun w => rfl) (fun G w ω => relUN G w ω ⟨1⟩)) ?_
  all_goals first | refine awpOps_cons (op_as rfl (Conv.of rfl) rfl) ?_ | refine awpOps_cons (op_asl rfl rfl rfl rfl) ?_ | refine awpOps_cons (op_aso rfl rfl rfl rfl) ?_
  all_goals refine awpOps_nil ?_
  all_goals first | refine awp_seq (awp_region (id := 2) ?_) | refine awp_seq (awp_seq (awp_region (id := 2) ?_)) | refine awp_region (id := 2) ?_ | refine awp_seq (awp_seq (awp_seq (awp_region (id := 2) ?_)))
  all_goals first | refine awpOps_cons (op_mv rfl (Conv.of rfl) rfl) ?_ | refine awpOps_cons (op_mvl rfl rfl rfl rfl) ?_ | refine awpOps_cons (op_mvo rfl rfl rfl rfl) ?_
  all_goals refine awpOps_cons (un_binc rfl rfl (fun w => rfl) (fun G w ω => relUN G w ω ⟨0⟩)) ?_
  all_goals first | refine awpOps_cons (op_as rfl (Conv.of rfl) rfl) ?_ | refine awpOps_cons (op_asl rfl rfl rfl rfl) ?_ | refine awpOps_cons (op_aso rfl rfl rfl rfl) ?_
  all_goals refine awpOps_nil ?_
  all_goals first | refine awp_seq (awp_region (id := 3) ?_) | refine awp_seq (awp_seq (awp_region (id := 3) ?_)) | refine awp_region (id := 3) ?_ | refine awp_seq (awp_seq (awp_seq (awp_region (id := 3) ?_)))
  all_goals first | refine awpOps_cons (op_mv rfl (Conv.of rfl) rfl) ?_ | refine awpOps_cons (op_mvl rfl rfl rfl rfl) ?_ | refine awpOps_cons (op_mvo rfl rfl rfl rfl) ?_
  all_goals refine awpOps_cons (un_binc rfl rfl (fun w => rfl) (fun G w ω => relUN G w ω ⟨3⟩)) ?_
  all_goals first | refine awpOps_cons (op_as rfl (Conv.of rfl) rfl) ?_ | refine awpOps_cons (op_asl rfl rfl rfl rfl) ?_ | refine awpOps_cons (op_aso rfl rfl rfl rfl) ?_
  all_goals refine awpOps_nil ?_
  all_goals first | refine awp_seq (awp_region (id := 4) ?_) | refine awp_seq (awp_seq (awp_region (id := 4) ?_)) | refine awp_region (id := 4) ?_ | refine awp_seq (awp_seq (awp_seq (awp_region (id := 4) ?_)))
  all_goals first | refine awpOps_cons (op_mv rfl (Conv.of rfl) rfl) ?_ | refine awpOps_cons (op_mvl rfl rfl rfl rfl) ?_ | refine awpOps_cons (op_mvo rfl rfl rfl rfl) ?_
  all_goals refine awpOps_cons (un_binc rfl rfl (fun w => rfl) (fun G w ω => relUN G w ω ⟨0⟩)) ?_
  all_goals first | refine awpOps_cons (op_as rfl (Conv.of rfl) rfl) ?_ | refine awpOps_cons (op_asl rfl rfl rfl rfl) ?_ | refine awpOps_cons (op_aso rfl rfl rfl rfl) ?_
  all_goals refine awpOps_nil ?_
  all_goals first | refine awp_seq (awp_region (id := 5) ?_) | refine awp_seq (awp_seq (awp_region (id := 5) ?_)) | refine awp_region (id := 5) ?_ | refine awp_seq (awp_seq (awp_seq (awp_region (id := 5) ?_)))
  all_goals first | refine awpOps_cons (op_mv rfl (Conv.of rfl) rfl) ?_ | refine awpOps_cons (op_mvl rfl rfl rfl rfl) ?_ | refine awpOps_cons (op_mvo rfl rfl rfl rfl) ?_
  all_goals first | refine awpOps_cons (op_mv rfl (Conv.of rfl) rfl) ?_ | refine awpOps_cons (op_mvl rfl rfl rfl rfl) ?_ | refine awpOps_cons (op_mvo rfl rfl rfl rfl) ?_
  all_goals refine awpOps_cons (un_bin rfl rfl rfl (fun w => rfl) (fun G w ω => relUN G w ω ⟨3⟩)) ?_
  all_goals first | refine awpOps_cons (op_as rfl (Conv.of rfl) rfl) ?_ | refine awpOps_cons (op_asl rfl rfl rfl rfl) ?_ | refine awpOps_cons (op_aso rfl rfl rfl rfl) ?_
  all_goals refine awpOps_nil ?_
  all_goals first | refine awp_seq (awp_region (id := 6) ?_) | refine awp_seq (awp_seq (awp_region (id := 6) ?_)) | refine awp_region (id := 6) ?_ | refine awp_seq (awp_seq (awp_seq (awp_region (id := 6) ?_)))
  all_goals first | refine awpOps_cons (op_mv rfl (Conv.of rfl) rfl) ?_ | refine awpOps_cons (op_mvl rfl rfl rfl rfl) ?_ | refine awpOps_cons (op_mvo rfl rfl rfl rfl) ?_
  all_goals first | refine awpOps_cons (op_mv rfl (Conv.of rfl) rfl) ?_ | refine awpOps_cons (op_mvl rfl rfl rfl rfl) ?_ | refine awpOps_cons (op_mvo rfl rfl rfl rfl) ?_
  all_goals refine awpOps_cons (un_bin rfl rfl rfl (fun w => rfl) (fun G w ω => relUN G w ω ⟨0⟩)) ?_
  all_goals first | refine awpOps_cons (op_mv rfl (Conv.of rfl) rfl) ?_ | refine awpOps_cons (op_mvl rfl rfl rfl rfl) ?_ | refine awpOps_cons (op_mvo rfl rfl rfl rfl) ?_
  all_goals refine awpOps_cons (un_binc rfl rfl (fun w => rfl) (fun G w ω => relUN G w ω ⟨0⟩)) ?_
  all_goals refine awpOps_cons (un_bin rfl rfl rfl (fun w => rfl) (fun G w ω => relUN G w ω ⟨0⟩)) ?_
  all_goals first | refine awpOps_cons (op_as rfl (Conv.of rfl) rfl) ?_ | refine awpOps_cons (op_asl rfl rfl rfl rfl) ?_ | refine awpOps_cons (op_aso rfl rfl rfl rfl) ?_
  all_goals refine awpOps_nil ?_
  all_goals first | refine awp_seq (awp_region (id := 7) ?_) | refine awp_seq (awp_seq (awp_region (id := 7) ?_)) | refine awp_region (id := 7) ?_ | refine awp_seq (awp_seq (awp_seq (awp_region (id := 7) ?_)))
  all_goals first | refine awpOps_cons (op_mv rfl (Conv.of rfl) rfl) ?_ | refine awpOps_cons (op_mvl rfl rfl rfl rfl) ?_ | refine awpOps_cons (op_mvo rfl rfl rfl rfl) ?_
  all_goals refine awpOps_cons (un_binc rfl rfl (fun w => rfl) (fun G w ω => relUN G w ω ⟨0⟩)) ?_
  all_goals first | refine awpOps_cons (op_as rfl (Conv.of rfl) rfl) ?_ | refine awpOps_cons (op_asl rfl rfl rfl rfl) ?_ | refine awpOps_cons (op_aso rfl rfl rfl rfl) ?_
  all_goals refine awpOps_nil ?_
  all_goals first | refine awp_seq (awp_region (id := 8) ?_) | refine awp_seq (awp_seq (awp_region (id := 8) ?_)) | refine awp_region (id := 8) ?_ | refine awp_seq (awp_seq (awp_seq (awp_region (id := 8) ?_)))
  all_goals first | refine awpOps_cons (op_mv rfl (Conv.of rfl) rfl) ?_ | refine awpOps_cons (op_mvl rfl rfl rfl rfl) ?_ | refine awpOps_cons (op_mvo rfl rfl rfl rfl) ?_
  all_goals refine awpOps_cons (un_binc rfl rfl (fun w => rfl) (fun G w ω => relUN G w ω ⟨0⟩)) ?_
  all_goals first | refine awpOps_cons (op_as rfl (Conv.of rfl) rfl) ?_ | refine awpOps_cons (op_asl rfl rfl rfl rfl) ?_ | refine awpOps_cons (op_aso rfl rfl rfl rfl) ?_
  all_goals refine awpOps_nil ?_
  all_goals first | refine awp_seq (awp_region (id := 9) ?_) | refine awp_seq (awp_seq (awp_region (id := 9) ?_)) | refine awp_region (id := 9) ?_ | refine awp_seq (awp_seq (awp_seq (awp_region (id := 9) ?_)))
  all_goals first | refine awpOps_cons (op_mv rfl (Conv.of rfl) rfl) ?_ | refine awpOps_cons (op_mvl rfl rfl rfl rfl) ?_ | refine awpOps_cons (op_mvo rfl rfl rfl rfl) ?_
  all_goals first | refine awpOps_cons (op_mv rfl (Conv.of rfl) rfl) ?_ | refine awpOps_cons (op_mvl rfl rfl rfl rfl) ?_ | refine awpOps_cons (op_mvo rfl rfl rfl rfl) ?_
  all_goals first | refine awpOps_cons (op_mv rfl (Conv.of rfl) rfl) ?_ | refine awpOps_cons (op_mvl rfl rfl rfl rfl) ?_ | refine awpOps_cons (op_mvo rfl rfl rfl rfl) ?_
  all_goals refine awpOps_cons (un_bin rfl rfl rfl (fun w => rfl) (fun G w ω => relUN G w ω ⟨0⟩)) ?_
  all_goals refine awpOps_cons (un_bin rfl rfl rfl (fun w => rfl) (fun G w ω => relUN G w ω ⟨0⟩)) ?_
  all_goals first | refine awpOps_cons (op_as rfl (Conv.of rfl) rfl) ?_ | refine awpOps_cons (op_asl rfl rfl rfl rfl) ?_ | refine awpOps_cons (op_aso rfl rfl rfl rfl) ?_
  all_goals refine awpOps_nil ?_
  all_goals first | refine awp_seq (awp_region (id := 10) ?_) | refine awp_seq (awp_seq (awp_region (id := 10) ?_)) | refine awp_region (id := 10) ?_ | refine awp_seq (awp_seq (awp_seq (awp_region (id := 10) ?_)))
  all_goals first | refine awpOps_cons (op_mv rfl (Conv.of rfl) rfl) ?_ | refine awpOps_cons (op_mvl rfl rfl rfl rfl) ?_ | refine awpOps_cons (op_mvo rfl rfl rfl rfl) ?_
  all_goals first | refine awpOps_cons (op_mv rfl (Conv.of rfl) rfl) ?_ | refine awpOps_cons (op_mvl rfl rfl rfl rfl) ?_ | refine awpOps_cons (op_mvo rfl rfl rfl rfl) ?_
  all_goals refine awpOps_cons (un_bin rfl rfl rfl (fun w => rfl) (fun G w ω => relUN G w ω ⟨0⟩)) ?_
  all_goals first | refine awpOps_cons (op_mv rfl (Conv.of rfl) rfl) ?_ | refine awpOps_cons (op_mvl rfl rfl rfl rfl) ?_ | refine awpOps_cons (op_mvo rfl rfl rfl rfl) ?_
  all_goals refine awpOps_cons (un_bin rfl rfl rfl (fun w => rfl) (fun G w ω => relUN G w ω ⟨0⟩)) ?_
  all_goals first | refine awpOps_cons (op_mv rfl (Conv.of rfl) rfl) ?_ | refine awpOps_cons (op_mvl rfl rfl rfl rfl) ?_ | refine awpOps_cons (op_mvo rfl rfl rfl rfl) ?_
  all_goals refine awpOps_cons (un_binc rfl rfl (fun w => rfl) (fun G w ω => relUN G w ω ⟨0⟩)) ?_
  all_goals refine awpOps_cons (un_bin rfl rfl rfl (fun w => rfl) (fun G w ω => relUN G w ω ⟨0⟩)) ?_
  all_goals first | refine awpOps_cons (op_as rfl (Conv.of rfl) rfl) ?_ | refine awpOps_cons (op_asl rfl rfl rfl rfl) ?_ | refine awpOps_cons (op_aso rfl rfl rfl rfl) ?_
  all_goals refine awpOps_nil ?_
  all_goals first | refine awp_seq (awp_region (id := 11) ?_) | refine awp_seq (awp_seq (awp_region (id := 11) ?_)) | refine awp_region (id := 11) ?_ | refine awp_seq (awp_seq (awp_seq (awp_region (id := 11) ?_)))
  all_goals first | refine awpOps_cons (op_mv rfl (Conv.of rfl) rfl) ?_ | refine awpOps_cons (op_mvl rfl rfl rfl rfl) ?_ | refine awpOps_cons (op_mvo rfl rfl rfl rfl) ?_
  all_goals first | refine awpOps_cons (op_mv rfl (Conv.of rfl) rfl) ?_ | refine awpOps_cons (op_mvl rfl rfl rfl rfl) ?_ | refine awpOps_cons (op_mvo rfl rfl rfl rfl) ?_
  all_goals refine awpOps_cons (un_bin rfl rfl rfl (fun w => rfl) (fun G w ω => relUN G w ω ⟨3⟩)) ?_
  all_goals first | refine awpOps_cons (op_as rfl (Conv.of rfl) rfl) ?_ | refine awpOps_cons (op_asl rfl rfl rfl rfl) ?_ | refine awpOps_cons (op_aso rfl rfl rfl rfl) ?_
  all_goals refine awpOps_nil ?_
  refine awp_ret ?_
  repeat first | refine rt_seq ?_ | refine rt_block ?_
  exact finN (.cons (.v rfl (Conv.of rfl)) (.cons (.v rfl (Conv.of rfl)) .nil)) rfl rfl rfl
theorem mul_ct : CtP Tryz.prog 177 [.v (UN.mk 1), .v (UN.mk 3)] (.tup [.v (UN.mk 0), .v (UN.mk 3)]) := by
  refine Ct.intro Tryz.func177 rfl rfl ?_
  all_goals first | refine awp_seq (awp_region (id := 0) ?_) | refine awp_seq (awp_seq (awp_region (id := 0) ?_)) | refine awp_region (id := 0) ?_ | refine awp_seq (awp_seq (awp_seq (awp_region (id := 0) ?_)))
  all_goals refine awpOps_cons (op_asU rfl) ?_
  all_goals refine awpOps_cons (op_asU rfl) ?_
  all_goals refine awpOps_nil ?_
  first | refine awp_seq (awp_cond rfl (fun h => absurd h (by decide)) (fun h => ?_)) | refine awp_seq (awp_seq (awp_cond rfl (fun h => absurd h (by decide)) (fun h => ?_))) | refine awp_cond rfl (fun h => absurd h (by decide)) (fun h => ?_) | refine awp_seq (awp_seq (awp_seq (awp_cond rfl (fun h => absurd h (by decide)) (fun h => ?_))))
  refine awp_skip ?_
  all_goals first | refine awp_seq (awp_region (id := 3) ?_) | refine awp_seq (awp_seq (awp_region (id := 3) ?_)) | refine awp_region (id := 3) ?_ | refine awp_seq (awp_seq (awp_seq (awp_region (id := 3) ?_)))
  all_goals first | refine awpOps_cons (op_mv rfl (Conv.of rfl) rfl) ?_ | refine awpOps_cons (op_mvl rfl rfl rfl rfl) ?_ | refine awpOps_cons (op_mvo rfl rfl rfl rfl) ?_
  all_goals first | refine awpOps_cons (op_mv rfl (Conv.of rfl) rfl) ?_ | refine awpOps_cons (op_mvl rfl rfl rfl rfl) ?_ | refine awpOps_cons (op_mvo rfl rfl rfl rfl) ?_
  all_goals refine awpOps_cons (op_call fb180 (.cons rfl (Conv.of rfl) (.cons rfl (Conv.of rfl) (.nil _))) (mul64_ct) (argOk rfl rfl (argOk rfl rfl argOk0)) rfl rfl) ?_
  all_goals first | refine awpOps_cons (op_mv rfl (Conv.of rfl) rfl) ?_ | refine awpOps_cons (op_mvl rfl rfl rfl rfl) ?_ | refine awpOps_cons (op_mvo rfl rfl rfl rfl) ?_
  all_goals refine awpOps_cons (op_ext rfl rfl rfl) ?_
  all_goals refine awpOps_cons (op_ext rfl rfl rfl) ?_
  all_goals first | refine awpOps_cons (op_as rfl (Conv.of rfl) rfl) ?_ | refine awpOps_cons (op_asl rfl rfl rfl rfl) ?_ | refine awpOps_cons (op_aso rfl rfl rfl rfl) ?_
  all_goals first | refine awpOps_cons (op_as rfl (Conv.of rfl) rfl) ?_ | refine awpOps_cons (op_asl rfl rfl rfl rfl) ?_ | refine awpOps_cons (op_aso rfl rfl rfl rfl) ?_
  all_goals refine awpOps_nil ?_
  all_goals first | refine awp_seq (awp_region (id := 4) ?_) | refine awp_seq (awp_seq (awp_region (id := 4) ?_)) | refine awp_region (id := 4) ?_ | refine awp_seq (awp_seq (awp_seq (awp_region (id := 4) ?_)))
  all_goals first | refine awpOps_cons (op_mv rfl (Conv.of rfl) rfl) ?_ | refine awpOps_cons (op_mvl rfl rfl rfl rfl) ?_ | refine awpOps_cons (op_mvo rfl rfl rfl rfl) ?_
  all_goals first | refine awpOps_cons (op_mv rfl (Conv.of rfl) rfl) ?_ | refine awpOps_cons (op_mvl rfl rfl rfl rfl) ?_ | refine awpOps_cons (op_mvo rfl rfl rfl rfl) ?_
  all_goals first | refine awpOps_cons (op_as rfl (Conv.of rfl) rfl) ?_ | refine awpOps_cons (op_asl rfl rfl rfl rfl) ?_ | refine awpOps_cons (op_aso rfl rfl rfl rfl) ?_
  all_goals first | refine awpOps_cons (op_as rfl (Conv.of rfl) rfl) ?_ | refine awpOps_cons (op_asl rfl rfl rfl rfl) ?_ | refine awpOps_cons (op_aso rfl rfl rfl rfl) ?_
  all_goals refine awpOps_nil ?_
  refine awp_ret ?_
  repeat first | refine rt_seq ?_ | refine rt_block ?_
  exact finN (.cons (.v rfl (Conv.of rfl)) (.cons (.v rfl (Conv.of rfl)) .nil)) rfl rfl rfl
def rep3 (k : Nat) : List Int := List.replicate k 9 ++ List.replicate (3 - k) 0
theorem repeat_ct : Ct Tryz.prog 167 [.v ([9] : List Int), .v (3 : Int)] noObj (fun r h => r = .v (NRef.ref 2) ∧ h = obs [(2, .arr ([9, 9, 9] : List Int))]) := by
  have hsl := sl61
  have hz : ZeroOk Tryz.prog 3 (0 : Int) := zero_mk (by kernel_rfl)
  refine Ct.intro Tryz.func167 rfl rfl ?_
  all_goals first | refine awp_seq (awp_region (id := 0) ?_) | refine awp_seq (awp_seq (awp_region (id := 0) ?_)) | refine awp_region (id := 0) ?_ | refine awp_seq (awp_seq (awp_seq (awp_region (id := 0) ?_)))
  all_goals refine awpOps_cons (op_as rfl (Conv.of rfl) rfl) ?_
  all_goals refine awpOps_nil ?_
  all_goals first | refine awp_seq (awp_region (id := 1) ?_) | refine awp_seq (awp_seq (awp_region (id := 1) ?_)) | refine awp_region (id := 1) ?_ | refine awp_seq (awp_seq (awp_seq (awp_region (id := 1) ?_)))
  all_goals first | refine awpOps_cons (op_mv rfl (Conv.of rfl) rfl) ?_ | refine awpOps_cons (op_mvl rfl rfl rfl rfl) ?_ | refine awpOps_cons (op_mvo rfl rfl rfl rfl) ?_
  all_goals refine awpOps_cons (op_lss rfl rfl rfl) ?_
  all_goals refine awpOps_nil ?_
  first | refine awp_seq (awp_cond rfl (fun h => absurd h (by decide)) (fun h => ?_)) | refine awp_seq (awp_seq (awp_cond rfl (fun h => absurd h (by decide)) (fun h => ?_))) | refine awp_cond rfl (fun h => absurd h (by decide)) (fun h => ?_) | refine awp_seq (awp_seq (awp_seq (awp_cond rfl (fun h => absurd h (by decide)) (fun h => ?_))))
  refine awp_skip ?_
  all_goals first | refine awp_seq (awp_region (id := 3) ?_) | refine awp_seq (awp_seq (awp_region (id := 3) ?_)) | refine awp_region (id := 3) ?_ | refine awp_seq (awp_seq (awp_seq (awp_region (id := 3) ?_)))
  all_goals first | refine awpOps_cons (op_mv rfl (Conv.of rfl) rfl) ?_ | refine awpOps_cons (op_mvl rfl rfl rfl rfl) ?_ | refine awpOps_cons (op_mvo rfl rfl rfl rfl) ?_
  all_goals first | refine awpOps_cons (op_len sl61 rfl rfl) ?_ | refine awpOps_cons (op_lenA sl61 rfl rfl rfl) ?_
  all_goals refine awpOps_cons (op_cvU rfl rfl (by kernel_rfl) (by kernel_rfl) (by decide)) ?_
  all_goals first | refine awpOps_cons (op_mv rfl (Conv.of rfl) rfl) ?_ | refine awpOps_cons (op_mvl rfl rfl rfl rfl) ?_ | refine awpOps_cons (op_mvo rfl rfl rfl rfl) ?_
  all_goals refine awpOps_cons (op_cvU rfl rfl (by kernel_rfl) (by kernel_rfl) (by decide)) ?_
  all_goals refine awpOps_cons (op_call fb177 (.cons rfl (Conv.of rfl) (.cons rfl (Conv.of rfl) (.nil _))) (mul_ct) (argOk rfl rfl (argOk rfl rfl argOk0)) rfl rfl) ?_
  all_goals first | refine awpOps_cons (op_mv rfl (Conv.of rfl) rfl) ?_ | refine awpOps_cons (op_mvl rfl rfl rfl rfl) ?_ | refine awpOps_cons (op_mvo rfl rfl rfl rfl) ?_
  all_goals refine awpOps_cons (op_ext rfl rfl rfl) ?_
  all_goals refine awpOps_cons (op_ext rfl rfl rfl) ?_
  all_goals first | refine awpOps_cons (op_as rfl (Conv.of rfl) rfl) ?_ | refine awpOps_cons (op_asl rfl rfl rfl rfl) ?_ | refine awpOps_cons (op_aso rfl rfl rfl rfl) ?_
  all_goals first | refine awpOps_cons (op_as rfl (Conv.of rfl) rfl) ?_ | refine awpOps_cons (op_asl rfl rfl rfl rfl) ?_ | refine awpOps_cons (op_aso rfl rfl rfl rfl) ?_
  all_goals refine awpOps_nil ?_
  first | refine awp_seq (awp_seq (awp_seq (awp_seq_to (s' := mkSt 48 [(0, .v ([9] : List Int)), (6, .v (UN.mk 3)), (26, .v false)] []) ?_ ?_))) | refine awp_seq (awp_seq (awp_seq_to (s' := mkSt 48 [(0, .v ([9] : List Int)), (6, .v (UN.mk 3)), (26, .v false)] []) ?_ ?_)) | refine awp_seq (awp_seq_to (s' := mkSt 48 [(0, .v ([9] : List Int)), (6, .v (UN.mk 3)), (26, .v false)] []) ?_ ?_) | refine awp_seq_to (s' := mkSt 48 [(0, .v ([9] : List Int)), (6, .v (UN.mk 3)), (26, .v false)] []) ?_ ?_ | refine awp_toB (s' := mkSt 48 [(0, .v ([9] : List Int)), (6, .v (UN.mk 3)), (26, .v false)] []) ?_ ?_ | refine awp_to (s' := mkSt 48 [(0, .v ([9] : List Int)), (6, .v (UN.mk 3)), (26, .v false)] []) ?_ ?_
  · all_goals first | refine awp_seq (awp_region (id := 4) ?_) | refine awp_seq (awp_seq (awp_region (id := 4) ?_)) | refine awp_region (id := 4) ?_ | refine awp_seq (awp_seq (awp_seq (awp_region (id := 4) ?_)))
    all_goals first | refine awpOps_cons (op_mv rfl (Conv.of rfl) rfl) ?_ | refine awpOps_cons (op_mvl rfl rfl rfl rfl) ?_ | refine awpOps_cons (op_mvo rfl rfl rfl rfl) ?_
    all_goals refine awpOps_cons (un_binc rfl rfl (fun w => rfl) (fun G w ω => relBool G w ω false)) ?_
    all_goals first | refine awpOps_cons (op_mv rfl (Conv.of rfl) rfl) ?_ | refine awpOps_cons (op_mvl rfl rfl rfl rfl) ?_ | refine awpOps_cons (op_mvo rfl rfl rfl rfl) ?_
    all_goals first | refine g_lit (t := 23) (b := true) rfl ?_ | refine g_lit (t := 23) (b := false) rfl ?_ | refine g_ulit (t := 23) rfl ?_ | refine g_split (t := 23) rfl (fun h => ?_) (fun h => ?_)
    all_goals first | refine awpOps_cons (g_off rfl rfl rfl rfl rfl) ?_ | refine awpOps_cons (g_und rfl rfl rfl) ?_ | refine awpOps_cons (g_on rfl rfl rfl (op_mv rfl (Conv.of rfl) rfl)) ?_ | refine awpOps_cons (g_on rfl rfl rfl (op_mvl rfl rfl rfl rfl)) ?_ | refine awpOps_cons (g_on rfl rfl rfl (op_mvo rfl rfl rfl rfl)) ?_
    all_goals first | refine awpOps_cons (g_off rfl rfl rfl rfl rfl) ?_ | refine awpOps_cons (g_und rfl rfl rfl) ?_ | refine awpOps_cons (g_on rfl rfl rfl (un_binc rfl rfl (fun w => rfl) (fun G w ω => relBool G w ω false))) ?_
    all_goals refine awpOps_cons (op_pick rfl rfl rfl rfl) ?_
    all_goals refine awpOps_nil ?_
    all_goals exact Le.mk rfl (tle rfl (rfl) rfl (tle rfl (rfl) rfl (tle rfl (by first | rfl | (simp_all)) rfl tln))) oln noS
  first | refine awp_seq (awp_cond rfl (fun h => absurd h (by decide)) (fun h => ?_)) | refine awp_seq (awp_seq (awp_cond rfl (fun h => absurd h (by decide)) (fun h => ?_))) | refine awp_cond rfl (fun h => absurd h (by decide)) (fun h => ?_) | refine awp_seq (awp_seq (awp_seq (awp_cond rfl (fun h => absurd h (by decide)) (fun h => ?_))))
  refine awp_skip ?_
  all_goals first | refine awp_seq (awp_region (id := 6) ?_) | refine awp_seq (awp_seq (awp_region (id := 6) ?_)) | refine awp_region (id := 6) ?_ | refine awp_seq (awp_seq (awp_seq (awp_region (id := 6) ?_)))
  all_goals first | refine awpOps_cons (op_mv rfl (Conv.of rfl) rfl) ?_ | refine awpOps_cons (op_mvl rfl rfl rfl rfl) ?_ | refine awpOps_cons (op_mvo rfl rfl rfl rfl) ?_
  all_goals refine awpOps_cons (op_cvI rfl rfl (by kernel_rfl) (by kernel_rfl) (by decide)) ?_
  all_goals refine awpOps_cons (op_mkA (o := 2) hsl hz rfl (by decide) (by decide) (by decide) rfl rfl) ?_
  all_goals first | refine awpOps_cons (op_as rfl (Conv.of rfl) rfl) ?_ | refine awpOps_cons (op_asl rfl rfl rfl rfl) ?_ | refine awpOps_cons (op_aso rfl rfl rfl rfl) ?_
  all_goals refine awpOps_nil ?_
  all_goals first | refine awp_seq (awp_region (id := 7) ?_) | refine awp_seq (awp_seq (awp_region (id := 7) ?_)) | refine awp_region (id := 7) ?_ | refine awp_seq (awp_seq (awp_seq (awp_region (id := 7) ?_)))
  all_goals first | refine awpOps_cons (op_mv rfl (Conv.of rfl) rfl) ?_ | refine awpOps_cons (op_mvl rfl rfl rfl rfl) ?_ | refine awpOps_cons (op_mvo rfl rfl rfl rfl) ?_
  all_goals first | refine awpOps_cons (op_mv rfl (Conv.of rfl) rfl) ?_ | refine awpOps_cons (op_mvl rfl rfl rfl rfl) ?_ | refine awpOps_cons (op_mvo rfl rfl rfl rfl) ?_
  all_goals refine awpOps_cons (op_copy1 hsl (dst_ref rfl (fun t ht => List.mem_append_left _ ht) rfl (by simp)) (fst_list (v := 9) (l := []) rfl (fun t ht => List.mem_append_right _ ht)) rfl (by decide) rfl rfl) ?_
  all_goals first | refine awpOps_cons (op_as rfl (Conv.of rfl) rfl) ?_ | refine awpOps_cons (op_asl rfl rfl rfl rfl) ?_ | refine awpOps_cons (op_aso rfl rfl rfl rfl) ?_
  all_goals refine awpOps_nil ?_
  first | refine awp_seq (awp_block ?_) | refine awp_seq (awp_seq (awp_block ?_)) | refine awp_block ?_ | refine awp_seq (awp_seq (awp_seq (awp_block ?_)))
  first | refine awp_seq (awp_loop' (fun n_ s => ∃ (k : Nat), ∃ (hk : n_ + k = 3), ∃ (h1 : 1 ≤ k), s = mkSt 48 [(7, .v (NRef.ref 2)), (8, .v (k : Int))] [(2, .arr (rep3 k))]) (2) ⟨1, by omega, by omega, rfl⟩ (Le.mk rfl (tlb rfl rfl rfl (tle rfl (by first | rfl | (rfl)) rfl tln)) (olk (by first | rfl | (rfl)) (by first | exact obOk_cell | exact obOk_arr | exact obOkW rfl | exact obOkW0 | exact obOkN | exact obOkS rfl | exact obOkNs | exact obOkS0 | trivial) oln) noS) ?_) | refine awp_seq (awp_seq (awp_loop' (fun n_ s => ∃ (k : Nat), ∃ (hk : n_ + k = 3), ∃ (h1 : 1 ≤ k), s = mkSt 48 [(7, .v (NRef.ref 2)), (8, .v (k : Int))] [(2, .arr (rep3 k))]) (2) ⟨1, by omega, by omega, rfl⟩ (Le.mk rfl (tlb rfl rfl rfl (tle rfl (by first | rfl | (rfl)) rfl tln)) (olk (by first | rfl | (rfl)) (by first | exact obOk_cell | exact obOk_arr | exact obOkW rfl | exact obOkW0 | exact obOkN | exact obOkS rfl | exact obOkNs | exact obOkS0 | trivial) oln) noS) ?_)) | refine awp_loop' (fun n_ s => ∃ (k : Nat), ∃ (hk : n_ + k = 3), ∃ (h1 : 1 ≤ k), s = mkSt 48 [(7, .v (NRef.ref 2)), (8, .v (k : Int))] [(2, .arr (rep3 k))]) (2) ⟨1, by omega, by omega, rfl⟩ (Le.mk rfl (tlb rfl rfl rfl (tle rfl (by first | rfl | (rfl)) rfl tln)) (olk (by first | rfl | (rfl)) (by first | exact obOk_cell | exact obOk_arr | exact obOkW rfl | exact obOkW0 | exact obOkN | exact obOkS rfl | exact obOkNs | exact obOkS0 | trivial) oln) noS) ?_ | refine awp_seq (awp_seq (awp_seq (awp_loop' (fun n_ s => ∃ (k : Nat), ∃ (hk : n_ + k = 3), ∃ (h1 : 1 ≤ k), s = mkSt 48 [(7, .v (NRef.ref 2)), (8, .v (k : Int))] [(2, .arr (rep3 k))]) (2) ⟨1, by omega, by omega, rfl⟩ (Le.mk rfl (tlb rfl rfl rfl (tle rfl (by first | rfl | (rfl)) rfl tln)) (olk (by first | rfl | (rfl)) (by first | exact obOk_cell | exact obOk_arr | exact obOkW rfl | exact obOkW0 | exact obOkN | exact obOkS rfl | exact obOkNs | exact obOkS0 | trivial) oln) noS) ?_)))
  rintro n_ s ⟨k, hk, h1, rfl⟩
  all_goals first | refine awp_seq (awp_region (id := 8) ?_) | refine awp_seq (awp_seq (awp_region (id := 8) ?_)) | refine awp_region (id := 8) ?_ | refine awp_seq (awp_seq (awp_seq (awp_region (id := 8) ?_)))
  all_goals first | refine awpOps_cons (op_mv rfl (Conv.of rfl) rfl) ?_ | refine awpOps_cons (op_mvl rfl rfl rfl rfl) ?_ | refine awpOps_cons (op_mvo rfl rfl rfl rfl) ?_
  all_goals first | refine awpOps_cons (op_mv rfl (Conv.of rfl) rfl) ?_ | refine awpOps_cons (op_mvl rfl rfl rfl rfl) ?_ | refine awpOps_cons (op_mvo rfl rfl rfl rfl) ?_
  all_goals first | refine awpOps_cons (op_len sl61 rfl rfl) ?_ | refine awpOps_cons (op_lenA sl61 rfl rfl rfl) ?_
  all_goals refine awpOps_cons (op_lss rfl rfl rfl) ?_
  all_goals refine awpOps_nil ?_
  first | refine awp_seq (awp_cond rfl (fun h => ?_) (fun h => ?_)) | refine awp_seq (awp_seq (awp_cond rfl (fun h => ?_) (fun h => ?_))) | refine awp_cond rfl (fun h => ?_) (fun h => ?_) | refine awp_seq (awp_seq (awp_seq (awp_cond rfl (fun h => ?_) (fun h => ?_))))
  · have hcase : k = 1 ∨ k = 2 := by simp [rep3] at h; omega
    rcases hcase with rfl | rfl
    · refine awp_skip ?_
      first | refine awp_seq (awp_block ?_) | refine awp_seq (awp_seq (awp_block ?_)) | refine awp_block ?_ | refine awp_seq (awp_seq (awp_seq (awp_block ?_)))
      all_goals first | refine awp_seq (dr_start (id := 9) ?_) | refine awp_seq (awp_seq (dr_start (id := 9) ?_)) | refine dr_start (id := 9) ?_ | refine awp_seq (awp_seq (awp_seq (dr_start (id := 9) ?_)))
      all_goals first | refine dr_cons (op_mv rfl (Conv.of rfl) rfl) ?_ | refine dr_cons (op_mvl rfl rfl rfl rfl) ?_ | refine dr_cons (op_mvo rfl rfl rfl rfl) ?_
      all_goals first | refine dr_cons (op_mv rfl (Conv.of rfl) rfl) ?_ | refine dr_cons (op_mvl rfl rfl rfl rfl) ?_ | refine dr_cons (op_mvo rfl rfl rfl rfl) ?_
      all_goals first | refine dr_cons (op_mv rfl (Conv.of rfl) rfl) ?_ | refine dr_cons (op_mvl rfl rfl rfl rfl) ?_ | refine dr_cons (op_mvo rfl rfl rfl rfl) ?_
      all_goals refine dr_cons (op_slA hsl rfl rfl rfl rfl (by decide)) ?_
      all_goals first | refine dr_cons (op_mv rfl (Conv.of rfl) rfl) ?_ | refine dr_cons (op_mvl rfl rfl rfl rfl) ?_ | refine dr_cons (op_mvo rfl rfl rfl rfl) ?_
      all_goals first | refine dr_cons (op_mv rfl (Conv.of rfl) rfl) ?_ | refine dr_cons (op_mvl rfl rfl rfl rfl) ?_ | refine dr_cons (op_mvo rfl rfl rfl rfl) ?_
      all_goals refine dr_cons (op_slAh hsl rfl rfl rfl rfl (by decide)) ?_
      all_goals refine dr_cons (op_copy1 (v := 9) hsl (dst_sref rfl (fun t ht => List.mem_append_left _ ht)) (fst_sref rfl (fun t ht => List.mem_append_right _ ht) rfl (by simp) rfl) rfl (by decide) rfl rfl) ?_
      all_goals refine dr_cons (op_add rfl rfl rfl (by decide)) ?_
      all_goals first | refine dr_cons (op_as rfl (Conv.of rfl) rfl) ?_ | refine dr_cons (op_asl rfl rfl rfl rfl) ?_ | refine dr_cons (op_aso rfl rfl rfl rfl) ?_
      all_goals refine dr_nil mixed rfl ?_
      repeat first | refine nx_seq ?_ | refine nx_block ?_
      exact ⟨1, _, by omega, ⟨2, by omega, by omega, rfl⟩, Le.mk rfl (tlb rfl rfl rfl (tle rfl (by first | rfl | (rfl)) rfl tln)) (olk (by first | rfl | (rfl)) (by first | exact obOk_cell | exact obOk_arr | exact obOkW rfl | exact obOkW0 | exact obOkN | exact obOkS rfl | exact obOkNs | exact obOkS0 | trivial) oln) noS⟩
    · refine awp_skip ?_
      first | refine awp_seq (awp_block ?_) | refine awp_seq (awp_seq (awp_block ?_)) | refine awp_block ?_ | refine awp_seq (awp_seq (awp_seq (awp_block ?_)))
      all_goals first | refine awp_seq (dr_start (id := 9) ?_) | refine awp_seq (awp_seq (dr_start (id := 9) ?_)) | refine dr_start (id := 9) ?_ | refine awp_seq (awp_seq (awp_seq (dr_start (id := 9) ?_)))
      all_goals first | refine dr_cons (op_mv rfl (Conv.of rfl) rfl) ?_ | refine dr_cons (op_mvl rfl rfl rfl rfl) ?_ | refine dr_cons (op_mvo rfl rfl rfl rfl) ?_
      all_goals first | refine dr_cons (op_mv rfl (Conv.of rfl) rfl) ?_ | refine dr_cons (op_mvl rfl rfl rfl rfl) ?_ | refine dr_cons (op_mvo rfl rfl rfl rfl) ?_
      all_goals first | refine dr_cons (op_mv rfl (Conv.of rfl) rfl) ?_ | refine dr_cons (op_mvl rfl rfl rfl rfl) ?_ | refine dr_cons (op_mvo rfl rfl rfl rfl) ?_
      all_goals refine dr_cons (op_slA hsl rfl rfl rfl rfl (by decide)) ?_
      all_goals first | refine dr_cons (op_mv rfl (Conv.of rfl) rfl) ?_ | refine dr_cons (op_mvl rfl rfl rfl rfl) ?_ | refine dr_cons (op_mvo rfl rfl rfl rfl) ?_
      all_goals first | refine dr_cons (op_mv rfl (Conv.of rfl) rfl) ?_ | refine dr_cons (op_mvl rfl rfl rfl rfl) ?_ | refine dr_cons (op_mvo rfl rfl rfl rfl) ?_
      all_goals refine dr_cons (op_slAh hsl rfl rfl rfl rfl (by decide)) ?_
      all_goals refine dr_cons (op_copy1 (v := 9) hsl (dst_sref rfl (fun t ht => List.mem_append_left _ ht)) (fst_sref rfl (fun t ht => List.mem_append_right _ ht) rfl (by simp) rfl) rfl (by decide) rfl rfl) ?_
      all_goals refine dr_cons (op_add rfl rfl rfl (by decide)) ?_
      all_goals first | refine dr_cons (op_as rfl (Conv.of rfl) rfl) ?_ | refine dr_cons (op_asl rfl rfl rfl rfl) ?_ | refine dr_cons (op_aso rfl rfl rfl rfl) ?_
      all_goals refine dr_nil mixed rfl ?_
      repeat first | refine nx_seq ?_ | refine nx_block ?_
      exact ⟨0, _, by omega, ⟨3, by omega, by omega, rfl⟩, Le.mk rfl (tlb rfl rfl rfl (tle rfl (by first | rfl | (rfl)) rfl tln)) (olk (by first | rfl | (rfl)) (by first | exact obOk_cell | exact obOk_arr | exact obOkW rfl | exact obOkW0 | exact obOkN | exact obOkS rfl | exact obOkNs | exact obOkS0 | trivial) oln) noS⟩
  · refine awp_exit ?_
    repeat refine ex_seq ?_
    refine ex_block ?_
    have hk3 : k = 3 := by simp [rep3] at h; omega
    subst hk3
    all_goals first | refine awp_seq (awp_region (id := 10) ?_) | refine awp_seq (awp_seq (awp_region (id := 10) ?_)) | refine awp_region (id := 10) ?_ | refine awp_seq (awp_seq (awp_seq (awp_region (id := 10) ?_)))
    all_goals first | refine awpOps_cons (op_mv rfl (Conv.of rfl) rfl) ?_ | refine awpOps_cons (op_mvl rfl rfl rfl rfl) ?_ | refine awpOps_cons (op_mvo rfl rfl rfl rfl) ?_
    all_goals first | refine awpOps_cons (op_as rfl (Conv.of rfl) rfl) ?_ | refine awpOps_cons (op_asl rfl rfl rfl rfl) ?_ | refine awpOps_cons (op_aso rfl rfl rfl rfl) ?_
    all_goals refine awpOps_nil ?_
    refine awp_ret ?_
    repeat first | refine rt_seq ?_ | refine rt_block ?_
    refine ⟨_, _, res1 (ol := [(2, .arr (rep3 3))]) (.v rfl (Conv.of rfl)) (fun o ho => ?_) (olk rfl obOk_arr oln) noS, rfl, rfl⟩
    have : o = 2 := by simpa using (show o ∈ [2] from ho)
    subst this; rfl
theorem clipN_ct (xs : List Int) (h : xs.length ≤ 1000) : Ct Tryz.prog 166 [.v (NRef.ref 2)] (obs [(2, .arr xs)]) (fun r h => r = .v (SRef.mk 2 0 xs.length) ∧ h = obs [(2, .arr xs)]) := by
  have hsl := sl61
  refine Ct.intro Tryz.func166 rfl rfl ?_
  all_goals first | refine awp_seq (awp_region (id := 0) ?_) | refine awp_seq (awp_seq (awp_region (id := 0) ?_)) | refine awp_region (id := 0) ?_ | refine awp_seq (awp_seq (awp_seq (awp_region (id := 0) ?_)))
  all_goals refine awpOps_cons (op_as rfl (Conv.of rfl) rfl) ?_
  all_goals refine awpOps_nil ?_
  all_goals first | refine awp_seq (awp_region (id := 1) ?_) | refine awp_seq (awp_seq (awp_region (id := 1) ?_)) | refine awp_region (id := 1) ?_ | refine awp_seq (awp_seq (awp_seq (awp_region (id := 1) ?_)))
  all_goals first | refine awpOps_cons (op_mv rfl (Conv.of rfl) rfl) ?_ | refine awpOps_cons (op_mvl rfl rfl rfl rfl) ?_ | refine awpOps_cons (op_mvo rfl rfl rfl rfl) ?_
  all_goals first | refine awpOps_cons (op_mv rfl (Conv.of rfl) rfl) ?_ | refine awpOps_cons (op_mvl rfl rfl rfl rfl) ?_ | refine awpOps_cons (op_mvo rfl rfl rfl rfl) ?_
  all_goals first | refine awpOps_cons (op_len sl61 rfl rfl) ?_ | refine awpOps_cons (op_lenA sl61 rfl rfl rfl) ?_
  all_goals first | refine awpOps_cons (op_mv rfl (Conv.of rfl) rfl) ?_ | refine awpOps_cons (op_mvl rfl rfl rfl rfl) ?_ | refine awpOps_cons (op_mvo rfl rfl rfl rfl) ?_
  all_goals first | refine awpOps_cons (op_len sl61 rfl rfl) ?_ | refine awpOps_cons (op_lenA sl61 rfl rfl rfl) ?_
  all_goals refine awpOps_cons (op_slAhm hsl rfl rfl rfl rfl rfl rfl) ?_
  all_goals first | refine awpOps_cons (op_as rfl (Conv.of rfl) rfl) ?_ | refine awpOps_cons (op_asl rfl rfl rfl rfl) ?_ | refine awpOps_cons (op_aso rfl rfl rfl rfl) ?_
  all_goals refine awpOps_nil ?_
  refine awp_ret ?_
  repeat first | refine rt_seq ?_ | refine rt_block ?_
  refine finO1 [(2, .arr xs)] (.v rfl (Conv.of rfl)) (fun o ho => ?_) (olk rfl obOk_arr oln) (hS_keys rfl) rfl
  have : o = 2 := by simpa using (show o ∈ [2] from ho)
  subst this; rfl
set_option maxHeartbeats 1000000 in
theorem pay_ct (b : List Int) (p : Pay) (hb : Bk b) (hp : payOk p = true) : CtO Tryz.prog 136 [.v (SRef.mk 2 0 3), .v p] [(2, .arr b)] (.tup []) [(2, .arr (payF b p))] := by
  have hsl := sl61
  have hbd := pay_bd hp
  have hlen := hb.len
  obtain ⟨v, hv, hvd, hv0, hv27⟩ := hb.at (k := (p.frm - 1).toNat) (by omega)
  have hvl : (p.frm - 1).toNat < b.length := by omega
  obtain ⟨u, hu, hud, hu0, hu27⟩ := hb.at (k := (p.to - 1).toNat) (by omega)
  have hne : (p.frm - 1).toNat ≠ (p.to - 1).toNat := by omega
  have hu' : (b.set (p.frm - 1).toNat (v - p.sum))[(p.to - 1).toNat]? = some u := by rw [List.getElem?_set_ne hne]; exact hu
  have hud' : (b.set (p.frm - 1).toNat (v - p.sum)).getD (p.to - 1).toNat 0 = u := by rw [List.getD_eq_getElem?_getD, hu']; rfl
  refine Ct.intro Tryz.func136 rfl rfl ?_
  all_goals first | refine awp_seq (awp_region (id := 0) ?_) | refine awp_seq (awp_seq (awp_region (id := 0) ?_)) | refine awp_region (id := 0) ?_ | refine awp_seq (awp_seq (awp_seq (awp_region (id := 0) ?_)))
  all_goals first | refine awpOps_cons (op_box (o := 3) ty58 rfl (Conv.of rfl) rfl rfl) ?_ | refine awpOps_cons (op_boxm (o := 3) ty58 rfl rfl rfl rfl) ?_
  all_goals refine awpOps_nil ?_
  all_goals first | refine awp_seq (dr_start (id := 1) ?_) | refine awp_seq (awp_seq (dr_start (id := 1) ?_)) | refine dr_start (id := 1) ?_ | refine awp_seq (awp_seq (awp_seq (dr_start (id := 1) ?_)))
  all_goals first | refine dr_cons (op_mv rfl (Conv.of rfl) rfl) ?_ | refine dr_cons (op_mvl rfl rfl rfl rfl) ?_ | refine dr_cons (op_mvo rfl rfl rfl rfl) ?_
  all_goals first | refine dr_cons (op_fab f58_0 rfl rfl) ?_ | refine dr_cons (op_far f58_0 rfl rfl) ?_ | refine dr_cons (op_fae f58_0 rfl rfl) ?_
  all_goals first | refine dr_cons (op_ld ty3 rfl rfl rfl) ?_ | refine dr_cons (op_ldr ty3 rfl rfl) ?_ | refine dr_cons (op_lde ty3 rfl rfl (by assumption) rfl) ?_ | refine dr_cons (op_ldl ty3 rfl rfl rfl) ?_ | refine dr_cons (op_ldd ty3 rfl rfl rfl) ?_ | refine dr_cons (op_ldde ty3 rfl rfl (by assumption) rfl) ?_
  all_goals refine dr_cons (op_sub rfl rfl rfl (by omega)) ?_
  all_goals refine dr_cons (op_ixS hsl rfl rfl rfl (by omega)) ?_
  all_goals first | refine dr_cons (op_ld ty3 rfl rfl rfl) ?_ | refine dr_cons (op_ldr ty3 rfl rfl) ?_ | refine dr_cons (op_lde ty3 rfl rfl hv rfl) ?_ | refine dr_cons (op_ldl ty3 rfl rfl rfl) ?_ | refine dr_cons (op_ldd ty3 rfl rfl rfl) ?_ | refine dr_cons (op_ldde ty3 rfl rfl hv rfl) ?_
  all_goals first | refine dr_cons (op_fab f58_2 rfl rfl) ?_ | refine dr_cons (op_far f58_2 rfl rfl) ?_ | refine dr_cons (op_fae f58_2 rfl rfl) ?_
  all_goals first | refine dr_cons (op_ld ty3 rfl rfl rfl) ?_ | refine dr_cons (op_ldr ty3 rfl rfl) ?_ | refine dr_cons (op_lde ty3 rfl rfl (by assumption) rfl) ?_ | refine dr_cons (op_ldl ty3 rfl rfl rfl) ?_ | refine dr_cons (op_ldd ty3 rfl rfl rfl) ?_ | refine dr_cons (op_ldde ty3 rfl rfl (by assumption) rfl) ?_
  all_goals refine dr_cons (op_geq rfl rfl rfl) ?_
  all_goals refine dr_nil mixed rfl ?_
  first | refine awp_seq (awp_cond rfl (fun h => ?_) (fun h => ?_)) | refine awp_seq (awp_seq (awp_cond rfl (fun h => ?_) (fun h => ?_))) | refine awp_cond rfl (fun h => ?_) (fun h => ?_) | refine awp_seq (awp_seq (awp_seq (awp_cond rfl (fun h => ?_) (fun h => ?_))))
  · have hle : p.sum ≤ v := by simpa using h
    have hpay : payF b p = (b.set (p.frm - 1).toNat (v - p.sum)).set (p.to - 1).toNat (u + p.sum) := by
      unfold payF; rw [hvd, if_pos hle, hud']
    all_goals first | refine awp_seq (dr_start (id := 2) ?_) | refine awp_seq (awp_seq (dr_start (id := 2) ?_)) | refine dr_start (id := 2) ?_ | refine awp_seq (awp_seq (awp_seq (dr_start (id := 2) ?_)))
    all_goals first | refine dr_cons (op_mv rfl (Conv.of rfl) rfl) ?_ | refine dr_cons (op_mvl rfl rfl rfl rfl) ?_ | refine dr_cons (op_mvo rfl rfl rfl rfl) ?_
    all_goals first | refine dr_cons (op_fab f58_0 rfl rfl) ?_ | refine dr_cons (op_far f58_0 rfl rfl) ?_ | refine dr_cons (op_fae f58_0 rfl rfl) ?_
    all_goals first | refine dr_cons (op_ld ty3 rfl rfl rfl) ?_ | refine dr_cons (op_ldr ty3 rfl rfl) ?_ | refine dr_cons (op_lde ty3 rfl rfl (by assumption) rfl) ?_ | refine dr_cons (op_ldl ty3 rfl rfl rfl) ?_ | refine dr_cons (op_ldd ty3 rfl rfl rfl) ?_ | refine dr_cons (op_ldde ty3 rfl rfl (by assumption) rfl) ?_
    all_goals refine dr_cons (op_sub rfl rfl rfl (by omega)) ?_
    all_goals refine dr_cons (op_ixS hsl rfl rfl rfl (by omega)) ?_
    all_goals first | refine dr_cons (op_ld ty3 rfl rfl rfl) ?_ | refine dr_cons (op_ldr ty3 rfl rfl) ?_ | refine dr_cons (op_lde ty3 rfl rfl hv rfl) ?_ | refine dr_cons (op_ldl ty3 rfl rfl rfl) ?_ | refine dr_cons (op_ldd ty3 rfl rfl rfl) ?_ | refine dr_cons (op_ldde ty3 rfl rfl hv rfl) ?_
    all_goals first | refine dr_cons (op_fab f58_2 rfl rfl) ?_ | refine dr_cons (op_far f58_2 rfl rfl) ?_ | refine dr_cons (op_fae f58_2 rfl rfl) ?_
    all_goals first | refine dr_cons (op_ld ty3 rfl rfl rfl) ?_ | refine dr_cons (op_ldr ty3 rfl rfl) ?_ | refine dr_cons (op_lde ty3 rfl rfl (by assumption) rfl) ?_ | refine dr_cons (op_ldl ty3 rfl rfl rfl) ?_ | refine dr_cons (op_ldd ty3 rfl rfl rfl) ?_ | refine dr_cons (op_ldde ty3 rfl rfl (by assumption) rfl) ?_
    all_goals refine dr_cons (op_sub rfl rfl rfl (by omega)) ?_
    all_goals refine dr_cons (op_ixS hsl rfl rfl rfl (by omega)) ?_
    all_goals first | refine dr_cons (op_st ty3 rfl rfl (Conv.of rfl) rfl) ?_ | refine dr_cons (op_ste ty3 rfl rfl (Conv.of rfl) rfl hv) ?_ | refine dr_cons (op_stm ty3 rfl rfl rfl) ?_ | refine dr_cons (op_stme ty3 rfl rfl rfl hv) ?_
    all_goals refine dr_nil mixed rfl ?_
    all_goals first | refine awp_seq (dr_start (id := 3) ?_) | refine awp_seq (awp_seq (dr_start (id := 3) ?_)) | refine dr_start (id := 3) ?_ | refine awp_seq (awp_seq (awp_seq (dr_start (id := 3) ?_)))
    all_goals first | refine dr_cons (op_mv rfl (Conv.of rfl) rfl) ?_ | refine dr_cons (op_mvl rfl rfl rfl rfl) ?_ | refine dr_cons (op_mvo rfl rfl rfl rfl) ?_
    all_goals first | refine dr_cons (op_fab f58_1 rfl rfl) ?_ | refine dr_cons (op_far f58_1 rfl rfl) ?_ | refine dr_cons (op_fae f58_1 rfl rfl) ?_
    all_goals first | refine dr_cons (op_ld ty3 rfl rfl rfl) ?_ | refine dr_cons (op_ldr ty3 rfl rfl) ?_ | refine dr_cons (op_lde ty3 rfl rfl (by assumption) rfl) ?_ | refine dr_cons (op_ldl ty3 rfl rfl rfl) ?_ | refine dr_cons (op_ldd ty3 rfl rfl rfl) ?_ | refine dr_cons (op_ldde ty3 rfl rfl (by assumption) rfl) ?_
    all_goals refine dr_cons (op_sub rfl rfl rfl (by omega)) ?_
    all_goals refine dr_cons (op_ixS hsl rfl rfl rfl (by omega)) ?_
    all_goals first | refine dr_cons (op_ld ty3 rfl rfl rfl) ?_ | refine dr_cons (op_ldr ty3 rfl rfl) ?_ | refine dr_cons (op_lde ty3 rfl rfl hu' rfl) ?_ | refine dr_cons (op_ldl ty3 rfl rfl rfl) ?_ | refine dr_cons (op_ldd ty3 rfl rfl rfl) ?_ | refine dr_cons (op_ldde ty3 rfl rfl hu' rfl) ?_
    all_goals first | refine dr_cons (op_fab f58_2 rfl rfl) ?_ | refine dr_cons (op_far f58_2 rfl rfl) ?_ | refine dr_cons (op_fae f58_2 rfl rfl) ?_
    all_goals first | refine dr_cons (op_ld ty3 rfl rfl rfl) ?_ | refine dr_cons (op_ldr ty3 rfl rfl) ?_ | refine dr_cons (op_lde ty3 rfl rfl (by assumption) rfl) ?_ | refine dr_cons (op_ldl ty3 rfl rfl rfl) ?_ | refine dr_cons (op_ldd ty3 rfl rfl rfl) ?_ | refine dr_cons (op_ldde ty3 rfl rfl (by assumption) rfl) ?_
    all_goals refine dr_cons (op_add rfl rfl rfl (by omega)) ?_
    all_goals refine dr_cons (op_ixS hsl rfl rfl rfl (by omega)) ?_
    all_goals first | refine dr_cons (op_st ty3 rfl rfl (Conv.of rfl) rfl) ?_ | refine dr_cons (op_ste ty3 rfl rfl (Conv.of rfl) rfl hu') ?_ | refine dr_cons (op_stm ty3 rfl rfl rfl) ?_ | refine dr_cons (op_stme ty3 rfl rfl rfl hu') ?_
    all_goals refine dr_nil mixed rfl ?_
    rw [hpay]
    refine finO [(2, .arr _)] .nil rfl (fun o ho => by cases ho) ?_ (hS_keys rfl) rfl
    exact (olk rfl obOk_arr oln)
  · have hle : ¬ p.sum ≤ v := by simpa using h
    have hpay : payF b p = b := by unfold payF; rw [hvd, if_neg hle]
    rw [hpay]
    refine awp_skip ?_
    refine finO [(2, .arr b)] .nil rfl (fun o ho => by cases ho) ?_ (hS_keys rfl) rfl
    exact (olk rfl obOk_arr oln)
theorem bookNew_ct : Ct Tryz.prog 135 [] noObj (fun r h => r = .v (SRef.mk 2 0 3) ∧ h = obs [(2, .arr ([9, 9, 9] : List Int))]) := by
  have hclip : CtO Tryz.prog 166 [.v (NRef.ref 2)] [(2, .arr ([9, 9, 9] : List Int))] (.v (SRef.mk 2 0 3)) [(2, .arr ([9, 9, 9] : List Int))] := clipN_ct [9, 9, 9] (by decide)
  refine Ct.intro Tryz.func135 rfl rfl ?_
  all_goals first | refine awp_seq (awp_region (id := 0) ?_) | refine awp_seq (awp_seq (awp_region (id := 0) ?_)) | refine awp_region (id := 0) ?_ | refine awp_seq (awp_seq (awp_seq (awp_region (id := 0) ?_)))
  all_goals refine awpOps_cons (op_as rfl (Conv.of rfl) rfl) ?_
  all_goals refine awpOps_nil ?_
  all_goals first | refine awp_seq (awp_region (id := 1) ?_) | refine awp_seq (awp_seq (awp_region (id := 1) ?_)) | refine awp_region (id := 1) ?_ | refine awp_seq (awp_seq (awp_seq (awp_region (id := 1) ?_)))
  all_goals refine awpOps_cons (op_bsl sl61 z3 (.cons rfl (Conv.of rfl) (.nil _)) rfl (by decide) rfl) ?_
  refine awpOps_callO [] rfl fb167 (.cons rfl (Conv.ol) (.cons rfl (Conv.of rfl) (.nil _))) repeat_ct ols0 oks0 (argOk' rfl rfl (argOk' rfl rfl argO0)) rfl ?_
  rintro r h' ⟨rfl, rfl⟩
  refine ⟨[(2, .arr ([9, 9, 9] : List Int))], rfl, (fun o ho => by cases ho), fun o ho _ => ?_, oksk obOk_arr oks0, fun o ho => ?_, ?_⟩
  · have : o = 2 := by simpa [keys, lk0] using ho
    subst this; rfl
  · have : o = 2 := by simpa using (show o ∈ [2] from ho)
    subst this; rfl
  all_goals refine awpOps_cons (op_callO fb166 (.cons rfl (Conv.of rfl) (.nil _)) (hclip) (olsk rfl ols0) (oksk (by first | exact obOk_cell | exact obOk_arr | exact obOkW rfl | exact obOkW0 | exact obOkN | exact obOkS rfl | exact obOkNs | exact obOkS0 | trivial) oks0) (oksk (by first | exact obOk_cell | exact obOk_arr | exact obOkW rfl | exact obOkW0 | exact obOkN | exact obOkS rfl | exact obOkNs | exact obOkS0 | trivial) oks0) rfl (argOb rfl rfl rfl argO0) (fun o ho => by have : o = 2 := (by simpa using (show o ∈ [2] from ho)); subst this; rfl) rfl) ?_
  all_goals first | refine awpOps_cons (op_as rfl (Conv.of rfl) rfl) ?_ | refine awpOps_cons (op_asl rfl rfl rfl rfl) ?_ | refine awpOps_cons (op_aso rfl rfl rfl rfl) ?_
  all_goals refine awpOps_nil ?_
  refine awp_ret ?_
  repeat first | refine rt_seq ?_ | refine rt_block ?_
  refine ⟨_, _, res1 (ol := [(2, .arr ([9, 9, 9] : List Int))]) (.v rfl (Conv.of rfl)) (fun o ho => ?_) (olk rfl obOk_arr oln) noS, rfl, rfl⟩
  have : o = 2 := by simpa using (show o ∈ [2] from ho)
  subst this; rfl
theorem bookOfA_ct (c : List Itm) (h : chainOk c = true) : Ct Tryz.prog 86 [.v c] noObj (fun r h => r = .v (SRef.mk 2 0 3) ∧ h = obs [(2, .arr (bookF c))]) := by
  have hcp := chainOk_pay h
  refine Ct.intro Tryz.func86 rfl rfl ?_
  refine awp_bigL 0 rfl (fun hB => ?_)
  all_goals first | refine awp_seq (awp_region (id := 0) ?_) | refine awp_seq (awp_seq (awp_region (id := 0) ?_)) | refine awp_region (id := 0) ?_ | refine awp_seq (awp_seq (awp_seq (awp_region (id := 0) ?_)))
  all_goals refine awpOps_cons (op_as rfl (Conv.of rfl) rfl) ?_
  all_goals refine awpOps_nil ?_
  all_goals first | refine awp_seq (awp_region (id := 1) ?_) | refine awp_seq (awp_seq (awp_region (id := 1) ?_)) | refine awp_region (id := 1) ?_ | refine awp_seq (awp_seq (awp_seq (awp_region (id := 1) ?_)))
  all_goals first | refine awpOps_cons (op_mv rfl (Conv.of rfl) rfl) ?_ | refine awpOps_cons (op_mvl rfl rfl rfl rfl) ?_ | refine awpOps_cons (op_mvo rfl rfl rfl rfl) ?_
  all_goals refine awpOps_cons (op_call fb92 (.cons rfl (Conv.of rfl) (.nil _)) (chainOk_ct _) (argOk rfl rfl argOk0) rfl rfl) ?_
  all_goals refine awpOps_cons (op_not rfl rfl) ?_
  all_goals refine awpOps_nil ?_
  first | refine awp_seq (awp_cond rfl (fun h2 => absurd (not_t h2) (by rw [h]; decide)) (fun h2 => ?_)) | refine awp_seq (awp_seq (awp_cond rfl (fun h2 => absurd (not_t h2) (by rw [h]; decide)) (fun h2 => ?_))) | refine awp_cond rfl (fun h2 => absurd (not_t h2) (by rw [h]; decide)) (fun h2 => ?_) | refine awp_seq (awp_seq (awp_seq (awp_cond rfl (fun h2 => absurd (not_t h2) (by rw [h]; decide)) (fun h2 => ?_))))
  refine awp_skip ?_
  all_goals first | refine awp_seq (awp_region (id := 3) ?_) | refine awp_seq (awp_seq (awp_region (id := 3) ?_)) | refine awp_region (id := 3) ?_ | refine awp_seq (awp_seq (awp_seq (awp_region (id := 3) ?_)))
  refine awpOps_callO [] rfl fb135 (.nil _) bookNew_ct ols0 oks0 argO0 rfl ?_
  rintro r h' ⟨rfl, rfl⟩
  refine ⟨[(2, .arr ([9, 9, 9] : List Int))], rfl, (fun o ho => by cases ho), fun o ho _ => ?_, oksk obOk_arr oks0, fun o ho => ?_, ?_⟩
  · have : o = 2 := by simpa [keys, lk0] using ho
    subst this; rfl
  · have : o = 2 := by simpa using (show o ∈ [2] from ho)
    subst this; rfl
  all_goals first | refine awpOps_cons (op_as rfl (Conv.of rfl) rfl) ?_ | refine awpOps_cons (op_asl rfl rfl rfl rfl) ?_ | refine awpOps_cons (op_aso rfl rfl rfl rfl) ?_
  all_goals refine awpOps_nil ?_
  all_goals first | refine awp_seq (awp_region (id := 4) ?_) | refine awp_seq (awp_seq (awp_region (id := 4) ?_)) | refine awp_region (id := 4) ?_ | refine awp_seq (awp_seq (awp_seq (awp_region (id := 4) ?_)))
  all_goals first | refine awpOps_cons (op_mv rfl (Conv.of rfl) rfl) ?_ | refine awpOps_cons (op_mvl rfl rfl rfl rfl) ?_ | refine awpOps_cons (op_mvo rfl rfl rfl rfl) ?_
  all_goals first | refine awpOps_cons (op_len sl34 rfl rfl) ?_ | refine awpOps_cons (op_lenA sl34 rfl rfl rfl) ?_
  all_goals refine awpOps_cons (op_mv rfl (Conv.of rfl) rfl) ?_
  all_goals refine awpOps_nil ?_
  first | refine awp_seq (awp_block ?_) | refine awp_seq (awp_seq (awp_block ?_)) | refine awp_block ?_ | refine awp_seq (awp_seq (awp_seq (awp_block ?_)))
  first | refine awp_seq (awp_loop' (fun n_ s => ∃ (k : Nat), ∃ (hn : n_ + k = c.length), s = mkSt 22 [(3, .v (SRef.mk 2 0 3)), (10, .v c), (11, .v (c.length : Int)), (12, .v (k : Int))] [(2, .arr ((c.take k).foldl (fun (b : List Int) (x : Itm) => payF b x.pay) [9, 9, 9]))]) (c.length) ⟨0, by omega, rfl⟩ (Le.mk rfl (tlb rfl rfl rfl (tle rfl (rfl) rfl (tle rfl (rfl) rfl (tle rfl (rfl) rfl tln)))) (olk (by first | rfl | (rw [foldl_at (fun (b : List Int) (x : Itm) => payF b x.pay) _ hx]; rfl)) (by first | exact obOk_cell | exact obOk_arr | exact obOkW rfl | exact obOkW0 | exact obOkN | exact obOkS rfl | exact obOkNs | exact obOkS0 | trivial) oln) noS) ?_) | refine awp_seq (awp_seq (awp_loop' (fun n_ s => ∃ (k : Nat), ∃ (hn : n_ + k = c.length), s = mkSt 22 [(3, .v (SRef.mk 2 0 3)), (10, .v c), (11, .v (c.length : Int)), (12, .v (k : Int))] [(2, .arr ((c.take k).foldl (fun (b : List Int) (x : Itm) => payF b x.pay) [9, 9, 9]))]) (c.length) ⟨0, by omega, rfl⟩ (Le.mk rfl (tlb rfl rfl rfl (tle rfl (rfl) rfl (tle rfl (rfl) rfl (tle rfl (rfl) rfl tln)))) (olk (by first | rfl | (rw [foldl_at (fun (b : List Int) (x : Itm) => payF b x.pay) _ hx]; rfl)) (by first | exact obOk_cell | exact obOk_arr | exact obOkW rfl | exact obOkW0 | exact obOkN | exact obOkS rfl | exact obOkNs | exact obOkS0 | trivial) oln) noS) ?_)) | refine awp_loop' (fun n_ s => ∃ (k : Nat), ∃ (hn : n_ + k = c.length), s = mkSt 22 [(3, .v (SRef.mk 2 0 3)), (10, .v c), (11, .v (c.length : Int)), (12, .v (k : Int))] [(2, .arr ((c.take k).foldl (fun (b : List Int) (x : Itm) => payF b x.pay) [9, 9, 9]))]) (c.length) ⟨0, by omega, rfl⟩ (Le.mk rfl (tlb rfl rfl rfl (tle rfl (rfl) rfl (tle rfl (rfl) rfl (tle rfl (rfl) rfl tln)))) (olk (by first | rfl | (rw [foldl_at (fun (b : List Int) (x : Itm) => payF b x.pay) _ hx]; rfl)) (by first | exact obOk_cell | exact obOk_arr | exact obOkW rfl | exact obOkW0 | exact obOkN | exact obOkS rfl | exact obOkNs | exact obOkS0 | trivial) oln) noS) ?_ | refine awp_seq (awp_seq (awp_seq (awp_loop' (fun n_ s => ∃ (k : Nat), ∃ (hn : n_ + k = c.length), s = mkSt 22 [(3, .v (SRef.mk 2 0 3)), (10, .v c), (11, .v (c.length : Int)), (12, .v (k : Int))] [(2, .arr ((c.take k).foldl (fun (b : List Int) (x : Itm) => payF b x.pay) [9, 9, 9]))]) (c.length) ⟨0, by omega, rfl⟩ (Le.mk rfl (tlb rfl rfl rfl (tle rfl (rfl) rfl (tle rfl (rfl) rfl (tle rfl (rfl) rfl tln)))) (olk (by first | rfl | (rw [foldl_at (fun (b : List Int) (x : Itm) => payF b x.pay) _ hx]; rfl)) (by first | exact obOk_cell | exact obOk_arr | exact obOkW rfl | exact obOkW0 | exact obOkN | exact obOkS rfl | exact obOkNs | exact obOkS0 | trivial) oln) noS) ?_)))
  rintro n_ s ⟨k, hn, rfl⟩
  have hbk := fold_bk (c.take k) Bk.new (fun x hx => hcp x (List.mem_of_mem_take hx))
  all_goals first | refine awp_seq (awp_region (id := 5) ?_) | refine awp_seq (awp_seq (awp_region (id := 5) ?_)) | refine awp_region (id := 5) ?_ | refine awp_seq (awp_seq (awp_seq (awp_region (id := 5) ?_)))
  all_goals refine awpOps_cons (op_lss rfl rfl rfl) ?_
  all_goals refine awpOps_nil ?_
  first | refine awp_seq (awp_cond rfl (fun h3 => ?_) (fun h3 => ?_)) | refine awp_seq (awp_seq (awp_cond rfl (fun h3 => ?_) (fun h3 => ?_))) | refine awp_cond rfl (fun h3 => ?_) (fun h3 => ?_) | refine awp_seq (awp_seq (awp_seq (awp_cond rfl (fun h3 => ?_) (fun h3 => ?_))))
  · have hlt : k < c.length := by simpa using h3
    have hx : c[k]? = some c[k] := List.getElem?_eq_getElem hlt
    have hpk := hcp _ (List.getElem_mem hlt)
    refine awp_skip ?_
    first | refine awp_seq (awp_block ?_) | refine awp_seq (awp_seq (awp_block ?_)) | refine awp_block ?_ | refine awp_seq (awp_seq (awp_seq (awp_block ?_)))
    all_goals first | refine awp_seq (awp_region (id := 6) ?_) | refine awp_seq (awp_seq (awp_region (id := 6) ?_)) | refine awp_region (id := 6) ?_ | refine awp_seq (awp_seq (awp_seq (awp_region (id := 6) ?_)))
    all_goals first | refine awpOps_cons (op_ix sl34 rfl rfl rfl (by omega) hx) ?_ | refine awpOps_cons (op_ixA sl34 rfl rfl rfl rfl (by omega)) ?_
    all_goals first | refine awpOps_cons (op_ld ty60 rfl rfl rfl) ?_ | refine awpOps_cons (op_ldr ty60 rfl rfl) ?_ | refine awpOps_cons (op_lde ty60 rfl rfl (by assumption) rfl) ?_ | refine awpOps_cons (op_ldl ty60 rfl rfl rfl) ?_ | refine awpOps_cons (op_ldd ty60 rfl rfl rfl) ?_ | refine awpOps_cons (op_ldde ty60 rfl rfl (by assumption) rfl) ?_
    all_goals refine awpOps_cons (op_alloc (o := 6) z60 rfl rfl) ?_
    all_goals first | refine awpOps_cons (op_st ty60 rfl rfl (Conv.of rfl) rfl) ?_ | refine awpOps_cons (op_ste ty60 rfl rfl (Conv.of rfl) rfl (by assumption)) ?_ | refine awpOps_cons (op_stm ty60 rfl rfl rfl) ?_ | refine awpOps_cons (op_stme ty60 rfl rfl rfl (by assumption)) ?_
    all_goals refine awpOps_nil ?_
    all_goals first | refine awp_seq (awp_region (id := 7) ?_) | refine awp_seq (awp_seq (awp_region (id := 7) ?_)) | refine awp_region (id := 7) ?_ | refine awp_seq (awp_seq (awp_seq (awp_region (id := 7) ?_)))
    all_goals first | refine awpOps_cons (op_mv rfl (Conv.of rfl) rfl) ?_ | refine awpOps_cons (op_mvl rfl rfl rfl rfl) ?_ | refine awpOps_cons (op_mvo rfl rfl rfl rfl) ?_
    all_goals first | refine awpOps_cons (op_fab f60_1 rfl rfl) ?_ | refine awpOps_cons (op_far f60_1 rfl rfl) ?_ | refine awpOps_cons (op_fae f60_1 rfl rfl) ?_
    all_goals first | refine awpOps_cons (op_ld ty58 rfl rfl rfl) ?_ | refine awpOps_cons (op_ldr ty58 rfl rfl) ?_ | refine awpOps_cons (op_lde ty58 rfl rfl (by assumption) rfl) ?_ | refine awpOps_cons (op_ldl ty58 rfl rfl rfl) ?_ | refine awpOps_cons (op_ldd ty58 rfl rfl rfl) ?_ | refine awpOps_cons (op_ldde ty58 rfl rfl (by assumption) rfl) ?_
    all_goals refine awpOps_cons (op_callO fb136 (.cons rfl (Conv.of rfl) (.cons rfl (Conv.of rfl) (.nil _))) (pay_ct _ c[k].pay hbk hpk) (olsk rfl ols0) (oksk (by first | exact obOk_cell | exact obOk_arr | exact obOkW rfl | exact obOkW0 | exact obOkN | exact obOkS rfl | exact obOkNs | exact obOkS0 | trivial) oks0) (oksk (by first | exact obOk_cell | exact obOk_arr | exact obOkW rfl | exact obOkW0 | exact obOkN | exact obOkS rfl | exact obOkNs | exact obOkS0 | trivial) oks0) rfl (argOb rfl rfl rfl (argOk' rfl rfl argO0)) (fun o ho => by cases ho) rfl) ?_
    all_goals refine awpOps_nil ?_
    all_goals first | refine awp_seq (awp_region (id := 8) ?_) | refine awp_seq (awp_seq (awp_region (id := 8) ?_)) | refine awp_region (id := 8) ?_ | refine awp_seq (awp_seq (awp_seq (awp_region (id := 8) ?_)))
    all_goals refine awpOps_cons (op_add rfl rfl rfl (by omega)) ?_
    all_goals first | refine awpOps_cons (op_mv rfl (Conv.of rfl) rfl) ?_ | refine awpOps_cons (op_mvl rfl rfl rfl rfl) ?_ | refine awpOps_cons (op_mvo rfl rfl rfl rfl) ?_
    all_goals refine awpOps_nil ?_
    repeat first | refine nx_seq ?_ | refine nx_block ?_
    exact ⟨n_ - 1, _, by omega, ⟨k + 1, by omega, rfl⟩, Le.mk rfl (tlb rfl rfl rfl (tle rfl (rfl) rfl (tle rfl (rfl) rfl (tle rfl (rfl) rfl tln)))) (olk (by first | rfl | (rw [foldl_at (fun (b : List Int) (x : Itm) => payF b x.pay) _ hx]; rfl)) (by first | exact obOk_cell | exact obOk_arr | exact obOkW rfl | exact obOkW0 | exact obOkN | exact obOkS rfl | exact obOkNs | exact obOkS0 | trivial) oln) noS⟩
  · refine awp_exit ?_
    repeat refine ex_seq ?_
    refine ex_block ?_
    have hk : c.length ≤ k := by simpa using h3
    have he : (c.take k).foldl (fun (b : List Int) (x : Itm) => payF b x.pay) [9, 9, 9] = bookF c := by rw [take_end hk]; rfl
    rw [he]
    all_goals first | refine awp_seq (awp_region (id := 9) ?_) | refine awp_seq (awp_seq (awp_region (id := 9) ?_)) | refine awp_region (id := 9) ?_ | refine awp_seq (awp_seq (awp_seq (awp_region (id := 9) ?_)))
    all_goals first | refine awpOps_cons (op_mv rfl (Conv.of rfl) rfl) ?_ | refine awpOps_cons (op_mvl rfl rfl rfl rfl) ?_ | refine awpOps_cons (op_mvo rfl rfl rfl rfl) ?_
    all_goals first | refine awpOps_cons (op_as rfl (Conv.of rfl) rfl) ?_ | refine awpOps_cons (op_asl rfl rfl rfl rfl) ?_ | refine awpOps_cons (op_aso rfl rfl rfl rfl) ?_
    all_goals refine awpOps_nil ?_
    refine awp_ret ?_
    repeat first | refine rt_seq ?_ | refine rt_block ?_
    refine ⟨_, _, res1 (ol := [(2, .arr (bookF c))]) (.v rfl (Conv.of rfl)) (fun o ho => ?_) (olk rfl obOk_arr oln) noS, rfl, rfl⟩
    have : o = 2 := by simpa using (show o ∈ [2] from ho)
    subst this; rfl
theorem bookOf_ct (c : List Itm) (h : chainOk c = true) : CtP Tryz.prog 86 [.v c] (.v (bookF c)) := by
  have hb : Bk (bookF c) := fold_bk c Bk.new (chainOk_pay h)
  have hl := hb.len
  have k := bookOfA_ct c h
  rw [show (3 : Nat) = (bookF c).length by rw [hl]] at k
  exact Ct.frz k (frz_sref (by rw [hl]; decide))
theorem sameI_drop {a b : List Int} {k : Nat} {x y : Int} (hx : a[k]? = some x) (hy : b[k]? = some y) : decide (a.drop k = b.drop k) = (decide (x = y) && decide (a.drop (k + 1) = b.drop (k + 1))) := by
  rw [drop_at hx, drop_at hy, Bool.eq_iff_iff]
  simp
theorem lwInts_ct (a b : List Int) : CtP Tryz.prog 43 [.v a, .v b] (.v (decide (a = b))) := by
  refine Ct.intro Tryz.func43 rfl rfl ?_
  refine awp_bigL 0 rfl (fun hB => ?_)
  all_goals first | refine awp_seq (awp_region (id := 0) ?_) | refine awp_seq (awp_seq (awp_region (id := 0) ?_)) | refine awp_region (id := 0) ?_ | refine awp_seq (awp_seq (awp_seq (awp_region (id := 0) ?_)))
  all_goals refine awpOps_cons (op_as rfl (Conv.of rfl) rfl) ?_
  all_goals refine awpOps_nil ?_
  all_goals first | refine awp_seq (awp_region (id := 1) ?_) | refine awp_seq (awp_seq (awp_region (id := 1) ?_)) | refine awp_region (id := 1) ?_ | refine awp_seq (awp_seq (awp_seq (awp_region (id := 1) ?_)))
  all_goals first | refine awpOps_cons (op_mv rfl (Conv.of rfl) rfl) ?_ | refine awpOps_cons (op_mvl rfl rfl rfl rfl) ?_ | refine awpOps_cons (op_mvo rfl rfl rfl rfl) ?_
  all_goals first | refine awpOps_cons (op_len sl61 rfl rfl) ?_ | refine awpOps_cons (op_lenA sl61 rfl rfl rfl) ?_
  all_goals first | refine awpOps_cons (op_mv rfl (Conv.of rfl) rfl) ?_ | refine awpOps_cons (op_mvl rfl rfl rfl rfl) ?_ | refine awpOps_cons (op_mvo rfl rfl rfl rfl) ?_
  all_goals first | refine awpOps_cons (op_len sl61 rfl rfl) ?_ | refine awpOps_cons (op_lenA sl61 rfl rfl rfl) ?_
  all_goals refine awpOps_cons (op_neq rfl rfl rfl) ?_
  all_goals refine awpOps_nil ?_
  first | refine awp_seq (awp_cond rfl (fun h => ?_) (fun h => ?_)) | refine awp_seq (awp_seq (awp_cond rfl (fun h => ?_) (fun h => ?_))) | refine awp_cond rfl (fun h => ?_) (fun h => ?_) | refine awp_seq (awp_seq (awp_seq (awp_cond rfl (fun h => ?_) (fun h => ?_))))
  · all_goals first | refine awp_seq (awp_region (id := 2) ?_) | refine awp_seq (awp_seq (awp_region (id := 2) ?_)) | refine awp_region (id := 2) ?_ | refine awp_seq (awp_seq (awp_seq (awp_region (id := 2) ?_)))
    all_goals refine awpOps_cons (op_as rfl (Conv.of rfl) rfl) ?_
    all_goals refine awpOps_nil ?_
    refine awp_ret ?_
    repeat first | refine rt_seq ?_ | refine rt_block ?_
    refine finP (.v rfl (Conv.of rfl)) rfl ?_
    show AV.v false = _
    have : a ≠ b := by intro e; subst e; simp at h
    simp [this]
  · refine awp_skip ?_
    have hlen : a.length = b.length := by simp at h; omega
    all_goals first | refine awp_seq (awp_region (id := 3) ?_) | refine awp_seq (awp_seq (awp_region (id := 3) ?_)) | refine awp_region (id := 3) ?_ | refine awp_seq (awp_seq (awp_seq (awp_region (id := 3) ?_)))
    all_goals refine awpOps_cons (op_as rfl (Conv.of rfl) rfl) ?_
    all_goals refine awpOps_nil ?_
    first | refine awp_seq (awp_block ?_) | refine awp_seq (awp_seq (awp_block ?_)) | refine awp_block ?_ | refine awp_seq (awp_seq (awp_seq (awp_block ?_)))
    first | refine awp_seq (awp_loop' (fun n s => ∃ (k : Nat), ∃ (hn : n + k = a.length), ∃ (hall : decide (a = b) = decide (a.drop k = b.drop k)), s = mkSt 26 [(0, .v a), (1, .v b), (5, .v (k : Int))] []) (a.length) ⟨0, by omega, rfl, rfl⟩ (Le.mk rfl (tle rfl (rfl) rfl (tle rfl (rfl) rfl (tle rfl (rfl) rfl tln))) oln noS) ?_) | refine awp_seq (awp_seq (awp_loop' (fun n s => ∃ (k : Nat), ∃ (hn : n + k = a.length), ∃ (hall : decide (a = b) = decide (a.drop k = b.drop k)), s = mkSt 26 [(0, .v a), (1, .v b), (5, .v (k : Int))] []) (a.length) ⟨0, by omega, rfl, rfl⟩ (Le.mk rfl (tle rfl (rfl) rfl (tle rfl (rfl) rfl (tle rfl (rfl) rfl tln))) oln noS) ?_)) | refine awp_loop' (fun n s => ∃ (k : Nat), ∃ (hn : n + k = a.length), ∃ (hall : decide (a = b) = decide (a.drop k = b.drop k)), s = mkSt 26 [(0, .v a), (1, .v b), (5, .v (k : Int))] []) (a.length) ⟨0, by omega, rfl, rfl⟩ (Le.mk rfl (tle rfl (rfl) rfl (tle rfl (rfl) rfl (tle rfl (rfl) rfl tln))) oln noS) ?_ | refine awp_seq (awp_seq (awp_seq (awp_loop' (fun n s => ∃ (k : Nat), ∃ (hn : n + k = a.length), ∃ (hall : decide (a = b) = decide (a.drop k = b.drop k)), s = mkSt 26 [(0, .v a), (1, .v b), (5, .v (k : Int))] []) (a.length) ⟨0, by omega, rfl, rfl⟩ (Le.mk rfl (tle rfl (rfl) rfl (tle rfl (rfl) rfl (tle rfl (rfl) rfl tln))) oln noS) ?_)))
    rintro n s ⟨k, hn, hall, rfl⟩
    all_goals first | refine awp_seq (awp_region (id := 4) ?_) | refine awp_seq (awp_seq (awp_region (id := 4) ?_)) | refine awp_region (id := 4) ?_ | refine awp_seq (awp_seq (awp_seq (awp_region (id := 4) ?_)))
    all_goals first | refine awpOps_cons (op_mv rfl (Conv.of rfl) rfl) ?_ | refine awpOps_cons (op_mvl rfl rfl rfl rfl) ?_ | refine awpOps_cons (op_mvo rfl rfl rfl rfl) ?_
    all_goals first | refine awpOps_cons (op_mv rfl (Conv.of rfl) rfl) ?_ | refine awpOps_cons (op_mvl rfl rfl rfl rfl) ?_ | refine awpOps_cons (op_mvo rfl rfl rfl rfl) ?_
    all_goals first | refine awpOps_cons (op_len sl61 rfl rfl) ?_ | refine awpOps_cons (op_lenA sl61 rfl rfl rfl) ?_
    all_goals refine awpOps_cons (op_lss rfl rfl rfl) ?_
    all_goals refine awpOps_nil ?_
    first | refine awp_seq (awp_cond rfl (fun h => ?_) (fun h => ?_)) | refine awp_seq (awp_seq (awp_cond rfl (fun h => ?_) (fun h => ?_))) | refine awp_cond rfl (fun h => ?_) (fun h => ?_) | refine awp_seq (awp_seq (awp_seq (awp_cond rfl (fun h => ?_) (fun h => ?_))))
    · have hlt : k < a.length := by simpa using h
      have hx : a[k]? = some a[k] := List.getElem?_eq_getElem hlt
      have hy : b[k]? = some (b[k]'(by omega)) := List.getElem?_eq_getElem (by omega)
      have hs := sameI_drop hx hy
      refine awp_skip ?_
      first | refine awp_seq (awp_block ?_) | refine awp_seq (awp_seq (awp_block ?_)) | refine awp_block ?_ | refine awp_seq (awp_seq (awp_seq (awp_block ?_)))
      all_goals first | refine awp_seq (dr_start (id := 6) ?_) | refine awp_seq (awp_seq (dr_start (id := 6) ?_)) | refine dr_start (id := 6) ?_ | refine awp_seq (awp_seq (awp_seq (dr_start (id := 6) ?_)))
      all_goals first | refine dr_cons (op_mv rfl (Conv.of rfl) rfl) ?_ | refine dr_cons (op_mvl rfl rfl rfl rfl) ?_ | refine dr_cons (op_mvo rfl rfl rfl rfl) ?_
      all_goals first | refine dr_cons (op_mv rfl (Conv.of rfl) rfl) ?_ | refine dr_cons (op_mvl rfl rfl rfl rfl) ?_ | refine dr_cons (op_mvo rfl rfl rfl rfl) ?_
      all_goals first | refine dr_cons (op_ix sl61 rfl rfl rfl (by omega) hx) ?_ | refine dr_cons (op_ixA sl61 rfl rfl rfl rfl (by omega)) ?_
      all_goals first | refine dr_cons (op_ld ty3 rfl rfl rfl) ?_ | refine dr_cons (op_ldr ty3 rfl rfl) ?_ | refine dr_cons (op_lde ty3 rfl rfl (by assumption) rfl) ?_ | refine dr_cons (op_ldl ty3 rfl rfl rfl) ?_ | refine dr_cons (op_ldd ty3 rfl rfl rfl) ?_ | refine dr_cons (op_ldde ty3 rfl rfl (by assumption) rfl) ?_
      all_goals first | refine dr_cons (op_mv rfl (Conv.of rfl) rfl) ?_ | refine dr_cons (op_mvl rfl rfl rfl rfl) ?_ | refine dr_cons (op_mvo rfl rfl rfl rfl) ?_
      all_goals first | refine dr_cons (op_mv rfl (Conv.of rfl) rfl) ?_ | refine dr_cons (op_mvl rfl rfl rfl rfl) ?_ | refine dr_cons (op_mvo rfl rfl rfl rfl) ?_
      all_goals first | refine dr_cons (op_ix sl61 rfl rfl rfl (by omega) hy) ?_ | refine dr_cons (op_ixA sl61 rfl rfl rfl rfl (by omega)) ?_
      all_goals first | refine dr_cons (op_ld ty3 rfl rfl rfl) ?_ | refine dr_cons (op_ldr ty3 rfl rfl) ?_ | refine dr_cons (op_lde ty3 rfl rfl (by assumption) rfl) ?_ | refine dr_cons (op_ldl ty3 rfl rfl rfl) ?_ | refine dr_cons (op_ldd ty3 rfl rfl rfl) ?_ | refine dr_cons (op_ldde ty3 rfl rfl (by assumption) rfl) ?_
      all_goals refine dr_cons (op_neq rfl rfl rfl) ?_
      all_goals refine dr_nil mixed rfl ?_
      first | refine awp_seq (awp_cond rfl (fun h => ?_) (fun h => ?_)) | refine awp_seq (awp_seq (awp_cond rfl (fun h => ?_) (fun h => ?_))) | refine awp_cond rfl (fun h => ?_) (fun h => ?_) | refine awp_seq (awp_seq (awp_seq (awp_cond rfl (fun h => ?_) (fun h => ?_))))
      · all_goals first | refine awp_seq (awp_region (id := 7) ?_) | refine awp_seq (awp_seq (awp_region (id := 7) ?_)) | refine awp_region (id := 7) ?_ | refine awp_seq (awp_seq (awp_seq (awp_region (id := 7) ?_)))
        all_goals refine awpOps_cons (op_as rfl (Conv.of rfl) rfl) ?_
        all_goals refine awpOps_nil ?_
        refine awp_ret ?_
        repeat first | refine rt_seq ?_ | refine rt_block ?_
        refine finP (.v rfl (Conv.of rfl)) rfl ?_
        show AV.v false = _
        have h' : decide (a[k] = b[k]) = false := by simpa using h
        rw [hall, hs, h', Bool.false_and]
      · refine awp_skip ?_
        all_goals first | refine awp_seq (awp_region (id := 5) ?_) | refine awp_seq (awp_seq (awp_region (id := 5) ?_)) | refine awp_region (id := 5) ?_ | refine awp_seq (awp_seq (awp_seq (awp_region (id := 5) ?_)))
        all_goals first | refine awpOps_cons (op_mv rfl (Conv.of rfl) rfl) ?_ | refine awpOps_cons (op_mvl rfl rfl rfl rfl) ?_ | refine awpOps_cons (op_mvo rfl rfl rfl rfl) ?_
        all_goals refine awpOps_cons (op_add rfl rfl rfl (by omega)) ?_
        all_goals first | refine awpOps_cons (op_as rfl (Conv.of rfl) rfl) ?_ | refine awpOps_cons (op_asl rfl rfl rfl rfl) ?_ | refine awpOps_cons (op_aso rfl rfl rfl rfl) ?_
        all_goals refine awpOps_nil ?_
        have h' : decide (a[k] = b[k]) = true := by simpa using h
        repeat first | refine nx_seq ?_ | refine nx_block ?_
        exact ⟨n - 1, _, by omega, ⟨k + 1, by omega, by rw [hall, hs, h', Bool.true_and], rfl⟩, Le.mk rfl (tle rfl (rfl) rfl (tle rfl (rfl) rfl (tle rfl (rfl) rfl tln))) oln noS⟩
    · refine awp_exit ?_
      repeat refine ex_seq ?_
      refine ex_block ?_
      have hk : a.length ≤ k := by simpa using h
      all_goals first | refine awp_seq (awp_region (id := 8) ?_) | refine awp_seq (awp_seq (awp_region (id := 8) ?_)) | refine awp_region (id := 8) ?_ | refine awp_seq (awp_seq (awp_seq (awp_region (id := 8) ?_)))
      all_goals refine awpOps_cons (op_as rfl (Conv.of rfl) rfl) ?_
      all_goals refine awpOps_nil ?_
      refine awp_ret ?_
      repeat first | refine rt_seq ?_ | refine rt_block ?_
      refine finP (.v rfl (Conv.of rfl)) rfl ?_
      show AV.v true = _
      rw [hall, drop_end hk, drop_end (by omega : b.length ≤ k)]
      simp
theorem bookNewP_ct : CtP Tryz.prog 135 [] (.v ([9, 9, 9] : List Int)) := Ct.frz bookNew_ct (frz_sref (xs := [9, 9, 9]) (by decide))
end Go.Proofs.YtmdhfalfppkpeaaGreat

/- The books of nodes. -/
set_option linter.unusedVariables false
set_option linter.unusedSimpArgs false
namespace Go.Proofs.YtmdhfalfppkpeaaGreat
open Go Go.Wt
theorem nodeBook_ct (n : Nod) (h : nodeOk n = true) : CtP Tryz.prog 32 [.v n] (.v (bookF (finalOf n.seen))) := by
  have hs := nodeOk_seen h
  have hg := gdOf hs.1 (by omega)
  have hfc := final_chainOk (votesOk_mem hs.1)
  refine Ct.intro Tryz.func32 rfl rfl ?_
  all_goals first | refine awp_seq (awp_region (id := 0) ?_) | refine awp_seq (awp_seq (awp_region (id := 0) ?_)) | refine awp_region (id := 0) ?_ | refine awp_seq (awp_seq (awp_seq (awp_region (id := 0) ?_)))
  all_goals first | refine awpOps_cons (op_box (o := 0) ty41 rfl (Conv.of rfl) rfl rfl) ?_ | refine awpOps_cons (op_boxm (o := 0) ty41 rfl rfl rfl rfl) ?_
  all_goals refine awpOps_cons (op_as rfl (Conv.of rfl) rfl) ?_
  all_goals refine awpOps_nil ?_
  all_goals first | refine awp_seq (awp_region (id := 1) ?_) | refine awp_seq (awp_seq (awp_region (id := 1) ?_)) | refine awp_region (id := 1) ?_ | refine awp_seq (awp_seq (awp_seq (awp_region (id := 1) ?_)))
  all_goals first | refine awpOps_cons (op_ld ty41 rfl rfl rfl) ?_ | refine awpOps_cons (op_ldr ty41 rfl rfl) ?_ | refine awpOps_cons (op_lde ty41 rfl rfl (by assumption) rfl) ?_ | refine awpOps_cons (op_ldl ty41 rfl rfl rfl) ?_ | refine awpOps_cons (op_ldd ty41 rfl rfl rfl) ?_ | refine awpOps_cons (op_ldde ty41 rfl rfl (by assumption) rfl) ?_
  all_goals refine awpOps_cons (op_call fb84 (.cons rfl (Conv.of rfl) (.nil _)) (nodeOk_ct _) (argOk rfl rfl argOk0) rfl rfl) ?_
  all_goals refine awpOps_cons (op_not rfl rfl) ?_
  all_goals refine awpOps_nil ?_
  first | refine awp_seq (awp_cond rfl (fun h2 => absurd (not_t h2) (by rw [h]; decide)) (fun h2 => ?_)) | refine awp_seq (awp_seq (awp_cond rfl (fun h2 => absurd (not_t h2) (by rw [h]; decide)) (fun h2 => ?_))) | refine awp_cond rfl (fun h2 => absurd (not_t h2) (by rw [h]; decide)) (fun h2 => ?_) | refine awp_seq (awp_seq (awp_seq (awp_cond rfl (fun h2 => absurd (not_t h2) (by rw [h]; decide)) (fun h2 => ?_))))
  refine awp_skip ?_
  all_goals first | refine awp_seq (awp_region (id := 3) ?_) | refine awp_seq (awp_seq (awp_region (id := 3) ?_)) | refine awp_region (id := 3) ?_ | refine awp_seq (awp_seq (awp_seq (awp_region (id := 3) ?_)))
  all_goals first | refine awpOps_cons (op_fab f41_3 rfl rfl) ?_ | refine awpOps_cons (op_far f41_3 rfl rfl) ?_ | refine awpOps_cons (op_fae f41_3 rfl rfl) ?_
  all_goals first | refine awpOps_cons (op_ld ty27 rfl rfl rfl) ?_ | refine awpOps_cons (op_ldr ty27 rfl rfl) ?_ | refine awpOps_cons (op_lde ty27 rfl rfl (by assumption) rfl) ?_ | refine awpOps_cons (op_ldl ty27 rfl rfl rfl) ?_ | refine awpOps_cons (op_ldd ty27 rfl rfl rfl) ?_ | refine awpOps_cons (op_ldde ty27 rfl rfl (by assumption) rfl) ?_
  all_goals refine awpOps_cons (op_call fb66 (.cons rfl (Conv.of rfl) (.nil _)) (vfinal_ct _ hg.l hg.v hg.e) (argOk rfl rfl argOk0) rfl rfl) ?_
  all_goals refine awpOps_cons (op_call fb86 (.cons rfl (Conv.cl) (.nil _)) (bookOf_ct _ hfc) (argOk rfl rfl argOk0) rfl rfl) ?_
  all_goals first | refine awpOps_cons (op_as rfl (Conv.of rfl) rfl) ?_ | refine awpOps_cons (op_asl rfl rfl rfl rfl) ?_ | refine awpOps_cons (op_aso rfl rfl rfl rfl) ?_
  all_goals refine awpOps_nil ?_
  refine awp_ret ?_
  repeat first | refine rt_seq ?_ | refine rt_block ?_
  exact finP (.v rfl (Conv.of rfl)) rfl rfl
end Go.Proofs.YtmdhfalfppkpeaaGreat

/- Without one who lies all but the last is final. -/
set_option linter.unusedVariables false
set_option linter.unusedSimpArgs false
namespace Go.Wt
def honP (i : Nat) : Pay := ⟨1, 2 + ((i : Int)).tmod 2, 1⟩
def honPays (n : Nat) : List Pay := (List.range n).map honP
def honX (n : Nat) : Wrld := (honPays n).foldl calmF (newW 0)
def honB (n : Nat) : Bool := (honX n).nodes.all fun a => decide (finalOf a.seen = (List.range (n - 1)).map fun (i : Nat) => Itm.mk ((i : Int) + 1) (honP i))
theorem hon_all {n : Nat} (h : 3 ≤ n ∧ n ≤ 6) : honB n = true := by
  have : n = 3 ∨ n = 4 ∨ n = 5 ∨ n = 6 := by omega
  rcases this with rfl | rfl | rfl | rfl <;> decide +kernel
theorem hon_final {n : Nat} (h : 3 ≤ n ∧ n ≤ 6) {a : Nod} (ha : a ∈ (honX n).nodes) : finalOf a.seen = (List.range (n - 1)).map fun (i : Nat) => Itm.mk ((i : Int) + 1) (honP i) := by
  have := hon_all h
  simp only [honB, List.all_eq_true, decide_eq_true_eq] at this
  exact this a ha
end Go.Wt
