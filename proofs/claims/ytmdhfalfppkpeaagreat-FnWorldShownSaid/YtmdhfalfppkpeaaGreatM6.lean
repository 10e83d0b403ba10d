/- Part 6 of the proof: texts one behind the other. -/
import Derived.Test.YtmdhfalfppkpeaaGreatM5
/- Certificates of nodes; what a stranger is shown. -/
set_option linter.unusedVariables false
set_option linter.unusedSimpArgs false
namespace Go.Proofs.YtmdhfalfppkpeaaGreat
open Go Go.Wt
theorem clipII_ct (a : List (List Int)) : CtP Tryz.prog 65 [.v a] (.v (CList.mk a)) := by
  refine Ct.intro Tryz.func65 rfl rfl ?_
  all_goals first | refine awp_seq (awp_region (id := 0) ?_) | refine awp_seq (awp_seq (awp_region (id := 0) ?_)) | refine awp_region (id := 0) ?_ | refine awp_seq (awp_seq (awp_seq (awp_region (id := 0) ?_)))
  all_goals refine awpOps_cons (op_as rfl (Conv.of rfl) rfl) ?_
  all_goals refine awpOps_nil ?_
  all_goals first | refine awp_seq (awp_region (id := 1) ?_) | refine awp_seq (awp_seq (awp_region (id := 1) ?_)) | refine awp_region (id := 1) ?_ | refine awp_seq (awp_seq (awp_seq (awp_region (id := 1) ?_)))
  all_goals first | refine awpOps_cons (op_mv rfl (Conv.of rfl) rfl) ?_ | refine awpOps_cons (op_mvl rfl rfl rfl rfl) ?_ | refine awpOps_cons (op_mvo rfl rfl rfl rfl) ?_
  all_goals first | refine awpOps_cons (op_mv rfl (Conv.of rfl) rfl) ?_ | refine awpOps_cons (op_mvl rfl rfl rfl rfl) ?_ | refine awpOps_cons (op_mvo rfl rfl rfl rfl) ?_
  all_goals first | refine awpOps_cons (op_len sl35 rfl rfl) ?_ | refine awpOps_cons (op_lenA sl35 rfl rfl rfl) ?_
  all_goals first | refine awpOps_cons (op_mv rfl (Conv.of rfl) rfl) ?_ | refine awpOps_cons (op_mvl rfl rfl rfl rfl) ?_ | refine awpOps_cons (op_mvo rfl rfl rfl rfl) ?_
  all_goals first | refine awpOps_cons (op_len sl35 rfl rfl) ?_ | refine awpOps_cons (op_lenA sl35 rfl rfl rfl) ?_
  all_goals refine awpOps_cons (op_slhm sl35 rfl rfl rfl rfl (by simp)) ?_
  all_goals first | refine awpOps_cons (op_as rfl (Conv.of rfl) rfl) ?_ | refine awpOps_cons (op_asl rfl rfl rfl rfl) ?_ | refine awpOps_cons (op_aso rfl rfl rfl rfl) ?_
  all_goals refine awpOps_nil ?_
  refine awp_ret ?_
  repeat first | refine rt_seq ?_ | refine rt_block ?_
  refine finP (.v rfl (Conv.of rfl)) rfl ?_
  show AV.v (CList.mk _) = _
  simp
theorem clipVo_ct (a : OList Vote) : CtP Tryz.prog 96 [.v a.l] (.v (CList.mk a.l)) := clipV_ct a
theorem certOfNo_ct (l : List Vote) (ho : votesOk l = false) : CtP Tryz.prog 19 [.v l] (.tup [.v Cert.zero, .v false]) := by
  refine Ct.intro Tryz.func19 rfl rfl ?_
  all_goals first | refine awp_seq (awp_region (id := 0) ?_) | refine awp_seq (awp_seq (awp_region (id := 0) ?_)) | refine awp_region (id := 0) ?_ | refine awp_seq (awp_seq (awp_seq (awp_region (id := 0) ?_)))
  all_goals refine awpOps_cons (op_alloc (o := 0) z37 rfl rfl) ?_
  all_goals refine awpOps_cons (op_as rfl (Conv.of rfl) rfl) ?_
  all_goals refine awpOps_nil ?_
  all_goals first | refine awp_seq (awp_region (id := 1) ?_) | refine awp_seq (awp_seq (awp_region (id := 1) ?_)) | refine awp_region (id := 1) ?_ | refine awp_seq (awp_seq (awp_seq (awp_region (id := 1) ?_)))
  all_goals first | refine awpOps_cons (op_mv rfl (Conv.of rfl) rfl) ?_ | refine awpOps_cons (op_mvl rfl rfl rfl rfl) ?_ | refine awpOps_cons (op_mvo rfl rfl rfl rfl) ?_
  all_goals refine awpOps_cons (op_call fb59 (.cons rfl (Conv.of rfl) (.nil _)) (votesOk_ct _) (argOk rfl rfl argOk0) rfl rfl) ?_
  all_goals refine awpOps_cons (op_not rfl rfl) ?_
  all_goals refine awpOps_nil ?_
  first | refine awp_seq (awp_cond rfl (fun h => ?_) (fun h => absurd (not_f h) (by rw [ho]; decide))) | refine awp_seq (awp_seq (awp_cond rfl (fun h => ?_) (fun h => absurd (not_f h) (by rw [ho]; decide)))) | refine awp_cond rfl (fun h => ?_) (fun h => absurd (not_f h) (by rw [ho]; decide)) | refine awp_seq (awp_seq (awp_seq (awp_cond rfl (fun h => ?_) (fun h => absurd (not_f h) (by rw [ho]; decide)))))
  all_goals first | refine awp_seq (awp_region (id := 2) ?_) | refine awp_seq (awp_seq (awp_region (id := 2) ?_)) | refine awp_region (id := 2) ?_ | refine awp_seq (awp_seq (awp_seq (awp_region (id := 2) ?_)))
  all_goals refine awpOps_cons (op_build (.nil _) z37 rfl pl37 rfl) ?_
  all_goals first | refine awpOps_cons (op_st ty37 rfl rfl (Conv.of rfl) rfl) ?_ | refine awpOps_cons (op_ste ty37 rfl rfl (Conv.of rfl) rfl (by assumption)) ?_ | refine awpOps_cons (op_stm ty37 rfl rfl rfl) ?_ | refine awpOps_cons (op_stme ty37 rfl rfl rfl (by assumption)) ?_
  all_goals refine awpOps_cons (op_as rfl (Conv.of rfl) rfl) ?_
  all_goals refine awpOps_nil ?_
  refine awp_ret ?_
  repeat first | refine rt_seq ?_ | refine rt_block ?_
  exact ⟨_, _, resN (ol := []) (.cons (.rc ty37 rfl rfl) (.cons (.v rfl (Conv.of rfl)) .nil)) rfl (fun o ho => absurd (show o ∈ ([] : List Nat) from ho) (by simp)) oln noS, rfl, rfl⟩
theorem certOfZ_ct (l : List Vote) (ho : votesOk l = true) (hl : l.length ≤ 1000) (hz : finLen (shownOf l) = 0) : CtP Tryz.prog 19 [.v l] (.tup [.v Cert.zero, .v false]) := by
  have hg := gdOf ho hl
  have hse := shown_ct l hg.l hg.v hg.e
  have hfe := final_ct (shownOf l) (fun x hx => by
    rcases shown_mem (allOf l) [] with e | e
    · unfold shownOf at hx; rw [e] at hx; cases hx
    · rcases allOf_mem l _ e with e | ⟨v, h1, h2⟩
      · unfold shownOf at hx; rw [e] at hx; cases hx
      · refine hg.e v h1 x ?_; unfold shownOf at hx; rw [h2]; exact hx)
  refine Ct.intro Tryz.func19 rfl rfl ?_
  all_goals first | refine awp_seq (awp_region (id := 0) ?_) | refine awp_seq (awp_seq (awp_region (id := 0) ?_)) | refine awp_region (id := 0) ?_ | refine awp_seq (awp_seq (awp_seq (awp_region (id := 0) ?_)))
  all_goals refine awpOps_cons (op_alloc (o := 0) z37 rfl rfl) ?_
  all_goals refine awpOps_cons (op_as rfl (Conv.of rfl) rfl) ?_
  all_goals refine awpOps_nil ?_
  all_goals first | refine awp_seq (awp_region (id := 1) ?_) | refine awp_seq (awp_seq (awp_region (id := 1) ?_)) | refine awp_region (id := 1) ?_ | refine awp_seq (awp_seq (awp_seq (awp_region (id := 1) ?_)))
  all_goals first | refine awpOps_cons (op_mv rfl (Conv.of rfl) rfl) ?_ | refine awpOps_cons (op_mvl rfl rfl rfl rfl) ?_ | refine awpOps_cons (op_mvo rfl rfl rfl rfl) ?_
  all_goals refine awpOps_cons (op_call fb59 (.cons rfl (Conv.of rfl) (.nil _)) (votesOk_ct _) (argOk rfl rfl argOk0) rfl rfl) ?_
  all_goals refine awpOps_cons (op_not rfl rfl) ?_
  all_goals refine awpOps_nil ?_
  first | refine awp_seq (awp_cond rfl (fun h => absurd (not_t h) (by rw [ho]; decide)) (fun h => ?_)) | refine awp_seq (awp_seq (awp_cond rfl (fun h => absurd (not_t h) (by rw [ho]; decide)) (fun h => ?_))) | refine awp_cond rfl (fun h => absurd (not_t h) (by rw [ho]; decide)) (fun h => ?_) | refine awp_seq (awp_seq (awp_seq (awp_cond rfl (fun h => absurd (not_t h) (by rw [ho]; decide)) (fun h => ?_))))
  refine awp_skip ?_
  all_goals first | refine awp_seq (awp_region (id := 3) ?_) | refine awp_seq (awp_seq (awp_region (id := 3) ?_)) | refine awp_region (id := 3) ?_ | refine awp_seq (awp_seq (awp_seq (awp_region (id := 3) ?_)))
  all_goals first | refine awpOps_cons (op_mv rfl (Conv.of rfl) rfl) ?_ | refine awpOps_cons (op_mvl rfl rfl rfl rfl) ?_ | refine awpOps_cons (op_mvo rfl rfl rfl rfl) ?_
  all_goals refine awpOps_cons (op_call fb60 (.cons rfl (Conv.of rfl) (.nil _)) (hse) (argOk rfl rfl argOk0) rfl rfl) ?_
  all_goals first | refine awpOps_cons (op_as rfl (Conv.of rfl) rfl) ?_ | refine awpOps_cons (op_asl rfl rfl rfl rfl) ?_ | refine awpOps_cons (op_aso rfl rfl rfl rfl) ?_
  all_goals refine awpOps_nil ?_
  all_goals first | refine awp_seq (awp_region (id := 4) ?_) | refine awp_seq (awp_seq (awp_region (id := 4) ?_)) | refine awp_region (id := 4) ?_ | refine awp_seq (awp_seq (awp_seq (awp_region (id := 4) ?_)))
  all_goals first | refine awpOps_cons (op_mv rfl (Conv.of rfl) rfl) ?_ | refine awpOps_cons (op_mvl rfl rfl rfl rfl) ?_ | refine awpOps_cons (op_mvo rfl rfl rfl rfl) ?_
  all_goals refine awpOps_cons (op_call fb61 (.cons rfl (Conv.cl) (.nil _)) (hfe) (argOk rfl rfl argOk0) rfl rfl) ?_
  all_goals first | refine awpOps_cons (op_as rfl (Conv.of rfl) rfl) ?_ | refine awpOps_cons (op_asl rfl rfl rfl rfl) ?_ | refine awpOps_cons (op_aso rfl rfl rfl rfl) ?_
  all_goals refine awpOps_nil ?_
  all_goals first | refine awp_seq (awp_region (id := 5) ?_) | refine awp_seq (awp_seq (awp_region (id := 5) ?_)) | refine awp_region (id := 5) ?_ | refine awp_seq (awp_seq (awp_seq (awp_region (id := 5) ?_)))
  all_goals first | refine awpOps_cons (op_mv rfl (Conv.of rfl) rfl) ?_ | refine awpOps_cons (op_mvl rfl rfl rfl rfl) ?_ | refine awpOps_cons (op_mvo rfl rfl rfl rfl) ?_
  all_goals refine awpOps_cons (op_eql rfl rfl rfl) ?_
  all_goals refine awpOps_nil ?_
  first | refine awp_seq (awp_cond rfl (fun h => ?_) (fun h => absurd hz (of_decide_eq_false h))) | refine awp_seq (awp_seq (awp_cond rfl (fun h => ?_) (fun h => absurd hz (of_decide_eq_false h)))) | refine awp_cond rfl (fun h => ?_) (fun h => absurd hz (of_decide_eq_false h)) | refine awp_seq (awp_seq (awp_seq (awp_cond rfl (fun h => ?_) (fun h => absurd hz (of_decide_eq_false h)))))
  all_goals first | refine awp_seq (awp_region (id := 6) ?_) | refine awp_seq (awp_seq (awp_region (id := 6) ?_)) | refine awp_region (id := 6) ?_ | refine awp_seq (awp_seq (awp_seq (awp_region (id := 6) ?_)))
  all_goals refine awpOps_cons (op_build (.nil _) z37 rfl pl37 rfl) ?_
  all_goals first | refine awpOps_cons (op_st ty37 rfl rfl (Conv.of rfl) rfl) ?_ | refine awpOps_cons (op_ste ty37 rfl rfl (Conv.of rfl) rfl (by assumption)) ?_ | refine awpOps_cons (op_stm ty37 rfl rfl rfl) ?_ | refine awpOps_cons (op_stme ty37 rfl rfl rfl (by assumption)) ?_
  all_goals refine awpOps_cons (op_as rfl (Conv.of rfl) rfl) ?_
  all_goals refine awpOps_nil ?_
  refine awp_ret ?_
  repeat first | refine rt_seq ?_ | refine rt_block ?_
  exact ⟨_, _, resN (ol := []) (.cons (.rc ty37 rfl rfl) (.cons (.v rfl (Conv.of rfl)) .nil)) rfl (fun o ho => absurd (show o ∈ ([] : List Nat) from ho) (by simp)) oln noS, rfl, rfl⟩
set_option maxHeartbeats 2000000 in
theorem certOfY_ct (l : List Vote) (ho : votesOk l = true) (hl : l.length ≤ 1000) (n : Nat) (hn2 : 2 ≤ n) (hnl : n < (shownOf l).length) (hz : finLen (shownOf l) = n) : CtP Tryz.prog 19 [.v l] (.tup [.v (certC l (shownOf l) n), .v true]) := by
  have hg := gdOf ho hl
  have hse := shown_ct l hg.l hg.v hg.e
  have hmem : shownOf l = [] ∨ ∃ v ∈ l, v.chain = shownOf l := by
    rcases shown_mem (allOf l) [] with e | e
    · exact .inl e
    · exact allOf_mem l _ e
  have hfe := final_ct (shownOf l) (fun x hx => by
    rcases hmem with e | ⟨v, h1, h2⟩
    · rw [e] at hx; cases hx
    · exact hg.e v h1 x (by rw [h2]; exact hx))
  have hcl : (shownOf l).length ≤ 1000000 := by
    rcases hmem with e | ⟨v, h1, h2⟩
    · rw [e]; decide
    · rw [← h2]; exact hg.v v h1
  generalize shownOf l = c at *
  have htl : (c.take (n + 1)).length = n + 1 := by rw [List.length_take]; omega
  have hcert : certC l c n = Cert.mk (c.take (n + 1)) ((List.range 3).map fun k => voters l (preC (c.take (n + 1)) k)) := by
    have hp : ∀ k, preC (c.take (n + 1)) k = c.take (min (n - 1 + k) (n + 1)) := fun k => by
      unfold preC
      rw [htl, List.take_take]
      rw [show n + 1 - 2 = n - 1 by omega]
    have e1 : min (n - 1 + 0) (n + 1) = n - 1 := by omega
    have e2 : min (n - 1 + 1) (n + 1) = n := by omega
    have e3 : min (n - 1 + 2) (n + 1) = n + 1 := by omega
    show _ = Cert.mk _ [voters l (preC (c.take (n + 1)) 0), voters l (preC (c.take (n + 1)) 1), voters l (preC (c.take (n + 1)) 2)]
    rw [hp, hp, hp, e1, e2, e3]; rfl
  rw [hcert]
  have hat : ∀ k : Nat, k < 3 → ((List.range 3).map fun k => voters l (preC (c.take (n + 1)) k))[k]? = some (voters l (preC (c.take (n + 1)) k)) := fun k hk => by
    rw [List.getElem?_map, List.getElem?_range hk]; rfl
  have hbl : ((List.range 3).map fun k => voters l (preC (c.take (n + 1)) k)).length = 3 := by simp
  generalize ((List.range 3).map fun k => voters l (preC (c.take (n + 1)) k)) = bs at hat hbl ⊢
  have hsl : c.take ((n : Int) + 1).toNat = c.take (n + 1) := by congr 1
  have htake := copied_ct (c.take ((n : Int) + 1).toNat) (by rw [List.length_take]; omega)
  refine Ct.intro Tryz.func19 rfl rfl ?_
  all_goals first | refine awp_seq (awp_region (id := 0) ?_) | refine awp_seq (awp_seq (awp_region (id := 0) ?_)) | refine awp_region (id := 0) ?_ | refine awp_seq (awp_seq (awp_seq (awp_region (id := 0) ?_)))
  all_goals refine awpOps_cons (op_alloc (o := 0) z37 rfl rfl) ?_
  all_goals refine awpOps_cons (op_as rfl (Conv.of rfl) rfl) ?_
  all_goals refine awpOps_nil ?_
  all_goals first | refine awp_seq (awp_region (id := 1) ?_) | refine awp_seq (awp_seq (awp_region (id := 1) ?_)) | refine awp_region (id := 1) ?_ | refine awp_seq (awp_seq (awp_seq (awp_region (id := 1) ?_)))
  all_goals first | refine awpOps_cons (op_mv rfl (Conv.of rfl) rfl) ?_ | refine awpOps_cons (op_mvl rfl rfl rfl rfl) ?_ | refine awpOps_cons (op_mvo rfl rfl rfl rfl) ?_
  all_goals refine awpOps_cons (op_call fb59 (.cons rfl (Conv.of rfl) (.nil _)) (votesOk_ct _) (argOk rfl rfl argOk0) rfl rfl) ?_
  all_goals refine awpOps_cons (op_not rfl rfl) ?_
  all_goals refine awpOps_nil ?_
  first | refine awp_seq (awp_cond rfl (fun h => absurd (not_t h) (by rw [ho]; decide)) (fun h => ?_)) | refine awp_seq (awp_seq (awp_cond rfl (fun h => absurd (not_t h) (by rw [ho]; decide)) (fun h => ?_))) | refine awp_cond rfl (fun h => absurd (not_t h) (by rw [ho]; decide)) (fun h => ?_) | refine awp_seq (awp_seq (awp_seq (awp_cond rfl (fun h => absurd (not_t h) (by rw [ho]; decide)) (fun h => ?_))))
  refine awp_skip ?_
  all_goals first | refine awp_seq (awp_region (id := 3) ?_) | refine awp_seq (awp_seq (awp_region (id := 3) ?_)) | refine awp_region (id := 3) ?_ | refine awp_seq (awp_seq (awp_seq (awp_region (id := 3) ?_)))
  all_goals first | refine awpOps_cons (op_mv rfl (Conv.of rfl) rfl) ?_ | refine awpOps_cons (op_mvl rfl rfl rfl rfl) ?_ | refine awpOps_cons (op_mvo rfl rfl rfl rfl) ?_
  all_goals refine awpOps_cons (op_call fb60 (.cons rfl (Conv.of rfl) (.nil _)) (hse) (argOk rfl rfl argOk0) rfl rfl) ?_
  all_goals first | refine awpOps_cons (op_as rfl (Conv.of rfl) rfl) ?_ | refine awpOps_cons (op_asl rfl rfl rfl rfl) ?_ | refine awpOps_cons (op_aso rfl rfl rfl rfl) ?_
  all_goals refine awpOps_nil ?_
  all_goals first | refine awp_seq (awp_region (id := 4) ?_) | refine awp_seq (awp_seq (awp_region (id := 4) ?_)) | refine awp_region (id := 4) ?_ | refine awp_seq (awp_seq (awp_seq (awp_region (id := 4) ?_)))
  all_goals first | refine awpOps_cons (op_mv rfl (Conv.of rfl) rfl) ?_ | refine awpOps_cons (op_mvl rfl rfl rfl rfl) ?_ | refine awpOps_cons (op_mvo rfl rfl rfl rfl) ?_
  all_goals refine awpOps_cons (op_call fb61 (.cons rfl (Conv.cl) (.nil _)) (hfe) (argOk rfl rfl argOk0) rfl rfl) ?_
  all_goals first | refine awpOps_cons (op_as rfl (Conv.of rfl) rfl) ?_ | refine awpOps_cons (op_asl rfl rfl rfl rfl) ?_ | refine awpOps_cons (op_aso rfl rfl rfl rfl) ?_
  all_goals refine awpOps_nil ?_
  all_goals first | refine awp_seq (awp_region (id := 5) ?_) | refine awp_seq (awp_seq (awp_region (id := 5) ?_)) | refine awp_region (id := 5) ?_ | refine awp_seq (awp_seq (awp_seq (awp_region (id := 5) ?_)))
  all_goals first | refine awpOps_cons (op_mv rfl (Conv.of rfl) rfl) ?_ | refine awpOps_cons (op_mvl rfl rfl rfl rfl) ?_ | refine awpOps_cons (op_mvo rfl rfl rfl rfl) ?_
  all_goals refine awpOps_cons (op_eql rfl rfl rfl) ?_
  all_goals refine awpOps_nil ?_
  first | refine awp_seq (awp_cond rfl (fun h => absurd (of_decide_eq_true h) (by rw [hz]; omega)) (fun h => ?_)) | refine awp_seq (awp_seq (awp_cond rfl (fun h => absurd (of_decide_eq_true h) (by rw [hz]; omega)) (fun h => ?_))) | refine awp_cond rfl (fun h => absurd (of_decide_eq_true h) (by rw [hz]; omega)) (fun h => ?_) | refine awp_seq (awp_seq (awp_seq (awp_cond rfl (fun h => absurd (of_decide_eq_true h) (by rw [hz]; omega)) (fun h => ?_))))
  refine awp_skip ?_
  all_goals first | refine awp_seq (awp_region (id := 7) ?_) | refine awp_seq (awp_seq (awp_region (id := 7) ?_)) | refine awp_region (id := 7) ?_ | refine awp_seq (awp_seq (awp_seq (awp_region (id := 7) ?_)))
  all_goals first | refine awpOps_cons (op_mv rfl (Conv.of rfl) rfl) ?_ | refine awpOps_cons (op_mvl rfl rfl rfl rfl) ?_ | refine awpOps_cons (op_mvo rfl rfl rfl rfl) ?_
  all_goals first | refine awpOps_cons (op_mv rfl (Conv.of rfl) rfl) ?_ | refine awpOps_cons (op_mvl rfl rfl rfl rfl) ?_ | refine awpOps_cons (op_mvo rfl rfl rfl rfl) ?_
  all_goals refine awpOps_cons (op_add rfl rfl rfl (by (rw [hz]; omega))) ?_
  all_goals refine awpOps_cons (op_slh sl34 rfl rfl rfl ⟨by omega, by rw [hz]; omega⟩) ?_
  all_goals refine awpOps_cons (op_call fb62 (.cons rfl (Conv.of rfl) (.nil _)) (by rw [hz]; exact htake) (argOk rfl rfl argOk0) rfl rfl) ?_
  all_goals refine awpOps_cons (op_build (.cons f37_0_CertS rfl (Conv.cl) (.nil _)) z37_CertS rfl pl37 rfl) ?_
  all_goals refine awpOps_cons (op_alloc (o := 1) z37_CertS rfl rfl) ?_
  all_goals first | refine awpOps_cons (op_st ty37_CertS rfl rfl (Conv.of rfl) rfl) ?_ | refine awpOps_cons (op_ste ty37_CertS rfl rfl (Conv.of rfl) rfl (by assumption)) ?_ | refine awpOps_cons (op_stm ty37_CertS rfl rfl rfl) ?_ | refine awpOps_cons (op_stme ty37_CertS rfl rfl rfl (by assumption)) ?_
  all_goals refine awpOps_nil ?_
  rw [hsl]
  all_goals first | refine awp_seq (awp_region (id := 8) ?_) | refine awp_seq (awp_seq (awp_region (id := 8) ?_)) | refine awp_region (id := 8) ?_ | refine awp_seq (awp_seq (awp_seq (awp_region (id := 8) ?_)))
  all_goals refine awpOps_cons (op_mv rfl (Conv.of rfl) rfl) ?_
  all_goals refine awpOps_nil ?_
  refine awp_parkC (s := 17) (o := 1) (tb := 6) rfl rfl rfl (fun hv0 => ?_)
  first | refine awp_seq (awp_block ?_) | refine awp_seq (awp_seq (awp_block ?_)) | refine awp_block ?_ | refine awp_seq (awp_seq (awp_seq (awp_block ?_)))
  first | refine awp_seq (awp_loop' (fun n_ s => ∃ (k : Nat), ∃ (hv : Value), ∃ (hn : n_ + k = 3), s = mkSt 44 [(0, .v l), (2, .box 0 (IsLens.whole Cert)), (6, .box 1 (IsLens.whole CertH)), (17, .v (Room.mk (α := List Int) hv true)), (25, .v (k : Int))] [(0, .cell Cert.zero), (1, .cell (CertH.mk (c.take (n + 1)) ⟨bs.take k, hv⟩))]) (3) ⟨0, hv0, by omega, rfl⟩ (Le.mk rfl (tle rfl (rfl) rfl (tlb rfl rfl rfl (tlb rfl rfl rfl (tle rfl (rfl) rfl (tle rfl (rfl) rfl tln))))) (olk rfl (by first | exact obOk_cell | exact obOk_arr | exact obOkW rfl | exact obOkW0 | exact obOkN | exact obOkS rfl | exact obOkNs | exact obOkS0 | trivial) (olk (by first | rfl | (rw [take_at (hat k hk3)]; rfl)) (by first | exact obOk_cell | exact obOk_arr | exact obOkW rfl | exact obOkW0 | exact obOkN | exact obOkS rfl | exact obOkNs | exact obOkS0 | trivial) oln)) noS) ?_) | refine awp_seq (awp_seq (awp_loop' (fun n_ s => ∃ (k : Nat), ∃ (hv : Value), ∃ (hn : n_ + k = 3), s = mkSt 44 [(0, .v l), (2, .box 0 (IsLens.whole Cert)), (6, .box 1 (IsLens.whole CertH)), (17, .v (Room.mk (α := List Int) hv true)), (25, .v (k : Int))] [(0, .cell Cert.zero), (1, .cell (CertH.mk (c.take (n + 1)) ⟨bs.take k, hv⟩))]) (3) ⟨0, hv0, by omega, rfl⟩ (Le.mk rfl (tle rfl (rfl) rfl (tlb rfl rfl rfl (tlb rfl rfl rfl (tle rfl (rfl) rfl (tle rfl (rfl) rfl tln))))) (olk rfl (by first | exact obOk_cell | exact obOk_arr | exact obOkW rfl | exact obOkW0 | exact obOkN | exact obOkS rfl | exact obOkNs | exact obOkS0 | trivial) (olk (by first | rfl | (rw [take_at (hat k hk3)]; rfl)) (by first | exact obOk_cell | exact obOk_arr | exact obOkW rfl | exact obOkW0 | exact obOkN | exact obOkS rfl | exact obOkNs | exact obOkS0 | trivial) oln)) noS) ?_)) | refine awp_loop' (fun n_ s => ∃ (k : Nat), ∃ (hv : Value), ∃ (hn : n_ + k = 3), s = mkSt 44 [(0, .v l), (2, .box 0 (IsLens.whole Cert)), (6, .box 1 (IsLens.whole CertH)), (17, .v (Room.mk (α := List Int) hv true)), (25, .v (k : Int))] [(0, .cell Cert.zero), (1, .cell (CertH.mk (c.take (n + 1)) ⟨bs.take k, hv⟩))]) (3) ⟨0, hv0, by omega, rfl⟩ (Le.mk rfl (tle rfl (rfl) rfl (tlb rfl rfl rfl (tlb rfl rfl rfl (tle rfl (rfl) rfl (tle rfl (rfl) rfl tln))))) (olk rfl (by first | exact obOk_cell | exact obOk_arr | exact obOkW rfl | exact obOkW0 | exact obOkN | exact obOkS rfl | exact obOkNs | exact obOkS0 | trivial) (olk (by first | rfl | (rw [take_at (hat k hk3)]; rfl)) (by first | exact obOk_cell | exact obOk_arr | exact obOkW rfl | exact obOkW0 | exact obOkN | exact obOkS rfl | exact obOkNs | exact obOkS0 | trivial) oln)) noS) ?_ | refine awp_seq (awp_seq (awp_seq (awp_loop' (fun n_ s => ∃ (k : Nat), ∃ (hv : Value), ∃ (hn : n_ + k = 3), s = mkSt 44 [(0, .v l), (2, .box 0 (IsLens.whole Cert)), (6, .box 1 (IsLens.whole CertH)), (17, .v (Room.mk (α := List Int) hv true)), (25, .v (k : Int))] [(0, .cell Cert.zero), (1, .cell (CertH.mk (c.take (n + 1)) ⟨bs.take k, hv⟩))]) (3) ⟨0, hv0, by omega, rfl⟩ (Le.mk rfl (tle rfl (rfl) rfl (tlb rfl rfl rfl (tlb rfl rfl rfl (tle rfl (rfl) rfl (tle rfl (rfl) rfl tln))))) (olk rfl (by first | exact obOk_cell | exact obOk_arr | exact obOkW rfl | exact obOkW0 | exact obOkN | exact obOkS rfl | exact obOkNs | exact obOkS0 | trivial) (olk (by first | rfl | (rw [take_at (hat k hk3)]; rfl)) (by first | exact obOk_cell | exact obOk_arr | exact obOkW rfl | exact obOkW0 | exact obOkN | exact obOkS rfl | exact obOkNs | exact obOkS0 | trivial) oln)) noS) ?_)))
  rintro n_ s ⟨k, hv, hn, rfl⟩
  all_goals first | refine awp_seq (awp_region (id := 9) ?_) | refine awp_seq (awp_seq (awp_region (id := 9) ?_)) | refine awp_region (id := 9) ?_ | refine awp_seq (awp_seq (awp_seq (awp_region (id := 9) ?_)))
  all_goals refine awpOps_cons (op_lss rfl rfl rfl) ?_
  all_goals refine awpOps_nil ?_
  first | refine awp_seq (awp_cond rfl (fun h => ?_) (fun h => ?_)) | refine awp_seq (awp_seq (awp_cond rfl (fun h => ?_) (fun h => ?_))) | refine awp_cond rfl (fun h => ?_) (fun h => ?_) | refine awp_seq (awp_seq (awp_seq (awp_cond rfl (fun h => ?_) (fun h => ?_))))
  · have hk3 : k < 3 := by have := of_decide_eq_true h; omega
    refine awp_skip ?_
    first | refine awp_seq (awp_block ?_) | refine awp_seq (awp_seq (awp_block ?_)) | refine awp_block ?_ | refine awp_seq (awp_seq (awp_seq (awp_block ?_)))
    all_goals first | refine awp_seq (awp_region (id := 10) ?_) | refine awp_seq (awp_seq (awp_region (id := 10) ?_)) | refine awp_region (id := 10) ?_ | refine awp_seq (awp_seq (awp_seq (awp_region (id := 10) ?_)))
    all_goals first | refine awpOps_cons (op_mv rfl (Conv.of rfl) rfl) ?_ | refine awpOps_cons (op_mvl rfl rfl rfl rfl) ?_ | refine awpOps_cons (op_mvo rfl rfl rfl rfl) ?_
    all_goals first | refine awpOps_cons (op_as rfl (Conv.of rfl) rfl) ?_ | refine awpOps_cons (op_asl rfl rfl rfl rfl) ?_ | refine awpOps_cons (op_aso rfl rfl rfl rfl) ?_
    all_goals refine awpOps_nil ?_
    have hpre := prefix_ct ⟨c.take (n + 1), bs.take k⟩ (k : Int) (by omega) (by rw [htl]; omega) (by rw [htl]; omega)
    refine dg_start 9 ?_
    all_goals first | refine dg_cons (op_fab f37_1_CertH rfl rfl) ?_ | refine dg_cons (op_far f37_1_CertH rfl rfl) ?_ | refine dg_cons (op_fae f37_1_CertH rfl rfl) ?_
    all_goals first | refine dg_cons (op_ld ty35_HListListInt rfl rfl rfl) ?_ | refine dg_cons (op_ldr ty35_HListListInt rfl rfl) ?_ | refine dg_cons (op_lde ty35_HListListInt rfl rfl (by assumption) rfl) ?_ | refine dg_cons (op_ldl ty35_HListListInt rfl rfl rfl) ?_ | refine dg_cons (op_ldd ty35_HListListInt rfl rfl rfl) ?_ | refine dg_cons (op_ldde ty35_HListListInt rfl rfl (by assumption) rfl) ?_
    all_goals first | refine dg_cons (op_mv rfl (Conv.of rfl) rfl) ?_ | refine dg_cons (op_mvl rfl rfl rfl rfl) ?_ | refine dg_cons (op_mvo rfl rfl rfl rfl) ?_
    all_goals first | refine dg_cons (op_ld ty37_CertH rfl rfl rfl) ?_ | refine dg_cons (op_ldr ty37_CertH rfl rfl) ?_ | refine dg_cons (op_lde ty37_CertH rfl rfl (by assumption) rfl) ?_ | refine dg_cons (op_ldl ty37_CertH rfl rfl rfl) ?_ | refine dg_cons (op_ldd ty37_CertH rfl rfl rfl) ?_ | refine dg_cons (op_ldde ty37_CertH rfl rfl (by assumption) rfl) ?_
    all_goals first | refine dg_cons (op_mv rfl (Conv.of rfl) rfl) ?_ | refine dg_cons (op_mvl rfl rfl rfl rfl) ?_ | refine dg_cons (op_mvo rfl rfl rfl rfl) ?_
    all_goals refine dg_cons (op_call fb64 (.cons rfl (CertH.conv) (.cons rfl (Conv.of rfl) (.nil _))) (hpre) (argOk rfl rfl (argOk rfl rfl argOk0)) rfl rfl) ?_
    all_goals refine dg_cons (op_call fb63 (.cons rfl (Conv.of rfl) (.cons rfl (Conv.of rfl) (.nil _))) (voters_ct _ _) (argOk rfl rfl (argOk rfl rfl argOk0)) rfl rfl) ?_
    all_goals refine dg_cons (op_bsl sl35 z61 (.cons rfl (Conv.cl) (.nil _)) rfl (by decide) rfl) ?_
    refine dg_cons (op_appP (s := 29) (r := 17) (d := 36) rfl sl35 z61 ul35 rfl rfl rfl rfl (by simp; omega) (by simp; omega) rfl rfl) ?_
    refine dg_bar (fun hv' => _) mixed rfl rfl (parkL (t := 36) (r := 17) rfl rfl rfl) (fun hv' => ?_)
    all_goals first | refine dg_cons (op_fab f37_1_CertH rfl rfl) ?_ | refine dg_cons (op_far f37_1_CertH rfl rfl) ?_ | refine dg_cons (op_fae f37_1_CertH rfl rfl) ?_
    all_goals first | refine dg_cons (op_st ty35_HListListInt rfl rfl (Conv.of rfl) rfl) ?_ | refine dg_cons (op_ste ty35_HListListInt rfl rfl (Conv.of rfl) rfl (by assumption)) ?_ | refine dg_cons (op_stm ty35_HListListInt rfl rfl rfl) ?_ | refine dg_cons (op_stme ty35_HListListInt rfl rfl rfl (by assumption)) ?_
    refine dg_nil rfl ?_
    all_goals first | refine awp_seq (awp_region (id := 12) ?_) | refine awp_seq (awp_seq (awp_region (id := 12) ?_)) | refine awp_region (id := 12) ?_ | refine awp_seq (awp_seq (awp_seq (awp_region (id := 12) ?_)))
    all_goals refine awpOps_cons (op_add rfl rfl rfl (by omega)) ?_
    all_goals first | refine awpOps_cons (op_mv rfl (Conv.of rfl) rfl) ?_ | refine awpOps_cons (op_mvl rfl rfl rfl rfl) ?_ | refine awpOps_cons (op_mvo rfl rfl rfl rfl) ?_
    all_goals refine awpOps_nil ?_
    repeat first | refine nx_seq ?_ | refine nx_block ?_
    exact ⟨n_ - 1, _, by omega, ⟨k + 1, hv', by omega, rfl⟩, Le.mk rfl (tle rfl (rfl) rfl (tlb rfl rfl rfl (tlb rfl rfl rfl (tle rfl (rfl) rfl (tle rfl (rfl) rfl tln))))) (olk rfl (by first | exact obOk_cell | exact obOk_arr | exact obOkW rfl | exact obOkW0 | exact obOkN | exact obOkS rfl | exact obOkNs | exact obOkS0 | trivial) (olk (by first | rfl | (rw [take_at (hat k hk3)]; rfl)) (by first | exact obOk_cell | exact obOk_arr | exact obOkW rfl | exact obOkW0 | exact obOkN | exact obOkS rfl | exact obOkNs | exact obOkS0 | trivial) oln)) noS⟩
  · refine awp_exit ?_
    repeat refine ex_seq ?_
    refine ex_block ?_
    have hk3 : k = 3 := by have := of_decide_eq_false h; omega
    subst hk3
    refine awp_recell (o := 1) (tb := 6) (β := Cert) (y := Cert.mk (c.take (n + 1)) bs) rfl rfl (fun G w ω cs hh => by have := CertH.rd hh; rwa [show bs.take 3 = bs by rw [List.take_of_length_le (by omega)]] at this) ?_
    all_goals first | refine awp_seq (awp_region (id := 13) ?_) | refine awp_seq (awp_seq (awp_region (id := 13) ?_)) | refine awp_region (id := 13) ?_ | refine awp_seq (awp_seq (awp_seq (awp_region (id := 13) ?_)))
    all_goals first | refine awpOps_cons (op_fab f37_1_Cert rfl rfl) ?_ | refine awpOps_cons (op_far f37_1_Cert rfl rfl) ?_ | refine awpOps_cons (op_fae f37_1_Cert rfl rfl) ?_
    all_goals first | refine awpOps_cons (op_ld ty35_ListListInt rfl rfl rfl) ?_ | refine awpOps_cons (op_ldr ty35_ListListInt rfl rfl) ?_ | refine awpOps_cons (op_lde ty35_ListListInt rfl rfl (by assumption) rfl) ?_ | refine awpOps_cons (op_ldl ty35_ListListInt rfl rfl rfl) ?_ | refine awpOps_cons (op_ldd ty35_ListListInt rfl rfl rfl) ?_ | refine awpOps_cons (op_ldde ty35_ListListInt rfl rfl (by assumption) rfl) ?_
    all_goals refine awpOps_cons (op_call fb65 (.cons rfl (Conv.of rfl) (.nil _)) (clipII_ct _) (argOk rfl rfl argOk0) rfl rfl) ?_
    all_goals first | refine awpOps_cons (op_fab f37_1_Cert rfl rfl) ?_ | refine awpOps_cons (op_far f37_1_Cert rfl rfl) ?_ | refine awpOps_cons (op_fae f37_1_Cert rfl rfl) ?_
    all_goals first | refine awpOps_cons (op_st ty35_ListListInt rfl rfl (Conv.cl) rfl) ?_ | refine awpOps_cons (op_ste ty35_ListListInt rfl rfl (Conv.cl) rfl (by assumption)) ?_ | refine awpOps_cons (op_stm ty35_ListListInt rfl rfl rfl) ?_ | refine awpOps_cons (op_stme ty35_ListListInt rfl rfl rfl (by assumption)) ?_
    all_goals refine awpOps_nil ?_
    all_goals first | refine awp_seq (awp_region (id := 14) ?_) | refine awp_seq (awp_seq (awp_region (id := 14) ?_)) | refine awp_region (id := 14) ?_ | refine awp_seq (awp_seq (awp_seq (awp_region (id := 14) ?_)))
    all_goals first | refine awpOps_cons (op_ld ty37_Cert rfl rfl rfl) ?_ | refine awpOps_cons (op_ldr ty37_Cert rfl rfl) ?_ | refine awpOps_cons (op_lde ty37_Cert rfl rfl (by assumption) rfl) ?_ | refine awpOps_cons (op_ldl ty37_Cert rfl rfl rfl) ?_ | refine awpOps_cons (op_ldd ty37_Cert rfl rfl rfl) ?_ | refine awpOps_cons (op_ldde ty37_Cert rfl rfl (by assumption) rfl) ?_
    all_goals first | refine awpOps_cons (op_st ty37_Cert rfl rfl (Conv.of rfl) rfl) ?_ | refine awpOps_cons (op_ste ty37_Cert rfl rfl (Conv.of rfl) rfl (by assumption)) ?_ | refine awpOps_cons (op_stm ty37_Cert rfl rfl rfl) ?_ | refine awpOps_cons (op_stme ty37_Cert rfl rfl rfl (by assumption)) ?_
    all_goals refine awpOps_cons (op_as rfl (Conv.of rfl) rfl) ?_
    all_goals refine awpOps_nil ?_
    refine awp_ret ?_
    repeat first | refine rt_seq ?_ | refine rt_block ?_
    exact ⟨_, _, resN (ol := []) (.cons (.rc ty37_Cert rfl rfl) (.cons (.v rfl (Conv.of rfl)) .nil)) rfl (fun o ho => absurd (show o ∈ ([] : List Nat) from ho) (by simp)) oln noS, rfl, rfl⟩
theorem certOf_ct (l : List Vote) (hl : l.length ≤ 1000) : CtP Tryz.prog 19 [.v l] (.tup [.v (certOf l).1, .v (certOf l).2]) := by
  cases ho : votesOk l with
  | false =>
    have e : certOf l = (.zero, false) := by unfold certOf; rw [ho]; rfl
    rw [e]; exact certOfNo_ct l ho
  | true =>
    by_cases hz : finLen (shownOf l) = 0
    · have e : certOf l = (.zero, false) := by unfold certOf; rw [ho, hz]; rfl
      rw [e]; exact certOfZ_ct l ho hl hz
    · have e : certOf l = (certC l (shownOf l) (finLen (shownOf l)).toNat, true) := by unfold certOf; rw [if_pos (by simp [ho, hz])]
      rw [e]
      rcases finLen_spec (shownOf l) with h0 | ht
      · exact absurd h0 hz
      · have := finLen_le (shownOf l)
        exact certOfY_ct l ho hl _ ht.1 ht.lt (by omega)
theorem certFinal_ct (c : Cert) (h : certOk c = true) : CtP Tryz.prog 23 [.v c] (.v (CList.mk (certFinal c))) := by
  have h' := h
  simp only [certOk, Bool.and_eq_true, decide_eq_true_eq] at h'
  have hl := chainOk_len h'.1.1.1.1
  have h3 := h'.1.1.1.2
  have e : c.chain.take ((c.chain.length : Int) - 1).toNat = certFinal c := by
    unfold certFinal; rw [if_pos h]; congr 1; omega
  refine Ct.intro Tryz.func23 rfl rfl ?_
  all_goals first | refine awp_seq (awp_region (id := 0) ?_) | refine awp_seq (awp_seq (awp_region (id := 0) ?_)) | refine awp_region (id := 0) ?_ | refine awp_seq (awp_seq (awp_seq (awp_region (id := 0) ?_)))
  all_goals first | refine awpOps_cons (op_box (o := 0) ty37 rfl (Conv.of rfl) rfl rfl) ?_ | refine awpOps_cons (op_boxm (o := 0) ty37 rfl rfl rfl rfl) ?_
  all_goals refine awpOps_cons (op_as rfl (Conv.of rfl) rfl) ?_
  all_goals refine awpOps_nil ?_
  all_goals first | refine awp_seq (awp_region (id := 1) ?_) | refine awp_seq (awp_seq (awp_region (id := 1) ?_)) | refine awp_region (id := 1) ?_ | refine awp_seq (awp_seq (awp_seq (awp_region (id := 1) ?_)))
  all_goals first | refine awpOps_cons (op_ld ty37 rfl rfl rfl) ?_ | refine awpOps_cons (op_ldr ty37 rfl rfl) ?_ | refine awpOps_cons (op_lde ty37 rfl rfl (by assumption) rfl) ?_ | refine awpOps_cons (op_ldl ty37 rfl rfl rfl) ?_ | refine awpOps_cons (op_ldd ty37 rfl rfl rfl) ?_ | refine awpOps_cons (op_ldde ty37 rfl rfl (by assumption) rfl) ?_
  all_goals refine awpOps_cons (op_call fb35 (.cons rfl (Conv.of rfl) (.nil _)) (certOk_ct _ (by omega)) (argOk rfl rfl argOk0) rfl rfl) ?_
  all_goals refine awpOps_cons (op_not rfl rfl) ?_
  all_goals refine awpOps_nil ?_
  first | refine awp_seq (awp_cond rfl (fun h2 => absurd (not_t h2) (by rw [h]; decide)) (fun h2 => ?_)) | refine awp_seq (awp_seq (awp_cond rfl (fun h2 => absurd (not_t h2) (by rw [h]; decide)) (fun h2 => ?_))) | refine awp_cond rfl (fun h2 => absurd (not_t h2) (by rw [h]; decide)) (fun h2 => ?_) | refine awp_seq (awp_seq (awp_seq (awp_cond rfl (fun h2 => absurd (not_t h2) (by rw [h]; decide)) (fun h2 => ?_))))
  refine awp_skip ?_
  all_goals first | refine awp_seq (awp_region (id := 3) ?_) | refine awp_seq (awp_seq (awp_region (id := 3) ?_)) | refine awp_region (id := 3) ?_ | refine awp_seq (awp_seq (awp_seq (awp_region (id := 3) ?_)))
  all_goals first | refine awpOps_cons (op_fab f37_0 rfl rfl) ?_ | refine awpOps_cons (op_far f37_0 rfl rfl) ?_ | refine awpOps_cons (op_fae f37_0 rfl rfl) ?_
  all_goals first | refine awpOps_cons (op_ld ty34 rfl rfl rfl) ?_ | refine awpOps_cons (op_ldr ty34 rfl rfl) ?_ | refine awpOps_cons (op_lde ty34 rfl rfl (by assumption) rfl) ?_ | refine awpOps_cons (op_ldl ty34 rfl rfl rfl) ?_ | refine awpOps_cons (op_ldd ty34 rfl rfl rfl) ?_ | refine awpOps_cons (op_ldde ty34 rfl rfl (by assumption) rfl) ?_
  all_goals first | refine awpOps_cons (op_fab f37_0 rfl rfl) ?_ | refine awpOps_cons (op_far f37_0 rfl rfl) ?_ | refine awpOps_cons (op_fae f37_0 rfl rfl) ?_
  all_goals first | refine awpOps_cons (op_ld ty34 rfl rfl rfl) ?_ | refine awpOps_cons (op_ldr ty34 rfl rfl) ?_ | refine awpOps_cons (op_lde ty34 rfl rfl (by assumption) rfl) ?_ | refine awpOps_cons (op_ldl ty34 rfl rfl rfl) ?_ | refine awpOps_cons (op_ldd ty34 rfl rfl rfl) ?_ | refine awpOps_cons (op_ldde ty34 rfl rfl (by assumption) rfl) ?_
  all_goals first | refine awpOps_cons (op_len sl34 rfl rfl) ?_ | refine awpOps_cons (op_lenA sl34 rfl rfl rfl) ?_
  all_goals refine awpOps_cons (op_sub rfl rfl rfl (by omega)) ?_
  all_goals refine awpOps_cons (op_slh sl34 rfl rfl rfl ⟨by omega, by omega⟩) ?_
  all_goals refine awpOps_cons (op_call fb62 (.cons rfl (Conv.of rfl) (.nil _)) (copied_ct _ (by rw [List.length_take]; omega)) (argOk rfl rfl argOk0) rfl rfl) ?_
  all_goals first | refine awpOps_cons (op_as rfl (Conv.of rfl) rfl) ?_ | refine awpOps_cons (op_asl rfl rfl rfl rfl) ?_ | refine awpOps_cons (op_aso rfl rfl rfl rfl) ?_
  all_goals refine awpOps_nil ?_
  refine awp_ret ?_
  repeat first | refine rt_seq ?_ | refine rt_block ?_
  refine finP (.v rfl (Conv.of rfl)) rfl ?_
  show AV.v (CList.mk _) = _
  rw [e]
set_option maxHeartbeats 2000000 in
theorem certVotes_ct (c : Cert) (h : certOk c = true) : CtP Tryz.prog 36 [.v c] (.v (CList.mk (certVotes c))) := by
  have h' := h
  simp only [certOk, Bool.and_eq_true, decide_eq_true_eq] at h'
  have hl := chainOk_len h'.1.1.1.1
  have h3 := h'.1.1.1.2
  have hb3 := h'.1.2
  have hvo : ∀ x ∈ c.by_, x.length ≤ 4 := fun x hx => votersOk_len (by have := h'.2; rw [List.all_eq_true] at this; exact this x hx)
  have hcv : certVotes c = votesAt c.chain 0 c.by_ := by unfold certVotes; rw [if_pos h]
  have hvl : ∀ k, (votesAt c.chain 0 (c.by_.take k)).length ≤ 12 := fun k => by
    have := votesAt_len c.chain (c.by_.take k) 0 (fun x hx => hvo x (List.mem_of_mem_take hx))
    rw [List.length_take] at this; omega
  refine Ct.intro Tryz.func36 rfl rfl ?_
  all_goals first | refine awp_seq (awp_region (id := 0) ?_) | refine awp_seq (awp_seq (awp_region (id := 0) ?_)) | refine awp_region (id := 0) ?_ | refine awp_seq (awp_seq (awp_seq (awp_region (id := 0) ?_)))
  all_goals first | refine awpOps_cons (op_box (o := 0) ty37 rfl (Conv.of rfl) rfl rfl) ?_ | refine awpOps_cons (op_boxm (o := 0) ty37 rfl rfl rfl rfl) ?_
  all_goals refine awpOps_cons (op_as rfl (Conv.of rfl) rfl) ?_
  all_goals refine awpOps_nil ?_
  all_goals first | refine awp_seq (awp_region (id := 1) ?_) | refine awp_seq (awp_seq (awp_region (id := 1) ?_)) | refine awp_region (id := 1) ?_ | refine awp_seq (awp_seq (awp_seq (awp_region (id := 1) ?_)))
  all_goals first | refine awpOps_cons (op_ld ty37 rfl rfl rfl) ?_ | refine awpOps_cons (op_ldr ty37 rfl rfl) ?_ | refine awpOps_cons (op_lde ty37 rfl rfl (by assumption) rfl) ?_ | refine awpOps_cons (op_ldl ty37 rfl rfl rfl) ?_ | refine awpOps_cons (op_ldd ty37 rfl rfl rfl) ?_ | refine awpOps_cons (op_ldde ty37 rfl rfl (by assumption) rfl) ?_
  all_goals refine awpOps_cons (op_call fb35 (.cons rfl (Conv.of rfl) (.nil _)) (certOk_ct _ (by omega)) (argOk rfl rfl argOk0) rfl rfl) ?_
  all_goals refine awpOps_cons (op_not rfl rfl) ?_
  all_goals refine awpOps_nil ?_
  first | refine awp_seq (awp_cond rfl (fun h2 => absurd (not_t h2) (by rw [h]; decide)) (fun h2 => ?_)) | refine awp_seq (awp_seq (awp_cond rfl (fun h2 => absurd (not_t h2) (by rw [h]; decide)) (fun h2 => ?_))) | refine awp_cond rfl (fun h2 => absurd (not_t h2) (by rw [h]; decide)) (fun h2 => ?_) | refine awp_seq (awp_seq (awp_seq (awp_cond rfl (fun h2 => absurd (not_t h2) (by rw [h]; decide)) (fun h2 => ?_))))
  refine awp_skip ?_
  all_goals first | refine awp_seq (awp_region (id := 3) ?_) | refine awp_seq (awp_seq (awp_region (id := 3) ?_)) | refine awp_region (id := 3) ?_ | refine awp_seq (awp_seq (awp_seq (awp_region (id := 3) ?_)))
  all_goals refine awpOps_cons (op_bsl sl27 z48 (.nil _) rfl (by decide) rfl) ?_
  all_goals first | refine awpOps_cons (op_as rfl (Conv.of rfl) rfl) ?_ | refine awpOps_cons (op_asl rfl rfl rfl rfl) ?_ | refine awpOps_cons (op_aso rfl rfl rfl rfl) ?_
  all_goals refine awpOps_nil ?_
  all_goals first | refine awp_seq (awp_region (id := 4) ?_) | refine awp_seq (awp_seq (awp_region (id := 4) ?_)) | refine awp_region (id := 4) ?_ | refine awp_seq (awp_seq (awp_seq (awp_region (id := 4) ?_)))
  all_goals first | refine awpOps_cons (op_fab f37_1 rfl rfl) ?_ | refine awpOps_cons (op_far f37_1 rfl rfl) ?_ | refine awpOps_cons (op_fae f37_1 rfl rfl) ?_
  all_goals first | refine awpOps_cons (op_ld ty35 rfl rfl rfl) ?_ | refine awpOps_cons (op_ldr ty35 rfl rfl) ?_ | refine awpOps_cons (op_lde ty35 rfl rfl (by assumption) rfl) ?_ | refine awpOps_cons (op_ldl ty35 rfl rfl rfl) ?_ | refine awpOps_cons (op_ldd ty35 rfl rfl rfl) ?_ | refine awpOps_cons (op_ldde ty35 rfl rfl (by assumption) rfl) ?_
  all_goals first | refine awpOps_cons (op_len sl35 rfl rfl) ?_ | refine awpOps_cons (op_lenA sl35 rfl rfl rfl) ?_
  all_goals refine awpOps_cons (op_mv rfl (Conv.of rfl) rfl) ?_
  all_goals refine awpOps_nil ?_
  first | refine awp_seq (awp_block ?_) | refine awp_seq (awp_seq (awp_block ?_)) | refine awp_block ?_ | refine awp_seq (awp_seq (awp_seq (awp_block ?_)))
  first | refine awp_seq (awp_loop' (fun n_ s => ∃ (k : Nat), ∃ (hn : n_ + k = 3), s = mkSt 39 [(1, .box 0 (IsLens.whole Cert)), (3, .v (OList.mk (votesAt c.chain 0 (c.by_.take k)) true)), (13, .v c.by_), (14, .v (c.by_.length : Int)), (15, .v (k : Int))] [(0, .cell c)]) (3) ⟨0, by omega, rfl⟩ (Le.mk rfl (tlb rfl rfl rfl (tle rfl (by first | rfl | (rw [votesAt_step hx])) rfl (tle rfl (rfl) rfl (tle rfl (rfl) rfl (tle rfl (rfl) rfl tln))))) (olk rfl (by first | exact obOk_cell | exact obOk_arr | exact obOkW rfl | exact obOkW0 | exact obOkN | exact obOkS rfl | exact obOkNs | exact obOkS0 | trivial) oln) noS) ?_) | refine awp_seq (awp_seq (awp_loop' (fun n_ s => ∃ (k : Nat), ∃ (hn : n_ + k = 3), s = mkSt 39 [(1, .box 0 (IsLens.whole Cert)), (3, .v (OList.mk (votesAt c.chain 0 (c.by_.take k)) true)), (13, .v c.by_), (14, .v (c.by_.length : Int)), (15, .v (k : Int))] [(0, .cell c)]) (3) ⟨0, by omega, rfl⟩ (Le.mk rfl (tlb rfl rfl rfl (tle rfl (by first | rfl | (rw [votesAt_step hx])) rfl (tle rfl (rfl) rfl (tle rfl (rfl) rfl (tle rfl (rfl) rfl tln))))) (olk rfl (by first | exact obOk_cell | exact obOk_arr | exact obOkW rfl | exact obOkW0 | exact obOkN | exact obOkS rfl | exact obOkNs | exact obOkS0 | trivial) oln) noS) ?_)) | refine awp_loop' (fun n_ s => ∃ (k : Nat), ∃ (hn : n_ + k = 3), s = mkSt 39 [(1, .box 0 (IsLens.whole Cert)), (3, .v (OList.mk (votesAt c.chain 0 (c.by_.take k)) true)), (13, .v c.by_), (14, .v (c.by_.length : Int)), (15, .v (k : Int))] [(0, .cell c)]) (3) ⟨0, by omega, rfl⟩ (Le.mk rfl (tlb rfl rfl rfl (tle rfl (by first | rfl | (rw [votesAt_step hx])) rfl (tle rfl (rfl) rfl (tle rfl (rfl) rfl (tle rfl (rfl) rfl tln))))) (olk rfl (by first | exact obOk_cell | exact obOk_arr | exact obOkW rfl | exact obOkW0 | exact obOkN | exact obOkS rfl | exact obOkNs | exact obOkS0 | trivial) oln) noS) ?_ | refine awp_seq (awp_seq (awp_seq (awp_loop' (fun n_ s => ∃ (k : Nat), ∃ (hn : n_ + k = 3), s = mkSt 39 [(1, .box 0 (IsLens.whole Cert)), (3, .v (OList.mk (votesAt c.chain 0 (c.by_.take k)) true)), (13, .v c.by_), (14, .v (c.by_.length : Int)), (15, .v (k : Int))] [(0, .cell c)]) (3) ⟨0, by omega, rfl⟩ (Le.mk rfl (tlb rfl rfl rfl (tle rfl (by first | rfl | (rw [votesAt_step hx])) rfl (tle rfl (rfl) rfl (tle rfl (rfl) rfl (tle rfl (rfl) rfl tln))))) (olk rfl (by first | exact obOk_cell | exact obOk_arr | exact obOkW rfl | exact obOkW0 | exact obOkN | exact obOkS rfl | exact obOkNs | exact obOkS0 | trivial) oln) noS) ?_)))
  rintro n_ s ⟨k, hn, rfl⟩
  all_goals first | refine awp_seq (awp_region (id := 5) ?_) | refine awp_seq (awp_seq (awp_region (id := 5) ?_)) | refine awp_region (id := 5) ?_ | refine awp_seq (awp_seq (awp_seq (awp_region (id := 5) ?_)))
  all_goals refine awpOps_cons (op_lss rfl rfl rfl) ?_
  all_goals refine awpOps_nil ?_
  first | refine awp_seq (awp_cond rfl (fun h4 => ?_) (fun h4 => ?_)) | refine awp_seq (awp_seq (awp_cond rfl (fun h4 => ?_) (fun h4 => ?_))) | refine awp_cond rfl (fun h4 => ?_) (fun h4 => ?_) | refine awp_seq (awp_seq (awp_seq (awp_cond rfl (fun h4 => ?_) (fun h4 => ?_))))
  · have hk3 : k < 3 := by have := of_decide_eq_true h4; omega
    have hx : c.by_[k]? = some (c.by_[k]'(by omega)) := List.getElem?_eq_getElem (by omega)
    have hxl := hvo _ (List.getElem_mem (show k < c.by_.length by omega))
    generalize hlk : c.by_[k]'(by omega) = lk0 at hx hxl
    have hpl : (preC c.chain k).length ≤ 1000000 := by unfold preC; rw [List.length_take]; omega
    have hpre := prefix_ct c (k : Int) (by omega) (by omega) (by omega)
    have hvk := hvl k
    refine awp_skip ?_
    first | refine awp_seq (awp_block ?_) | refine awp_seq (awp_seq (awp_block ?_)) | refine awp_block ?_ | refine awp_seq (awp_seq (awp_seq (awp_block ?_)))
    all_goals first | refine awp_seq (awp_region (id := 6) ?_) | refine awp_seq (awp_seq (awp_region (id := 6) ?_)) | refine awp_region (id := 6) ?_ | refine awp_seq (awp_seq (awp_seq (awp_region (id := 6) ?_)))
    all_goals first | refine awpOps_cons (op_mv rfl (Conv.of rfl) rfl) ?_ | refine awpOps_cons (op_mvl rfl rfl rfl rfl) ?_ | refine awpOps_cons (op_mvo rfl rfl rfl rfl) ?_
    all_goals first | refine awpOps_cons (op_ix sl35 rfl rfl rfl (by omega) hx) ?_ | refine awpOps_cons (op_ixA sl35 rfl rfl rfl rfl (by omega)) ?_
    all_goals first | refine awpOps_cons (op_ld ty61 rfl rfl rfl) ?_ | refine awpOps_cons (op_ldr ty61 rfl rfl) ?_ | refine awpOps_cons (op_lde ty61 rfl rfl (by assumption) rfl) ?_ | refine awpOps_cons (op_ldl ty61 rfl rfl rfl) ?_ | refine awpOps_cons (op_ldd ty61 rfl rfl rfl) ?_ | refine awpOps_cons (op_ldde ty61 rfl rfl (by assumption) rfl) ?_
    all_goals first | refine awpOps_cons (op_as rfl (Conv.of rfl) rfl) ?_ | refine awpOps_cons (op_asl rfl rfl rfl rfl) ?_ | refine awpOps_cons (op_aso rfl rfl rfl rfl) ?_
    all_goals first | refine awpOps_cons (op_as rfl (Conv.of rfl) rfl) ?_ | refine awpOps_cons (op_asl rfl rfl rfl rfl) ?_ | refine awpOps_cons (op_aso rfl rfl rfl rfl) ?_
    all_goals refine awpOps_nil ?_
    all_goals first | refine awp_seq (awp_region (id := 7) ?_) | refine awp_seq (awp_seq (awp_region (id := 7) ?_)) | refine awp_region (id := 7) ?_ | refine awp_seq (awp_seq (awp_seq (awp_region (id := 7) ?_)))
    all_goals first | refine awpOps_cons (op_mv rfl (Conv.of rfl) rfl) ?_ | refine awpOps_cons (op_mvl rfl rfl rfl rfl) ?_ | refine awpOps_cons (op_mvo rfl rfl rfl rfl) ?_
    all_goals first | refine awpOps_cons (op_len sl61 rfl rfl) ?_ | refine awpOps_cons (op_lenA sl61 rfl rfl rfl) ?_
    all_goals refine awpOps_cons (op_mv rfl (Conv.of rfl) rfl) ?_
    all_goals refine awpOps_nil ?_
    first | refine awp_seq (awp_seq (awp_seq (awp_seq_to (s' := mkSt 39 [(1, .box 0 (IsLens.whole Cert)), (3, .v (OList.mk (votesAt c.chain 0 (c.by_.take k) ++ lk0.map (fun n => Vote.mk n (preC c.chain k))) true)), (13, .v c.by_), (14, .v (c.by_.length : Int)), (15, .v (k : Int))] [(0, .cell c)]) ?_ ?_))) | refine awp_seq (awp_seq (awp_seq_to (s' := mkSt 39 [(1, .box 0 (IsLens.whole Cert)), (3, .v (OList.mk (votesAt c.chain 0 (c.by_.take k) ++ lk0.map (fun n => Vote.mk n (preC c.chain k))) true)), (13, .v c.by_), (14, .v (c.by_.length : Int)), (15, .v (k : Int))] [(0, .cell c)]) ?_ ?_)) | refine awp_seq (awp_seq_to (s' := mkSt 39 [(1, .box 0 (IsLens.whole Cert)), (3, .v (OList.mk (votesAt c.chain 0 (c.by_.take k) ++ lk0.map (fun n => Vote.mk n (preC c.chain k))) true)), (13, .v c.by_), (14, .v (c.by_.length : Int)), (15, .v (k : Int))] [(0, .cell c)]) ?_ ?_) | refine awp_seq_to (s' := mkSt 39 [(1, .box 0 (IsLens.whole Cert)), (3, .v (OList.mk (votesAt c.chain 0 (c.by_.take k) ++ lk0.map (fun n => Vote.mk n (preC c.chain k))) true)), (13, .v c.by_), (14, .v (c.by_.length : Int)), (15, .v (k : Int))] [(0, .cell c)]) ?_ ?_ | refine awp_toB (s' := mkSt 39 [(1, .box 0 (IsLens.whole Cert)), (3, .v (OList.mk (votesAt c.chain 0 (c.by_.take k) ++ lk0.map (fun n => Vote.mk n (preC c.chain k))) true)), (13, .v c.by_), (14, .v (c.by_.length : Int)), (15, .v (k : Int))] [(0, .cell c)]) ?_ ?_ | refine awp_to (s' := mkSt 39 [(1, .box 0 (IsLens.whole Cert)), (3, .v (OList.mk (votesAt c.chain 0 (c.by_.take k) ++ lk0.map (fun n => Vote.mk n (preC c.chain k))) true)), (13, .v c.by_), (14, .v (c.by_.length : Int)), (15, .v (k : Int))] [(0, .cell c)]) ?_ ?_
    · first | refine awp_seq (awp_block ?_) | refine awp_seq (awp_seq (awp_block ?_)) | refine awp_block ?_ | refine awp_seq (awp_seq (awp_seq (awp_block ?_)))
      first | refine awp_seq (awp_loop' (fun n_ s => ∃ (j : Nat), ∃ (hj : n_ + j = lk0.length), s = mkSt 39 [(1, .box 0 (IsLens.whole Cert)), (3, .v (OList.mk (votesAt c.chain 0 (c.by_.take k) ++ (lk0.take j).map (fun n => Vote.mk n (preC c.chain k))) true)), (4, .v (k : Int)), (13, .v c.by_), (14, .v (c.by_.length : Int)), (15, .v (k : Int)), (20, .v lk0), (21, .v (lk0.length : Int)), (22, .v (j : Int))] [(0, .cell c)]) (lk0.length) ⟨0, by omega, rfl⟩ (Le.mk rfl (tlb rfl rfl rfl (tle rfl (by first | rfl | (show AV.v (OList.mk _ true) = AV.v (OList.mk _ true); first | (simp; done) | (rw [take_at hy, List.map_append, List.append_assoc]; rfl))) rfl (tle rfl (rfl) rfl (tle rfl (rfl) rfl (tle rfl (rfl) rfl (tle rfl (rfl) rfl (tle rfl (rfl) rfl (tle rfl (rfl) rfl (tle rfl (rfl) rfl tln))))))))) (olk rfl (by first | exact obOk_cell | exact obOk_arr | exact obOkW rfl | exact obOkW0 | exact obOkN | exact obOkS rfl | exact obOkNs | exact obOkS0 | trivial) oln) noS) ?_) | refine awp_seq (awp_seq (awp_loop' (fun n_ s => ∃ (j : Nat), ∃ (hj : n_ + j = lk0.length), s = mkSt 39 [(1, .box 0 (IsLens.whole Cert)), (3, .v (OList.mk (votesAt c.chain 0 (c.by_.take k) ++ (lk0.take j).map (fun n => Vote.mk n (preC c.chain k))) true)), (4, .v (k : Int)), (13, .v c.by_), (14, .v (c.by_.length : Int)), (15, .v (k : Int)), (20, .v lk0), (21, .v (lk0.length : Int)), (22, .v (j : Int))] [(0, .cell c)]) (lk0.length) ⟨0, by omega, rfl⟩ (Le.mk rfl (tlb rfl rfl rfl (tle rfl (by first | rfl | (show AV.v (OList.mk _ true) = AV.v (OList.mk _ true); first | (simp; done) | (rw [take_at hy, List.map_append, List.append_assoc]; rfl))) rfl (tle rfl (rfl) rfl (tle rfl (rfl) rfl (tle rfl (rfl) rfl (tle rfl (rfl) rfl (tle rfl (rfl) rfl (tle rfl (rfl) rfl (tle rfl (rfl) rfl tln))))))))) (olk rfl (by first | exact obOk_cell | exact obOk_arr | exact obOkW rfl | exact obOkW0 | exact obOkN | exact obOkS rfl | exact obOkNs | exact obOkS0 | trivial) oln) noS) ?_)) | refine awp_loop' (fun n_ s => ∃ (j : Nat), ∃ (hj : n_ + j = lk0.length), s = mkSt 39 [(1, .box 0 (IsLens.whole Cert)), (3, .v (OList.mk (votesAt c.chain 0 (c.by_.take k) ++ (lk0.take j).map (fun n => Vote.mk n (preC c.chain k))) true)), (4, .v (k : Int)), (13, .v c.by_), (14, .v (c.by_.length : Int)), (15, .v (k : Int)), (20, .v lk0), (21, .v (lk0.length : Int)), (22, .v (j : Int))] [(0, .cell c)]) (lk0.length) ⟨0, by omega, rfl⟩ (Le.mk rfl (tlb rfl rfl rfl (tle rfl (by first | rfl | (show AV.v (OList.mk _ true) = AV.v (OList.mk _ true); first | (simp; done) | (rw [take_at hy, List.map_append, List.append_assoc]; rfl))) rfl (tle rfl (rfl) rfl (tle rfl (rfl) rfl (tle rfl (rfl) rfl (tle rfl (rfl) rfl (tle rfl (rfl) rfl (tle rfl (rfl) rfl (tle rfl (rfl) rfl tln))))))))) (olk rfl (by first | exact obOk_cell | exact obOk_arr | exact obOkW rfl | exact obOkW0 | exact obOkN | exact obOkS rfl | exact obOkNs | exact obOkS0 | trivial) oln) noS) ?_ | refine awp_seq (awp_seq (awp_seq (awp_loop' (fun n_ s => ∃ (j : Nat), ∃ (hj : n_ + j = lk0.length), s = mkSt 39 [(1, .box 0 (IsLens.whole Cert)), (3, .v (OList.mk (votesAt c.chain 0 (c.by_.take k) ++ (lk0.take j).map (fun n => Vote.mk n (preC c.chain k))) true)), (4, .v (k : Int)), (13, .v c.by_), (14, .v (c.by_.length : Int)), (15, .v (k : Int)), (20, .v lk0), (21, .v (lk0.length : Int)), (22, .v (j : Int))] [(0, .cell c)]) (lk0.length) ⟨0, by omega, rfl⟩ (Le.mk rfl (tlb rfl rfl rfl (tle rfl (by first | rfl | (show AV.v (OList.mk _ true) = AV.v (OList.mk _ true); first | (simp; done) | (rw [take_at hy, List.map_append, List.append_assoc]; rfl))) rfl (tle rfl (rfl) rfl (tle rfl (rfl) rfl (tle rfl (rfl) rfl (tle rfl (rfl) rfl (tle rfl (rfl) rfl (tle rfl (rfl) rfl (tle rfl (rfl) rfl tln))))))))) (olk rfl (by first | exact obOk_cell | exact obOk_arr | exact obOkW rfl | exact obOkW0 | exact obOkN | exact obOkS rfl | exact obOkNs | exact obOkS0 | trivial) oln) noS) ?_)))
      rintro n_ s ⟨j, hj, rfl⟩
      all_goals first | refine awp_seq (awp_region (id := 8) ?_) | refine awp_seq (awp_seq (awp_region (id := 8) ?_)) | refine awp_region (id := 8) ?_ | refine awp_seq (awp_seq (awp_seq (awp_region (id := 8) ?_)))
      all_goals refine awpOps_cons (op_lss rfl rfl rfl) ?_
      all_goals refine awpOps_nil ?_
      first | refine awp_seq (awp_cond rfl (fun h5 => ?_) (fun h5 => ?_)) | refine awp_seq (awp_seq (awp_cond rfl (fun h5 => ?_) (fun h5 => ?_))) | refine awp_cond rfl (fun h5 => ?_) (fun h5 => ?_) | refine awp_seq (awp_seq (awp_seq (awp_cond rfl (fun h5 => ?_) (fun h5 => ?_))))
      · have hjl : j < lk0.length := by have := of_decide_eq_true h5; omega
        have hy : lk0[j]? = some lk0[j] := List.getElem?_eq_getElem hjl
        generalize lk0[j] = m at hy
        refine awp_skip ?_
        first | refine awp_seq (awp_block ?_) | refine awp_seq (awp_seq (awp_block ?_)) | refine awp_block ?_ | refine awp_seq (awp_seq (awp_seq (awp_block ?_)))
        all_goals first | refine awp_seq (awp_region (id := 9) ?_) | refine awp_seq (awp_seq (awp_region (id := 9) ?_)) | refine awp_region (id := 9) ?_ | refine awp_seq (awp_seq (awp_seq (awp_region (id := 9) ?_)))
        all_goals first | refine awpOps_cons (op_ix sl61 rfl rfl rfl (by omega) hy) ?_ | refine awpOps_cons (op_ixA sl61 rfl rfl rfl rfl (by omega)) ?_
        all_goals first | refine awpOps_cons (op_ld ty3 rfl rfl rfl) ?_ | refine awpOps_cons (op_ldr ty3 rfl rfl) ?_ | refine awpOps_cons (op_lde ty3 rfl rfl (by assumption) rfl) ?_ | refine awpOps_cons (op_ldl ty3 rfl rfl rfl) ?_ | refine awpOps_cons (op_ldd ty3 rfl rfl rfl) ?_ | refine awpOps_cons (op_ldde ty3 rfl rfl (by assumption) rfl) ?_
        all_goals first | refine awpOps_cons (op_as rfl (Conv.of rfl) rfl) ?_ | refine awpOps_cons (op_asl rfl rfl rfl rfl) ?_ | refine awpOps_cons (op_aso rfl rfl rfl rfl) ?_
        all_goals refine awpOps_nil ?_
        all_goals first | refine awp_seq (awp_region (id := 10) ?_) | refine awp_seq (awp_seq (awp_region (id := 10) ?_)) | refine awp_region (id := 10) ?_ | refine awp_seq (awp_seq (awp_seq (awp_region (id := 10) ?_)))
        all_goals first | refine awpOps_cons (op_mv rfl (Conv.of rfl) rfl) ?_ | refine awpOps_cons (op_mvl rfl rfl rfl rfl) ?_ | refine awpOps_cons (op_mvo rfl rfl rfl rfl) ?_
        all_goals first | refine awpOps_cons (op_mv rfl (Conv.of rfl) rfl) ?_ | refine awpOps_cons (op_mvl rfl rfl rfl rfl) ?_ | refine awpOps_cons (op_mvo rfl rfl rfl rfl) ?_
        all_goals first | refine awpOps_cons (op_ld ty37 rfl rfl rfl) ?_ | refine awpOps_cons (op_ldr ty37 rfl rfl) ?_ | refine awpOps_cons (op_lde ty37 rfl rfl (by assumption) rfl) ?_ | refine awpOps_cons (op_ldl ty37 rfl rfl rfl) ?_ | refine awpOps_cons (op_ldd ty37 rfl rfl rfl) ?_ | refine awpOps_cons (op_ldde ty37 rfl rfl (by assumption) rfl) ?_
        all_goals first | refine awpOps_cons (op_mv rfl (Conv.of rfl) rfl) ?_ | refine awpOps_cons (op_mvl rfl rfl rfl rfl) ?_ | refine awpOps_cons (op_mvo rfl rfl rfl rfl) ?_
        all_goals refine awpOps_cons (op_call fb64 (.cons rfl (Conv.of rfl) (.cons rfl (Conv.of rfl) (.nil _))) (hpre) (argOk rfl rfl (argOk rfl rfl argOk0)) rfl rfl) ?_
        all_goals refine awpOps_cons (op_call fb62 (.cons rfl (Conv.of rfl) (.nil _)) (copied_ct _ hpl) (argOk rfl rfl argOk0) rfl rfl) ?_
        all_goals refine awpOps_cons (op_build (.cons f48_0 rfl (Conv.of rfl) (.cons f48_1 rfl (Conv.cl) (.nil _))) z48 rfl pl48 rfl) ?_
        all_goals refine awpOps_cons (op_bsl sl27 z48 (.cons rfl (Conv.of rfl) (.nil _)) rfl (by decide) rfl) ?_
        all_goals refine awpOps_cons (op_app sl27 z48 ul27 rfl rfl rfl (by (simp; omega)) (by (simp; omega)) rfl rfl) ?_
        all_goals first | refine awpOps_cons (op_as rfl (Conv.of rfl) rfl) ?_ | refine awpOps_cons (op_asl rfl rfl rfl rfl) ?_ | refine awpOps_cons (op_aso rfl rfl rfl rfl) ?_
        all_goals refine awpOps_nil ?_
        all_goals first | refine awp_seq (awp_region (id := 11) ?_) | refine awp_seq (awp_seq (awp_region (id := 11) ?_)) | refine awp_region (id := 11) ?_ | refine awp_seq (awp_seq (awp_seq (awp_region (id := 11) ?_)))
        all_goals refine awpOps_cons (op_add rfl rfl rfl (by omega)) ?_
        all_goals first | refine awpOps_cons (op_mv rfl (Conv.of rfl) rfl) ?_ | refine awpOps_cons (op_mvl rfl rfl rfl rfl) ?_ | refine awpOps_cons (op_mvo rfl rfl rfl rfl) ?_
        all_goals refine awpOps_nil ?_
        repeat first | refine nx_seq ?_ | refine nx_block ?_
        exact ⟨n_ - 1, _, by omega, ⟨j + 1, by omega, rfl⟩, Le.mk rfl (tlb rfl rfl rfl (tle rfl (by first | rfl | (show AV.v (OList.mk _ true) = AV.v (OList.mk _ true); first | (simp; done) | (rw [take_at hy, List.map_append, List.append_assoc]; rfl))) rfl (tle rfl (rfl) rfl (tle rfl (rfl) rfl (tle rfl (rfl) rfl (tle rfl (rfl) rfl (tle rfl (rfl) rfl (tle rfl (rfl) rfl (tle rfl (rfl) rfl tln))))))))) (olk rfl (by first | exact obOk_cell | exact obOk_arr | exact obOkW rfl | exact obOkW0 | exact obOkN | exact obOkS rfl | exact obOkNs | exact obOkS0 | trivial) oln) noS⟩
      · refine awp_exit ?_
        repeat refine ex_seq ?_
        refine ex_block ?_
        have hje : lk0.length ≤ j := by have := of_decide_eq_false h5; omega
        rw [take_end hje]
        all_goals exact Le.mk rfl (tlb rfl rfl rfl (tle rfl (rfl) rfl (tle rfl (rfl) rfl (tle rfl (rfl) rfl (tle rfl (rfl) rfl tln))))) (olk rfl (by first | exact obOk_cell | exact obOk_arr | exact obOkW rfl | exact obOkW0 | exact obOkN | exact obOkS rfl | exact obOkNs | exact obOkS0 | trivial) oln) noS
    · all_goals first | refine awp_seq (awp_region (id := 12) ?_) | refine awp_seq (awp_seq (awp_region (id := 12) ?_)) | refine awp_region (id := 12) ?_ | refine awp_seq (awp_seq (awp_seq (awp_region (id := 12) ?_)))
      all_goals refine awpOps_cons (op_add rfl rfl rfl (by omega)) ?_
      all_goals first | refine awpOps_cons (op_mv rfl (Conv.of rfl) rfl) ?_ | refine awpOps_cons (op_mvl rfl rfl rfl rfl) ?_ | refine awpOps_cons (op_mvo rfl rfl rfl rfl) ?_
      all_goals refine awpOps_nil ?_
      repeat first | refine nx_seq ?_ | refine nx_block ?_
      exact ⟨n_ - 1, _, by omega, ⟨k + 1, by omega, rfl⟩, Le.mk rfl (tlb rfl rfl rfl (tle rfl (by first | rfl | (rw [votesAt_step hx])) rfl (tle rfl (rfl) rfl (tle rfl (rfl) rfl (tle rfl (rfl) rfl tln))))) (olk rfl (by first | exact obOk_cell | exact obOk_arr | exact obOkW rfl | exact obOkW0 | exact obOkN | exact obOkS rfl | exact obOkNs | exact obOkS0 | trivial) oln) noS⟩
  · refine awp_exit ?_
    repeat refine ex_seq ?_
    refine ex_block ?_
    have hk3 : c.by_.length ≤ k := by have := of_decide_eq_false h4; omega
    rw [take_end hk3]
    all_goals first | refine awp_seq (awp_region (id := 13) ?_) | refine awp_seq (awp_seq (awp_region (id := 13) ?_)) | refine awp_region (id := 13) ?_ | refine awp_seq (awp_seq (awp_seq (awp_region (id := 13) ?_)))
    all_goals first | refine awpOps_cons (op_mv rfl (Conv.of rfl) rfl) ?_ | refine awpOps_cons (op_mvl rfl rfl rfl rfl) ?_ | refine awpOps_cons (op_mvo rfl rfl rfl rfl) ?_
    all_goals refine awpOps_cons (op_call fb96 (.cons rfl (Conv.ol) (.nil _)) (clipVo_ct ⟨_, true⟩) (argOk rfl rfl argOk0) rfl rfl) ?_
    all_goals first | refine awpOps_cons (op_as rfl (Conv.of rfl) rfl) ?_ | refine awpOps_cons (op_asl rfl rfl rfl rfl) ?_ | refine awpOps_cons (op_aso rfl rfl rfl rfl) ?_
    all_goals refine awpOps_nil ?_
    refine awp_ret ?_
    repeat first | refine rt_seq ?_ | refine rt_block ?_
    refine finP (.v rfl (Conv.of rfl)) rfl ?_
    show AV.v (CList.mk _) = _
    rw [hcv]
theorem certVotesP_ct (c : Cert) (h : certOk c = true) : CtP Tryz.prog 36 [.v c] (.v (certVotes c)) := Ct.res (certVotes_ct c h) fun G w u h => Conv.cl h
theorem shownFn_ct (v : Vote) (hO : Nat → Wt.Obj) (w : Wrld) (ho : hO 0 = .cell w) (hf : hO 8 = .free) (hf9 : hO 9 = .free) (hH : ∀ o, obOk (pH hO) (hO o)) :
    Ct Tryz.prog 68 [.v v, .box 0 (IsLens.whole Wrld)] hO (fun r1 h1 => r1 = .v (!shownB w v) ∧ h1 = hO) := by
  refine Ct.intro Tryz.func68 rfl rfl ?_
  all_goals first | refine awp_seq (awp_region (id := 0) ?_) | refine awp_seq (awp_seq (awp_region (id := 0) ?_)) | refine awp_region (id := 0) ?_ | refine awp_seq (awp_seq (awp_seq (awp_region (id := 0) ?_)))
  all_goals first | refine awpOps_cons (op_box (o := 8) ty48 rfl (Conv.of rfl) hf rfl) ?_ | refine awpOps_cons (op_boxm (o := 8) ty48 rfl rfl hf rfl) ?_
  all_goals refine awpOps_cons (op_as rfl (Conv.of rfl) rfl) ?_
  all_goals refine awpOps_nil ?_
  have hH' : ∀ o, obOk (pH (fun o => orr (lk [(8, Wt.Obj.cell v)] o) (hO o))) (orr (lk [(8, Wt.Obj.cell v)] o) (hO o)) := fun o => by
    by_cases e : o = 8
    · subst e; exact plain_refs _
    · have := hH o
      simp only [lk, if_neg e, orr]
      cases hx : hO o with
      | free => trivial
      | dead => trivial
      | cell x =>
        rw [hx] at this
        intro o' h'
        have h2 := this o' h'
        unfold pH at h2 ⊢
        by_cases e' : o' = 8
        · subst e'; rfl
        · simpa [lk, e', orr] using h2
      | arr xs =>
        rw [hx] at this
        intro x hx' o' h'
        have h2 := this x hx' o' h'
        unfold pH at h2 ⊢
        by_cases e' : o' = 8
        · subst e'; rfl
        · simpa [lk, e', orr] using h2
  all_goals first | refine awp_seq (awp_region (id := 1) ?_) | refine awp_seq (awp_seq (awp_region (id := 1) ?_)) | refine awp_region (id := 1) ?_ | refine awp_seq (awp_seq (awp_seq (awp_region (id := 1) ?_)))
  all_goals first | refine awpOps_cons (op_ld ty48 rfl rfl rfl) ?_ | refine awpOps_cons (op_ldr ty48 rfl rfl) ?_ | refine awpOps_cons (op_lde ty48 rfl rfl (by assumption) rfl) ?_ | refine awpOps_cons (op_ldl ty48 rfl rfl rfl) ?_ | refine awpOps_cons (op_ldd ty48 rfl rfl rfl) ?_ | refine awpOps_cons (op_ldde ty48 rfl rfl (by assumption) rfl) ?_
  all_goals refine awpOps_callH (h := fun o => orr (lk [(8, Wt.Obj.cell v)] o) (hO o)) rfl (fb69) (.cons rfl (Conv.of rfl) (.cons rfl (Conv.of rfl) (.nil _))) rfl (shown_w_ct v _ w (by simpa [lk, orr] using ho) (by simpa [lk, orr] using hf9) hH') (Hand.none (Hand.l1 ⟨rfl, fun o ho' => by simp [AV.refs] at ho'; subst ho'; simp [pH, lk, orr, ho, isFree]⟩ (Hand.l1 (Hand.of rfl rfl) Hand.l0))) hH' rfl rfl ?_
  all_goals refine awpOps_cons (op_not rfl rfl) ?_
  all_goals first | refine awpOps_cons (op_as rfl (Conv.of rfl) rfl) ?_ | refine awpOps_cons (op_asl rfl rfl rfl rfl) ?_ | refine awpOps_cons (op_aso rfl rfl rfl rfl) ?_
  all_goals refine awpOps_nil ?_
  all_goals refine awp_ret ?_
  all_goals refine finF (.v rfl (Conv.of rfl)) rfl rfl (by intro o ho'; by_cases e : o = 8 <;> first | (exfalso; subst e; rw [hf] at ho'; exact absurd ho' (by decide)) | simp only [st0, St.upd, lk, orr, if_neg e]) hH
theorem any_shown (w : Wrld) (l : List Vote) : (l.any fun v => !shownB w v) = !l.all (shownB w) := by
  induction l with
  | nil => rfl
  | cons x l ih => simp only [List.any_cons, List.all_cons, ih, Bool.not_and]
set_option maxHeartbeats 2000000 in
theorem worldShown_ct (w : Wrld) (c : Cert) (hw : worldOk w = true) (hc : certOk c = true) : CtP Tryz.prog 21 [.v w, .v c] (.v (worldShown w c)) := by
  have hc' := hc
  simp only [certOk, Bool.and_eq_true, decide_eq_true_eq] at hc'
  have hl := chainOk_len hc'.1.1.1.1
  have e : worldShown w c = !(certVotes c).any fun v => !shownB w v := by
    rw [any_shown, Bool.not_not, worldShown, hw, hc]; rfl
  rw [e]
  have hk1 : CtP Tryz.prog 30 [.v w] (.v true) := by have := worldOk_ct w; rwa [hw] at this
  have hk2 : CtP Tryz.prog 35 [.v c] (.v true) := by have := certOk_ct c (by omega); rwa [hc] at this
  refine Ct.intro Tryz.func21 rfl rfl ?_
  all_goals first | refine awp_seq (awp_region (id := 0) ?_) | refine awp_seq (awp_seq (awp_region (id := 0) ?_)) | refine awp_region (id := 0) ?_ | refine awp_seq (awp_seq (awp_seq (awp_region (id := 0) ?_)))
  all_goals first | refine awpOps_cons (op_box (o := 0) ty29 rfl (Conv.of rfl) rfl rfl) ?_ | refine awpOps_cons (op_boxm (o := 0) ty29 rfl rfl rfl rfl) ?_
  all_goals first | refine awpOps_cons (op_box (o := 1) ty37 rfl (Conv.of rfl) rfl rfl) ?_ | refine awpOps_cons (op_boxm (o := 1) ty37 rfl rfl rfl rfl) ?_
  all_goals refine awpOps_cons (op_as rfl (Conv.of rfl) rfl) ?_
  all_goals refine awpOps_nil ?_
  all_goals first | refine awp_seq (awp_region (id := 1) ?_) | refine awp_seq (awp_seq (awp_region (id := 1) ?_)) | refine awp_region (id := 1) ?_ | refine awp_seq (awp_seq (awp_seq (awp_region (id := 1) ?_)))
  all_goals first | refine awpOps_cons (op_ld ty29 rfl rfl rfl) ?_ | refine awpOps_cons (op_ldr ty29 rfl rfl) ?_ | refine awpOps_cons (op_lde ty29 rfl rfl (by assumption) rfl) ?_ | refine awpOps_cons (op_ldl ty29 rfl rfl rfl) ?_ | refine awpOps_cons (op_ldd ty29 rfl rfl rfl) ?_ | refine awpOps_cons (op_ldde ty29 rfl rfl (by assumption) rfl) ?_
  all_goals refine awpOps_cons (op_call fb30 (.cons rfl (Conv.of rfl) (.nil _)) (hk1) (argOk rfl rfl argOk0) rfl rfl) ?_
  all_goals first | refine awpOps_cons (op_mv rfl (Conv.of rfl) rfl) ?_ | refine awpOps_cons (op_mvl rfl rfl rfl rfl) ?_ | refine awpOps_cons (op_mvo rfl rfl rfl rfl) ?_
  all_goals first | refine g_lit (t := 7) (b := true) rfl ?_ | refine g_lit (t := 7) (b := false) rfl ?_ | refine g_ulit (t := 7) rfl ?_ | refine g_split (t := 7) rfl (fun h => ?_) (fun h => ?_)
  all_goals first | refine awpOps_cons (g_off rfl rfl rfl rfl rfl) ?_ | refine awpOps_cons (g_und rfl rfl rfl) ?_ | refine awpOps_cons (g_on rfl rfl rfl (op_ld ty37 rfl rfl rfl)) ?_ | refine awpOps_cons (g_on rfl rfl rfl (op_ldr ty37 rfl rfl)) ?_ | refine awpOps_cons (g_on rfl rfl rfl (op_lde ty37 rfl rfl (by assumption) rfl)) ?_ | refine awpOps_cons (g_on rfl rfl rfl (op_ldl ty37 rfl rfl rfl)) ?_ | refine awpOps_cons (g_on rfl rfl rfl (op_ldd ty37 rfl rfl rfl)) ?_ | refine awpOps_cons (g_on rfl rfl rfl (op_ldde ty37 rfl rfl (by assumption) rfl)) ?_
  all_goals first | refine awpOps_cons (g_off rfl rfl rfl rfl rfl) ?_ | refine awpOps_cons (g_und rfl rfl rfl) ?_ | refine awpOps_cons (g_on rfl rfl rfl (op_call fb35 (.cons rfl (Conv.of rfl) (.nil _)) (hk2) (argOk rfl rfl argOk0) rfl rfl)) ?_
  all_goals refine awpOps_cons (op_pick rfl rfl rfl rfl) ?_
  all_goals first | refine awpOps_cons (op_mv rfl (Conv.of rfl) rfl) ?_ | refine awpOps_cons (op_mvl rfl rfl rfl rfl) ?_ | refine awpOps_cons (op_mvo rfl rfl rfl rfl) ?_
  all_goals first | refine g_lit (t := 11) (b := true) rfl ?_ | refine g_lit (t := 11) (b := false) rfl ?_ | refine g_ulit (t := 11) rfl ?_ | refine g_split (t := 11) rfl (fun h => ?_) (fun h => ?_)
  all_goals first | refine awpOps_cons (g_off rfl rfl rfl rfl rfl) ?_ | refine awpOps_cons (g_und rfl rfl rfl) ?_ | refine awpOps_cons (g_on rfl rfl rfl (op_ld ty37 rfl rfl rfl)) ?_ | refine awpOps_cons (g_on rfl rfl rfl (op_ldr ty37 rfl rfl)) ?_ | refine awpOps_cons (g_on rfl rfl rfl (op_lde ty37 rfl rfl (by assumption) rfl)) ?_ | refine awpOps_cons (g_on rfl rfl rfl (op_ldl ty37 rfl rfl rfl)) ?_ | refine awpOps_cons (g_on rfl rfl rfl (op_ldd ty37 rfl rfl rfl)) ?_ | refine awpOps_cons (g_on rfl rfl rfl (op_ldde ty37 rfl rfl (by assumption) rfl)) ?_
  all_goals first | refine awpOps_cons (g_off rfl rfl rfl rfl rfl) ?_ | refine awpOps_cons (g_und rfl rfl rfl) ?_ | refine awpOps_cons (g_on rfl rfl rfl (op_call fb36 (.cons rfl (Conv.of rfl) (.nil _)) (certVotesP_ct c hc) (argOk rfl rfl argOk0) rfl rfl)) ?_
  all_goals first | refine awpOps_cons (g_off rfl rfl rfl rfl rfl) ?_ | refine awpOps_cons (g_und rfl rfl rfl) ?_ | refine awpOps_cons (g_on rfl rfl rfl (op_mf (f := 68) .nil (.cons (r := .box 0 (IsLens.whole Wrld)) rfl (Conv.of rfl) .nil) rfl)) ?_
  all_goals first | refine awpOps_cons (g_off rfl rfl rfl rfl rfl) ?_ | refine awpOps_cons (g_und rfl rfl rfl) ?_ | refine awpOps_on rfl rfl rfl (awpOps_callH rfl (fb67) (.cons rfl (Conv.of rfl) (.cons rfl (Conv.of rfl) (.nil _))) rfl (containsV_ct _ _ [] [.box 0 (IsLens.whole Wrld)] _ (fun v => !shownB w v) (fb68) (fun x hx => shownFn_ct x _ w rfl rfl rfl (fun o => by by_cases e : o = 0 <;> by_cases e1 : o = 1 <;> simp [mkSt, st0, St.upd, lk, lk0, orr, e, e1, obOk, noObj] <;> exact plain_refs _)) (by intro z hz; simp [avs, FV.av] at hz; subst hz; exact ⟨rfl, fun o ho => by simp [AV.refs] at ho; subst ho; rfl⟩) (fun o => by by_cases e : o = 0 <;> by_cases e1 : o = 1 <;> simp [mkSt, st0, St.upd, lk, lk0, orr, e, e1, obOk, noObj] <;> exact plain_refs _)) (Hand.none (Hand.l1 (Hand.of rfl rfl) (Hand.l1 ⟨rfl, fun o ho => by simp [AV.refs, FV.refs] at ho; subst ho; rfl⟩ Hand.l0))) (fun o => by by_cases e : o = 0 <;> by_cases e1 : o = 1 <;> simp [mkSt, st0, St.upd, lk, lk0, orr, e, e1, obOk, noObj] <;> exact plain_refs _) rfl rfl ?_)
  all_goals first | refine awpOps_cons (g_off rfl rfl rfl rfl rfl) ?_ | refine awpOps_cons (g_und rfl rfl rfl) ?_ | refine awpOps_cons (g_on rfl rfl rfl (op_not rfl rfl)) ?_
  all_goals refine awpOps_cons (op_pick rfl rfl rfl rfl) ?_
  all_goals first | refine awpOps_cons (op_as rfl (Conv.of rfl) rfl) ?_ | refine awpOps_cons (op_asl rfl rfl rfl rfl) ?_ | refine awpOps_cons (op_aso rfl rfl rfl rfl) ?_
  all_goals refine awpOps_nil ?_
  all_goals refine awp_ret ?_
  all_goals refine finP (.v rfl (Conv.of rfl)) rfl ?_
  all_goals simp_all [FV.av]
end Go.Proofs.YtmdhfalfppkpeaaGreat
