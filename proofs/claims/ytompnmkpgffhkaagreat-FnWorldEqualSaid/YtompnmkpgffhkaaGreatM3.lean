/- Part 3 of the proof: texts one behind the other. -/
import Derived.Test.YtompnmkpgffhkaaGreatM2
/- Sure chains, the longest, the final part. -/
set_option linter.unusedVariables false
set_option linter.unusedSimpArgs false
namespace Go.Proofs.YtompnmkpgffhkaaGreat
open Go Go.Wt
theorem allFn_ct (x : CList Itm) (hO : Nat → Wt.Obj) (o : Nat) (v : Vote) (ho : hO o = .cell v) : Ct Tryz.prog 155 [.v x, .box o (IsLens.whole Vote)] hO (fun r1 h1 => r1 = .v (decide (x.l = v.chain)) ∧ h1 = hO) := by
  refine Ct.intro Tryz.func155 rfl rfl ?_
  all_goals refine awp_seq (awp_region (id := 0) ?_)
  all_goals refine awpOps_cons (op_as rfl (Conv.of rfl) rfl) ?_
  all_goals refine awpOps_nil ?_
  all_goals refine awp_seq (awp_region (id := 1) ?_)
  all_goals refine awpOps_cons (op_mv rfl (Conv.of rfl) rfl) ?_
  all_goals refine awpOps_cons (op_fab f48_1 rfl rfl) ?_
  all_goals refine awpOps_cons (op_ld ty35 rfl ho rfl) ?_
  all_goals refine awpOps_cons (op_call fb116 (.cons rfl (Conv.cl) (.cons rfl (Conv.of rfl) (.nil _))) (equal_ct _ _) (argOk rfl rfl (argOk rfl rfl argOk0)) rfl rfl) ?_
  all_goals refine awpOps_cons (op_as rfl (Conv.of rfl) rfl) ?_
  all_goals refine awpOps_nil ?_
  refine awp_ret ?_
  repeat first | refine rt_seq ?_ | refine rt_block ?_
  exact finH (r := .v _) (.v rfl (Conv.of rfl)) rfl rfl
theorem map_any (l : List (List Itm)) (c : List Itm) : ((l.map CList.mk).any fun x => decide (x.l = c)) = decide (c ∈ l) := by
  rw [Bool.eq_iff_iff]; simp
set_option maxHeartbeats 1000000 in
theorem all_ct (l : List Vote) (hl : l.length ≤ 100000) (hv : ∀ v ∈ l, v.chain.length ≤ 1000000) : CtP Tryz.prog 118 [.v l] (.v (CList.mk ((allOf l).map CList.mk))) := by
  refine Ct.intro Tryz.func118 rfl rfl ?_
  all_goals refine awp_seq (awp_region (id := 0) ?_)
  all_goals refine awpOps_cons (op_as rfl (Conv.of rfl) rfl) ?_
  all_goals refine awpOps_nil ?_
  all_goals refine awp_seq (awp_region (id := 1) ?_)
  all_goals refine awpOps_cons (op_bsc sl35 z67 (.nil _) rfl (by decide) rfl) ?_
  all_goals refine awpOps_cons (op_bsl sl54_CListItm z35_CListItm (.cons rfl (Conv.of rfl) (.nil _)) rfl (by decide) rfl) ?_
  all_goals refine awpOps_cons (op_asl rfl rfl rfl rfl) ?_
  all_goals refine awpOps_nil ?_
  all_goals refine awp_seq (awp_seq (awp_region (id := 2) ?_))
  all_goals refine awpOps_cons (op_mv rfl (Conv.of rfl) rfl) ?_
  all_goals refine awpOps_cons (op_len sl90 rfl rfl) ?_
  all_goals refine awpOps_cons (op_mv rfl (Conv.of rfl) rfl) ?_
  all_goals refine awpOps_nil ?_
  refine awp_block ?_
  refine awp_loop' (fun n s => ∃ (k : Nat), ∃ (hn : n + k = l.length), s = mkSt 35 [(0, .v l), (3, .v (OList.mk (((l.take k).foldl (allStep l) [[]]).map CList.mk) true)), (9, .v l), (10, .v (l.length : Int)), (11, .v (k : Int))] []) (l.length) ⟨0, by omega, rfl⟩ (Le.mk rfl (tle rfl (rfl) rfl (tle rfl (by rfl) rfl (tle rfl (rfl) rfl (tle rfl (rfl) rfl (tle rfl (rfl) rfl tln))))) oln noS) ?_
  rintro n s ⟨k, hn, rfl⟩
  have hout := allStep_len l (l.take k) [[]]
  have hout' : ((l.take k).foldl (allStep l) [[]]).length ≤ 100001 := by simp at hout; omega
  all_goals refine awp_seq (awp_region (id := 3) ?_)
  all_goals refine awpOps_cons (op_lss rfl rfl rfl) ?_
  all_goals refine awpOps_nil ?_
  refine awp_seq (awp_cond rfl (fun h => ?_) (fun h => ?_))
  · have hlt : k < l.length := by simpa using h
    have hx : l[k]? = some l[k] := List.getElem?_eq_getElem hlt
    refine awp_skip ?_
    refine awp_seq (awp_block ?_)
    all_goals refine awp_seq (awp_region (id := 4) ?_)
    all_goals refine awpOps_cons (op_ix sl90 rfl rfl rfl (by omega) hx) ?_
    all_goals refine awpOps_cons (op_ldr ty48 rfl rfl) ?_
    all_goals refine awpOps_cons (op_alloc (o := 0) z48 rfl rfl) ?_
    all_goals refine awpOps_cons (op_st ty48 rfl rfl (Conv.of rfl) rfl) ?_
    all_goals refine awpOps_nil ?_
    all_goals refine awp_seq (awp_region (id := 5) ?_)
    all_goals refine awpOps_cons (op_mv rfl Conv.ol rfl) ?_
    all_goals refine awpOps_cons (op_mf (f := 155) .nil (.cons (r := .box 0 (IsLens.whole Vote)) rfl (Conv.of rfl) .nil) rfl) ?_
    all_goals refine awpOps_callH rfl (fb154) (.cons rfl (Conv.of rfl) (.cons rfl (Conv.of rfl) (.nil _))) rfl (containsC_ct _ _ [] [.box 0 (IsLens.whole Vote)] _ (fun x => decide (x.l = l[k].chain)) (fb155) (fun x hx => allFn_ct x _ 0 l[k] rfl) (by intro z hz; simp [avs, FV.av] at hz; subst hz; exact ⟨rfl, fun o ho => by simp [AV.refs] at ho; subst ho; rfl⟩) (fun o => by by_cases e : o = 0 <;> simp [mkSt, st0, St.upd, lk, lk0, orr, e, obOk, noObj] <;> exact plain_refs _)) (Hand.none (Hand.l1 (Hand.of rfl rfl) (Hand.l1 ⟨rfl, fun o ho => by simp [AV.refs, FV.refs] at ho; subst ho; rfl⟩ Hand.l0))) (fun o => by by_cases e : o = 0 <;> simp [mkSt, st0, St.upd, lk, lk0, orr, e, obOk, noObj] <;> exact plain_refs _) rfl rfl ?_
    all_goals refine awpOps_cons (op_as rfl (Conv.of rfl) rfl) ?_
    all_goals refine awpOps_nil ?_
    rw [map_any]
    refine awp_seq_to (s' := mkSt 35 [(0, .v l), (3, .v (OList.mk (((l.take k).foldl (allStep l) [[]]).map CList.mk) true)), (5, .box 0 (IsLens.whole Vote)), (9, .v l), (10, .v (l.length : Int)), (11, .v (k : Int)), (25, .v (!decide (l[k].chain ∈ (l.take k).foldl (allStep l) [[]]) && sure l l[k].chain))] [(0, .cell l[k])]) ?_ ?_
    · all_goals refine awp_region (id := 6) ?_
      all_goals refine awpOps_cons (op_mv rfl (Conv.of rfl) rfl) ?_
      all_goals refine awpOps_cons (op_not rfl rfl) ?_
      all_goals refine awpOps_cons (op_mv rfl (Conv.of rfl) rfl) ?_
      all_goals refine g_split (t := 20) rfl (fun h => ?_) (fun h => ?_)
      all_goals first | refine awpOps_cons (g_off rfl rfl rfl rfl rfl) ?_ | refine awpOps_cons (g_on rfl rfl rfl (op_mv rfl (Conv.of rfl) rfl)) ?_
      all_goals first | refine awpOps_cons (g_off rfl rfl rfl rfl rfl) ?_ | refine awpOps_cons (g_on rfl rfl rfl (op_fab f48_1 rfl rfl)) ?_
      all_goals first | refine awpOps_cons (g_off rfl rfl rfl rfl rfl) ?_ | refine awpOps_cons (g_on rfl rfl rfl (op_ld ty35 rfl rfl rfl)) ?_
      all_goals first | refine awpOps_cons (g_off rfl rfl rfl rfl rfl) ?_ | refine awpOps_cons (g_on rfl rfl rfl (op_call fb156 (.cons rfl (Conv.of rfl) (.cons rfl (Conv.of rfl) (.nil _))) (sure_ct _ _) (argOk rfl rfl (argOk rfl rfl argOk0)) rfl rfl)) ?_
      all_goals refine awpOps_cons (op_pick rfl rfl rfl rfl) ?_
      all_goals refine awpOps_nil ?_
      all_goals exact Le.mk rfl (tle rfl (rfl) rfl (tle rfl (rfl) rfl (tlb rfl rfl rfl (tle rfl (rfl) rfl (tle rfl (rfl) rfl (tle rfl (rfl) rfl (tle rfl (by simp_all) rfl tln))))))) (olk rfl (by exact obOk_cell) oln) noS
    refine awp_cond rfl (fun hb => ?_) (fun hb => ?_)
    · all_goals refine awp_region (id := 7) ?_
      all_goals refine awpOps_cons (op_mvl rfl rfl rfl rfl) ?_
      all_goals refine awpOps_cons (op_fab f48_1 rfl rfl) ?_
      all_goals refine awpOps_cons (op_ld ty35 rfl rfl rfl) ?_
      all_goals refine awpOps_cons (op_call fb68 (.cons rfl (Conv.of rfl) (.nil _)) (copied_ct _ (hv _ (List.getElem_mem hlt))) (argOk rfl rfl argOk0) rfl rfl) ?_
      all_goals refine awpOps_cons (op_bsl sl54_CListItm z35_CListItm (.cons rfl (Conv.of rfl) (.nil _)) rfl (by decide) rfl) ?_
      all_goals refine awpOps_cons (op_app sl54_CListItm z35_CListItm ul54 rfl rfl rfl (by (simp; omega)) (by (simp; omega)) rfl rfl) ?_
      all_goals refine awpOps_cons (op_asl rfl rfl rfl rfl) ?_
      all_goals refine awpOps_nil ?_
      all_goals refine awp_region (id := 8) ?_
      all_goals refine awpOps_cons (op_add rfl rfl rfl (by omega)) ?_
      all_goals refine awpOps_cons (op_mv rfl (Conv.of rfl) rfl) ?_
      all_goals refine awpOps_nil ?_
      repeat first | refine nx_seq ?_ | refine nx_block ?_
      exact ⟨n - 1, _, by omega, ⟨k + 1, by omega, rfl⟩, Le.mk rfl (tle rfl (rfl) rfl (tle rfl (by (rw [foldl_at _ _ hx]; simp [allStep, *])) rfl (tle rfl (rfl) rfl (tle rfl (rfl) rfl (tle rfl (rfl) rfl tln))))) oln noS⟩
    · refine awp_skip ?_
      all_goals refine awp_region (id := 8) ?_
      all_goals refine awpOps_cons (op_add rfl rfl rfl (by omega)) ?_
      all_goals refine awpOps_cons (op_mv rfl (Conv.of rfl) rfl) ?_
      all_goals refine awpOps_nil ?_
      repeat first | refine nx_seq ?_ | refine nx_block ?_
      exact ⟨n - 1, _, by omega, ⟨k + 1, by omega, rfl⟩, Le.mk rfl (tle rfl (rfl) rfl (tle rfl (by (rw [foldl_at _ _ hx]; simp [allStep, *])) rfl (tle rfl (rfl) rfl (tle rfl (rfl) rfl (tle rfl (rfl) rfl tln))))) oln noS⟩
  · refine awp_exit ?_
    repeat refine ex_seq ?_
    refine ex_block ?_
    have hk : l.length ≤ k := by simpa using h
    all_goals refine awp_seq (awp_region (id := 9) ?_)
    all_goals refine awpOps_cons (op_mvl rfl rfl rfl rfl) ?_
    all_goals refine awpOps_cons (op_call fb157 (.cons rfl (Conv.ol) (.nil _)) (clipC_ct ⟨((l.take k).foldl (allStep l) [[]]).map CList.mk, true⟩) (argOk rfl rfl argOk0) rfl rfl) ?_
    all_goals refine awpOps_cons (op_as rfl (Conv.of rfl) rfl) ?_
    all_goals refine awpOps_nil ?_
    refine awp_ret ?_
    repeat first | refine rt_seq ?_ | refine rt_block ?_
    refine finP (.v rfl (Conv.of rfl)) rfl ?_
    simp only [take_end hk]; rfl
theorem allOf_len {l : List Vote} (hl : l.length ≤ 100000) : (allOf l).length ≤ 100001 := by
  have := allStep_len l l [[]]
  simp at this; unfold allOf; omega
theorem tip_ct (l : List Vote) (hl : l.length ≤ 100000) (hv : ∀ v ∈ l, v.chain.length ≤ 1000000) : CtP Tryz.prog 75 [.v l] (.v (CList.mk (tipOf l))) := by
  have hall := allOf_len hl
  refine Ct.intro Tryz.func75 rfl rfl ?_
  all_goals refine awp_seq (awp_region (id := 0) ?_)
  all_goals refine awpOps_cons (op_as rfl (Conv.of rfl) rfl) ?_
  all_goals refine awpOps_nil ?_
  all_goals refine awp_seq (awp_region (id := 1) ?_)
  all_goals refine awpOps_cons (op_bsc sl35 z67 (.nil _) rfl (by decide) rfl) ?_
  all_goals refine awpOps_cons (op_as rfl (Conv.of rfl) rfl) ?_
  all_goals refine awpOps_nil ?_
  all_goals refine awp_seq (awp_seq (awp_region (id := 2) ?_))
  all_goals refine awpOps_cons (op_mv rfl (Conv.of rfl) rfl) ?_
  all_goals refine awpOps_cons (op_call fb118 (.cons rfl (Conv.of rfl) (.nil _)) (all_ct l hl hv) (argOk rfl rfl argOk0) rfl rfl) ?_
  all_goals refine awpOps_cons (op_len sl54_CListItm rfl rfl) ?_
  all_goals refine awpOps_cons (op_mv rfl (Conv.of rfl) rfl) ?_
  all_goals refine awpOps_nil ?_
  refine awp_block ?_
  refine awp_loop' (fun n s => ∃ (k : Nat), ∃ (hn : n + k = (allOf l).length), s = mkSt 22 [(3, .v (CList.mk (((allOf l).take k).foldl tipStep []))), (8, .v (CList.mk ((allOf l).map CList.mk))), (9, .v ((allOf l).length : Int)), (10, .v (k : Int))] []) ((allOf l).length) ⟨0, by omega, rfl⟩ (Le.mk rfl (tle rfl (by rfl) rfl (tle rfl (rfl) rfl (tle rfl (by simp) rfl (tle rfl (rfl) rfl tln)))) oln noS) ?_
  rintro n s ⟨k, hn, rfl⟩
  all_goals refine awp_seq (awp_region (id := 3) ?_)
  all_goals refine awpOps_cons (op_lss rfl rfl rfl) ?_
  all_goals refine awpOps_nil ?_
  refine awp_seq (awp_cond rfl (fun h => ?_) (fun h => ?_))
  · have hlt : k < (allOf l).length := by simpa using h
    have hx : (allOf l)[k]? = some (allOf l)[k] := List.getElem?_eq_getElem hlt
    have hx' : ((allOf l).map CList.mk)[(k : Int).toNat]? = some (CList.mk (allOf l)[k]) := by simp [hlt]
    refine awp_skip ?_
    refine awp_seq (awp_block ?_)
    all_goals refine awp_seq (awp_region (id := 4) ?_)
    all_goals refine awpOps_cons (op_ix sl54_CListItm rfl rfl rfl (by omega) hx') ?_
    all_goals refine awpOps_cons (op_ldr ty35_CListItm rfl rfl) ?_
    all_goals refine awpOps_cons (op_as rfl (Conv.of rfl) rfl) ?_
    all_goals refine awpOps_nil ?_
    all_goals refine awp_seq (awp_region (id := 5) ?_)
    all_goals refine awpOps_cons (op_mv rfl (Conv.of rfl) rfl) ?_
    all_goals refine awpOps_cons (op_len sl35 rfl rfl) ?_
    all_goals refine awpOps_cons (op_mv rfl (Conv.of rfl) rfl) ?_
    all_goals refine awpOps_cons (op_len sl35 rfl rfl) ?_
    all_goals refine awpOps_cons (op_gtr rfl rfl rfl) ?_
    all_goals refine awpOps_nil ?_
    refine awp_cond rfl (fun hb => ?_) (fun hb => ?_)
    · have hb' : (((allOf l).take k).foldl tipStep []).length < ((allOf l)[k]).length := by simp at hb; omega
      have hb'' := eq_true hb'
      all_goals refine awp_region (id := 6) ?_
      all_goals refine awpOps_cons (op_mv rfl (Conv.of rfl) rfl) ?_
      all_goals refine awpOps_cons (op_as rfl (Conv.of rfl) rfl) ?_
      all_goals refine awpOps_nil ?_
      all_goals refine awp_region (id := 7) ?_
      all_goals refine awpOps_cons (op_add rfl rfl rfl (by omega)) ?_
      all_goals refine awpOps_cons (op_mv rfl (Conv.of rfl) rfl) ?_
      all_goals refine awpOps_nil ?_
      repeat first | refine nx_seq ?_ | refine nx_block ?_
      exact ⟨n - 1, _, by omega, ⟨k + 1, by omega, rfl⟩, Le.mk rfl (tle rfl (by (rw [foldl_at _ _ hx]; simp [tipStep, hb''])) rfl (tle rfl (rfl) rfl (tle rfl (by rfl) rfl (tle rfl (rfl) rfl tln)))) oln noS⟩
    · have hb' : ¬ (((allOf l).take k).foldl tipStep []).length < ((allOf l)[k]).length := by simp at hb; omega
      have hb'' := eq_false hb'
      refine awp_skip ?_
      all_goals refine awp_region (id := 7) ?_
      all_goals refine awpOps_cons (op_add rfl rfl rfl (by omega)) ?_
      all_goals refine awpOps_cons (op_mv rfl (Conv.of rfl) rfl) ?_
      all_goals refine awpOps_nil ?_
      repeat first | refine nx_seq ?_ | refine nx_block ?_
      exact ⟨n - 1, _, by omega, ⟨k + 1, by omega, rfl⟩, Le.mk rfl (tle rfl (by (rw [foldl_at _ _ hx]; simp [tipStep, hb''])) rfl (tle rfl (rfl) rfl (tle rfl (by rfl) rfl (tle rfl (rfl) rfl tln)))) oln noS⟩
  · refine awp_exit ?_
    repeat refine ex_seq ?_
    refine ex_block ?_
    have hk : (allOf l).length ≤ k := by simpa using h
    all_goals refine awp_seq (awp_region (id := 8) ?_)
    all_goals refine awpOps_cons (op_mv rfl (Conv.of rfl) rfl) ?_
    all_goals refine awpOps_cons (op_as rfl (Conv.of rfl) rfl) ?_
    all_goals refine awpOps_nil ?_
    refine awp_ret ?_
    repeat first | refine rt_seq ?_ | refine rt_block ?_
    refine finP (.v rfl (Conv.of rfl)) rfl ?_
    simp only [take_end hk]; rfl
theorem final_ct (c : List Itm) (hc : ∀ x ∈ c, 0 ≤ x.epoch ∧ x.epoch ≤ 1000000) : CtP Tryz.prog 67 [.v c] (.v (finLen c)) := by
  have hep : ∀ (i : Nat) (hi : i < c.length), 0 ≤ c[i].epoch ∧ c[i].epoch ≤ 1000000 := fun i hi => hc _ (List.getElem_mem hi)
  refine Ct.intro Tryz.func67 rfl rfl ?_
  refine awp_bigL 0 rfl (fun hB => ?_)
  all_goals refine awp_seq (awp_region (id := 0) ?_)
  all_goals refine awpOps_cons (op_as rfl (Conv.of rfl) rfl) ?_
  all_goals refine awpOps_nil ?_
  all_goals refine awp_seq (awp_seq (awp_region (id := 1) ?_))
  all_goals refine awpOps_cons (op_mv rfl (Conv.of rfl) rfl) ?_
  all_goals refine awpOps_cons (op_len sl35 rfl rfl) ?_
  all_goals refine awpOps_cons (op_as rfl (Conv.of rfl) rfl) ?_
  all_goals refine awpOps_nil ?_
  refine awp_block ?_
  refine awp_loop' (fun n s => ∃ (k : Nat), ∃ (hn : n = k), ∃ (hk : k ≤ c.length), ∃ (hall : finLen c = finFrom c k), s = mkSt 42 [(0, .v c), (3, .v (k : Int))] []) (c.length) ⟨c.length, rfl, Nat.le_refl _, rfl, rfl⟩ (Le.mk rfl (tle rfl (rfl) rfl (tle rfl (by rfl) rfl tln)) oln noS) ?_
  rintro n s ⟨k, hn, hk, hall, rfl⟩
  all_goals refine awp_seq (awp_seq (awp_region (id := 2) ?_))
  all_goals refine awpOps_cons (op_mv rfl (Conv.of rfl) rfl) ?_
  all_goals refine awpOps_cons (op_gtr rfl rfl rfl) ?_
  all_goals refine awpOps_nil ?_
  refine awp_cond rfl (fun h => ?_) (fun h => ?_)
  · obtain ⟨m, rfl⟩ : ∃ m, k = m + 3 := ⟨k - 3, by simp at h; omega⟩
    have h1 : (((m + 3 : Nat) : Int) - 3).toNat = m := by omega
    have h2 : (((m + 3 : Nat) : Int) - 2).toNat = m + 1 := by omega
    have h3 : (((m + 3 : Nat) : Int) - 1).toNat = m + 2 := by omega
    have hx : c[(((m + 3 : Nat) : Int) - 3).toNat]? = some (c[m]'(by omega)) := by rw [h1]; exact List.getElem?_eq_getElem _
    have hy : c[(((m + 3 : Nat) : Int) - 2).toNat]? = some (c[m + 1]'(by omega)) := by rw [h2]; exact List.getElem?_eq_getElem _
    have hz : c[(((m + 3 : Nat) : Int) - 1).toNat]? = some (c[m + 2]'(by omega)) := by rw [h3]; exact List.getElem?_eq_getElem _
    have e1 := hep m (by omega)
    have e2 := hep (m + 1) (by omega)
    have e3 := hep (m + 2) (by omega)
    refine awp_skip ?_
    refine awp_seq (awp_block ?_)
    refine awp_seq_to (s' := mkSt 42 [(0, .v c), (3, .v ((m + 3 : Nat) : Int)), (39, .v (decide ((c[m]'(by omega)).epoch + 1 = (c[m + 1]'(by omega)).epoch) && decide ((c[m + 1]'(by omega)).epoch + 1 = (c[m + 2]'(by omega)).epoch)))] []) ?_ ?_
    · all_goals refine dr_start (id := 4) ?_
      all_goals refine dr_cons (op_mv rfl (Conv.of rfl) rfl) ?_
      all_goals refine dr_cons (op_mv rfl (Conv.of rfl) rfl) ?_
      all_goals refine dr_cons (op_sub rfl rfl rfl (by omega)) ?_
      all_goals refine dr_cons (op_ix sl35 rfl rfl rfl (by omega) hx) ?_
      all_goals refine dr_cons (op_far f67_0 rfl rfl) ?_
      all_goals refine dr_cons (op_ldr ty3 rfl rfl) ?_
      all_goals refine dr_cons (op_add rfl rfl rfl (by omega)) ?_
      all_goals refine dr_cons (op_mv rfl (Conv.of rfl) rfl) ?_
      all_goals refine dr_cons (op_mv rfl (Conv.of rfl) rfl) ?_
      all_goals refine dr_cons (op_sub rfl rfl rfl (by omega)) ?_
      all_goals refine dr_cons (op_ix sl35 rfl rfl rfl (by omega) hy) ?_
      all_goals refine dr_cons (op_far f67_0 rfl rfl) ?_
      all_goals refine dr_cons (op_ldr ty3 rfl rfl) ?_
      all_goals refine dr_cons (op_eql rfl rfl rfl) ?_
      all_goals refine dr_cons (op_mv rfl (Conv.of rfl) rfl) ?_
      all_goals refine dr_split (t := 24) rfl (fun h => ?_) (fun h => ?_)
      all_goals first | refine dr_cons (g_off rfl rfl rfl rfl rfl) ?_ | refine dr_cons (g_on rfl rfl rfl (op_mv rfl (Conv.of rfl) rfl)) ?_
      all_goals first | refine dr_cons (g_off rfl rfl rfl rfl rfl) ?_ | refine dr_cons (g_on rfl rfl rfl (op_mv rfl (Conv.of rfl) rfl)) ?_
      all_goals first | refine dr_cons (g_off rfl rfl rfl rfl rfl) ?_ | refine dr_cons (g_on rfl rfl rfl (op_sub rfl rfl rfl (by omega))) ?_
      all_goals first | refine dr_cons (g_off rfl rfl rfl rfl rfl) ?_ | refine dr_cons (g_on rfl rfl rfl (op_ix sl35 rfl rfl rfl (by omega) hy)) ?_
      all_goals first | refine dr_cons (g_off rfl rfl rfl rfl rfl) ?_ | refine dr_cons (g_on rfl rfl rfl (op_far f67_0 rfl rfl)) ?_
      all_goals first | refine dr_cons (g_off rfl rfl rfl rfl rfl) ?_ | refine dr_cons (g_on rfl rfl rfl (op_ldr ty3 rfl rfl)) ?_
      all_goals first | refine dr_cons (g_off rfl rfl rfl rfl rfl) ?_ | refine dr_cons (g_on rfl rfl rfl (op_add rfl rfl rfl (by omega))) ?_
      all_goals first | refine dr_cons (g_off rfl rfl rfl rfl rfl) ?_ | refine dr_cons (g_on rfl rfl rfl (op_mv rfl (Conv.of rfl) rfl)) ?_
      all_goals first | refine dr_cons (g_off rfl rfl rfl rfl rfl) ?_ | refine dr_cons (g_on rfl rfl rfl (op_mv rfl (Conv.of rfl) rfl)) ?_
      all_goals first | refine dr_cons (g_off rfl rfl rfl rfl rfl) ?_ | refine dr_cons (g_on rfl rfl rfl (op_sub rfl rfl rfl (by omega))) ?_
      all_goals first | refine dr_cons (g_off rfl rfl rfl rfl rfl) ?_ | refine dr_cons (g_on rfl rfl rfl (op_ix sl35 rfl rfl rfl (by omega) hz)) ?_
      all_goals first | refine dr_cons (g_off rfl rfl rfl rfl rfl) ?_ | refine dr_cons (g_on rfl rfl rfl (op_far f67_0 rfl rfl)) ?_
      all_goals first | refine dr_cons (g_off rfl rfl rfl rfl rfl) ?_ | refine dr_cons (g_on rfl rfl rfl (op_ldr ty3 rfl rfl)) ?_
      all_goals first | refine dr_cons (g_off rfl rfl rfl rfl rfl) ?_ | refine dr_cons (g_on rfl rfl rfl (op_eql rfl rfl rfl)) ?_
      all_goals refine dr_cons (op_pick rfl rfl rfl rfl) ?_
      all_goals refine dr_nil mixed rfl ?_
      all_goals exact Le.mk rfl (tle rfl (rfl) rfl (tle rfl (rfl) rfl (tle rfl (by (clear hall; simp_all; try (rw [Bool.eq_iff_iff]; simp))) rfl tln))) oln noS
    have hstep : finFrom c (m + 3) = if (decide ((c[m]'(by omega)).epoch + 1 = (c[m + 1]'(by omega)).epoch) && decide ((c[m + 1]'(by omega)).epoch + 1 = (c[m + 2]'(by omega)).epoch)) then ((m + 2 : Nat) : Int) else finFrom c (m + 2) := by
      have g1 : c[m]? = some (c[m]'(by omega)) := List.getElem?_eq_getElem _
      have g2 : c[m + 1]? = some (c[m + 1]'(by omega)) := List.getElem?_eq_getElem _
      have g3 : c[m + 2]? = some (c[m + 2]'(by omega)) := List.getElem?_eq_getElem _
      show (if _ then _ else _) = _
      simp only [show m + 2 - 2 = m by omega, show m + 2 - 1 = m + 1 by omega, g1, g2, g3, show (2 < m + 2 + 1) = True by simp, decide_true, Bool.true_and]
    refine awp_cond rfl (fun hb => ?_) (fun hb => ?_)
    · all_goals refine awp_seq (awp_region (id := 5) ?_)
      all_goals refine awpOps_cons (op_mv rfl (Conv.of rfl) rfl) ?_
      all_goals refine awpOps_cons (op_sub rfl rfl rfl (by omega)) ?_
      all_goals refine awpOps_cons (op_as rfl (Conv.of rfl) rfl) ?_
      all_goals refine awpOps_nil ?_
      refine awp_ret ?_
      repeat first | refine rt_seq ?_ | refine rt_block ?_
      refine finP (.v rfl (Conv.of rfl)) rfl ?_
      show AV.v _ = _
      rw [hall, hstep, hb, if_pos rfl, show ((m + 3 : Nat) : Int) - 1 = ((m + 2 : Nat) : Int) by omega]
    · refine awp_skip ?_
      all_goals refine awp_region (id := 3) ?_
      all_goals refine awpOps_cons (op_mv rfl (Conv.of rfl) rfl) ?_
      all_goals refine awpOps_cons (op_sub rfl rfl rfl (by omega)) ?_
      all_goals refine awpOps_cons (op_as rfl (Conv.of rfl) rfl) ?_
      all_goals refine awpOps_nil ?_
      repeat first | refine nx_seq ?_ | refine nx_block ?_
      exact ⟨m + 2, _, by omega, ⟨m + 2, rfl, by omega, by rw [hall, hstep, hb]; rfl, rfl⟩, Le.mk rfl (tle rfl (rfl) rfl (tle rfl (by (show AV.v _ = AV.v _; congr 1; omega)) rfl tln)) oln noS⟩
  · refine awp_exit ?_
    repeat refine ex_seq ?_
    refine ex_block ?_
    have hk2 : k ≤ 2 := by simp at h; omega
    all_goals refine awp_seq (awp_region (id := 6) ?_)
    all_goals refine awpOps_cons (op_as rfl (Conv.of rfl) rfl) ?_
    all_goals refine awpOps_nil ?_
    refine awp_ret ?_
    repeat first | refine rt_seq ?_ | refine rt_block ?_
    refine finP (.v rfl (Conv.of rfl)) rfl ?_
    show AV.v (0 : Int) = _
    rw [hall]
    match k, hk2 with
    | 0, _ => rfl
    | 1, _ => rfl
    | 2, _ => rfl
theorem shown_ct (l : List Vote) (hl : l.length ≤ 100000) (hv : ∀ v ∈ l, v.chain.length ≤ 1000000) (he : ∀ v ∈ l, ∀ x ∈ v.chain, 0 ≤ x.epoch ∧ x.epoch ≤ 1000000) : CtP Tryz.prog 66 [.v l] (.v (CList.mk (shownOf l))) := by
  have hall := allOf_len hl
  have hmem := allOf_mem l
  refine Ct.intro Tryz.func66 rfl rfl ?_
  all_goals refine awp_seq (awp_region (id := 0) ?_)
  all_goals refine awpOps_cons (op_as rfl (Conv.of rfl) rfl) ?_
  all_goals refine awpOps_nil ?_
  all_goals refine awp_seq (awp_region (id := 1) ?_)
  all_goals refine awpOps_cons (op_bsc sl35 z67 (.nil _) rfl (by decide) rfl) ?_
  all_goals refine awpOps_cons (op_as rfl (Conv.of rfl) rfl) ?_
  all_goals refine awpOps_nil ?_
  all_goals refine awp_seq (awp_seq (awp_region (id := 2) ?_))
  all_goals refine awpOps_cons (op_mv rfl (Conv.of rfl) rfl) ?_
  all_goals refine awpOps_cons (op_call fb118 (.cons rfl (Conv.of rfl) (.nil _)) (all_ct l hl hv) (argOk rfl rfl argOk0) rfl rfl) ?_
  all_goals refine awpOps_cons (op_len sl54_CListItm rfl rfl) ?_
  all_goals refine awpOps_cons (op_mv rfl (Conv.of rfl) rfl) ?_
  all_goals refine awpOps_nil ?_
  refine awp_block ?_
  refine awp_loop' (fun n s => ∃ (k : Nat), ∃ (hn : n + k = (allOf l).length), s = mkSt 22 [(3, .v (CList.mk (((allOf l).take k).foldl shownStep []))), (8, .v (CList.mk ((allOf l).map CList.mk))), (9, .v ((allOf l).length : Int)), (10, .v (k : Int))] []) ((allOf l).length) ⟨0, by omega, rfl⟩ (Le.mk rfl (tle rfl (by rfl) rfl (tle rfl (rfl) rfl (tle rfl (by simp) rfl (tle rfl (rfl) rfl tln)))) oln noS) ?_
  rintro n s ⟨k, hn, rfl⟩
  all_goals refine awp_seq (awp_region (id := 3) ?_)
  all_goals refine awpOps_cons (op_lss rfl rfl rfl) ?_
  all_goals refine awpOps_nil ?_
  refine awp_seq (awp_cond rfl (fun h => ?_) (fun h => ?_))
  · have hlt : k < (allOf l).length := by simpa using h
    have hx : (allOf l)[k]? = some (allOf l)[k] := List.getElem?_eq_getElem hlt
    have hx' : ((allOf l).map CList.mk)[(k : Int).toNat]? = some (CList.mk (allOf l)[k]) := by simp [hlt]
    have ho : ∀ x ∈ ((allOf l).take k).foldl shownStep [], 0 ≤ x.epoch ∧ x.epoch ≤ 1000000 := by
      rcases shown_mem (((allOf l).take k)) [] with e | e
      · rw [e]; intro x hx; cases hx
      · rcases hmem _ (List.mem_of_mem_take e) with e | ⟨v, hv1, hv2⟩
        · rw [e]; intro x hx; cases hx
        · rw [← hv2]; exact he v hv1
    have hc : ∀ x ∈ (allOf l)[k], 0 ≤ x.epoch ∧ x.epoch ≤ 1000000 := by
      rcases hmem _ (List.getElem_mem hlt) with e | ⟨v, hv1, hv2⟩
      · rw [e]; intro x hx; cases hx
      · rw [← hv2]; exact he v hv1
    refine awp_skip ?_
    refine awp_seq (awp_block ?_)
    all_goals refine awp_seq (awp_region (id := 4) ?_)
    all_goals refine awpOps_cons (op_ix sl54_CListItm rfl rfl rfl (by omega) hx') ?_
    all_goals refine awpOps_cons (op_ldr ty35_CListItm rfl rfl) ?_
    all_goals refine awpOps_cons (op_as rfl (Conv.of rfl) rfl) ?_
    all_goals refine awpOps_nil ?_
    all_goals refine awp_seq (awp_region (id := 5) ?_)
    all_goals refine awpOps_cons (op_mv rfl (Conv.of rfl) rfl) ?_
    all_goals refine awpOps_cons (op_call fb67 (.cons rfl (Conv.cl) (.nil _)) (final_ct _ hc) (argOk rfl rfl argOk0) rfl rfl) ?_
    all_goals refine awpOps_cons (op_mv rfl (Conv.of rfl) rfl) ?_
    all_goals refine awpOps_cons (op_call fb67 (.cons rfl (Conv.cl) (.nil _)) (final_ct _ ho) (argOk rfl rfl argOk0) rfl rfl) ?_
    all_goals refine awpOps_cons (op_gtr rfl rfl rfl) ?_
    all_goals refine awpOps_nil ?_
    refine awp_cond rfl (fun hb => ?_) (fun hb => ?_)
    · have hb' : finLen (((allOf l).take k).foldl shownStep []) < finLen ((allOf l)[k]) := by simpa using hb
      have hb'' := eq_true hb'
      all_goals refine awp_region (id := 6) ?_
      all_goals refine awpOps_cons (op_mv rfl (Conv.of rfl) rfl) ?_
      all_goals refine awpOps_cons (op_as rfl (Conv.of rfl) rfl) ?_
      all_goals refine awpOps_nil ?_
      all_goals refine awp_region (id := 7) ?_
      all_goals refine awpOps_cons (op_add rfl rfl rfl (by omega)) ?_
      all_goals refine awpOps_cons (op_mv rfl (Conv.of rfl) rfl) ?_
      all_goals refine awpOps_nil ?_
      repeat first | refine nx_seq ?_ | refine nx_block ?_
      exact ⟨n - 1, _, by omega, ⟨k + 1, by omega, rfl⟩, Le.mk rfl (tle rfl (by (rw [foldl_at _ _ hx]; simp [shownStep, hb''])) rfl (tle rfl (rfl) rfl (tle rfl (by rfl) rfl (tle rfl (rfl) rfl tln)))) oln noS⟩
    · have hb' : ¬ finLen (((allOf l).take k).foldl shownStep []) < finLen ((allOf l)[k]) := by simpa using hb
      have hb'' := eq_false hb'
      refine awp_skip ?_
      all_goals refine awp_region (id := 7) ?_
      all_goals refine awpOps_cons (op_add rfl rfl rfl (by omega)) ?_
      all_goals refine awpOps_cons (op_mv rfl (Conv.of rfl) rfl) ?_
      all_goals refine awpOps_nil ?_
      repeat first | refine nx_seq ?_ | refine nx_block ?_
      exact ⟨n - 1, _, by omega, ⟨k + 1, by omega, rfl⟩, Le.mk rfl (tle rfl (by (rw [foldl_at _ _ hx]; simp [shownStep, hb''])) rfl (tle rfl (rfl) rfl (tle rfl (by rfl) rfl (tle rfl (rfl) rfl tln)))) oln noS⟩
  · refine awp_exit ?_
    repeat refine ex_seq ?_
    refine ex_block ?_
    have hk : (allOf l).length ≤ k := by simpa using h
    all_goals refine awp_seq (awp_region (id := 8) ?_)
    all_goals refine awpOps_cons (op_mv rfl (Conv.of rfl) rfl) ?_
    all_goals refine awpOps_cons (op_as rfl (Conv.of rfl) rfl) ?_
    all_goals refine awpOps_nil ?_
    refine awp_ret ?_
    repeat first | refine rt_seq ?_ | refine rt_block ?_
    refine finP (.v rfl (Conv.of rfl)) rfl ?_
    simp only [take_end hk]; rfl
theorem vfinal_ct (l : List Vote) (hl : l.length ≤ 100000) (hv : ∀ v ∈ l, v.chain.length ≤ 1000000) (he : ∀ v ∈ l, ∀ x ∈ v.chain, 0 ≤ x.epoch ∧ x.epoch ≤ 1000000) : CtP Tryz.prog 60 [.v l] (.v (CList.mk (finalOf l))) := by
  have hle := finLen_le (shownOf l)
  have hs : (shownOf l).length ≤ 1000000 ∧ ∀ x ∈ shownOf l, 0 ≤ x.epoch ∧ x.epoch ≤ 1000000 := by
    have : shownOf l = [] ∨ ∃ v ∈ l, v.chain = shownOf l := by
      rcases shown_mem (allOf l) [] with e | e
      · exact .inl e
      · exact allOf_mem l _ e
    rcases this with e | ⟨v, h1, h2⟩
    · rw [e]; exact ⟨by simp, fun x hx => by cases hx⟩
    · rw [← h2]; exact ⟨hv v h1, he v h1⟩
  refine Ct.intro Tryz.func60 rfl rfl ?_
  all_goals refine awp_seq (awp_region (id := 0) ?_)
  all_goals refine awpOps_cons (op_as rfl (Conv.of rfl) rfl) ?_
  all_goals refine awpOps_nil ?_
  all_goals refine awp_seq (awp_region (id := 1) ?_)
  all_goals refine awpOps_cons (op_mv rfl (Conv.of rfl) rfl) ?_
  all_goals refine awpOps_cons (op_call fb66 (.cons rfl (Conv.of rfl) (.nil _)) (shown_ct l hl hv he) (argOk rfl rfl argOk0) rfl rfl) ?_
  all_goals refine awpOps_cons (op_as rfl (Conv.of rfl) rfl) ?_
  all_goals refine awpOps_nil ?_
  all_goals refine awp_seq (awp_region (id := 2) ?_)
  all_goals refine awpOps_cons (op_mv rfl (Conv.of rfl) rfl) ?_
  all_goals refine awpOps_cons (op_mv rfl (Conv.of rfl) rfl) ?_
  all_goals refine awpOps_cons (op_call fb67 (.cons rfl (Conv.cl) (.nil _)) (final_ct _ hs.2) (argOk rfl rfl argOk0) rfl rfl) ?_
  all_goals refine awpOps_cons (op_slh sl35 rfl rfl rfl hle) ?_
  all_goals refine awpOps_cons (op_call fb68 (.cons rfl (Conv.of rfl) (.nil _)) (copied_ct _ (by simp; omega)) (argOk rfl rfl argOk0) rfl rfl) ?_
  all_goals refine awpOps_cons (op_as rfl (Conv.of rfl) rfl) ?_
  all_goals refine awpOps_nil ?_
  refine awp_ret ?_
  repeat first | refine rt_seq ?_ | refine rt_block ?_
  exact finP (.v rfl (Conv.of rfl)) rfl rfl
end Go.Proofs.YtompnmkpgffhkaaGreat

/- Nodes. -/
set_option linter.unusedVariables false
set_option linter.unusedSimpArgs false
namespace Go.Proofs.YtompnmkpgffhkaaGreat
open Go Go.Wt
theorem lateFn_ct (v : Vote) (hv : 0 < v.chain.length) (hO : Nat → Wt.Obj) (n : Nod) (ho : hO 0 = .cell n) (hf : hO 9 = .free) (hH : ∀ o, obOk (pH hO) (hO o)) :
    Ct Tryz.prog 111 [.v v, .box 0 (IsLens.whole Nod)] hO (fun r1 h1 => r1 = .v (late n v) ∧ h1 = hO) := by
  refine Ct.intro Tryz.func111 rfl rfl ?_
  all_goals refine awp_seq (awp_region (id := 0) ?_)
  all_goals refine awpOps_cons (op_box (o := 9) ty48 rfl (Conv.of rfl) hf rfl) ?_
  all_goals refine awpOps_cons (op_as rfl (Conv.of rfl) rfl) ?_
  all_goals refine awpOps_nil ?_
  all_goals refine awp_seq (dr_start (id := 1) ?_)
  all_goals refine dr_cons (op_fab f48_0 rfl rfl) ?_
  all_goals refine dr_cons (op_ld ty3 rfl rfl rfl) ?_
  all_goals refine dr_cons (op_fab f39_0 rfl rfl) ?_
  all_goals refine dr_cons (op_ld ty3 rfl ho rfl) ?_
  all_goals refine dr_cons (op_eql rfl rfl rfl) ?_
  all_goals refine dr_cons (op_mv rfl (Conv.of rfl) rfl) ?_
  all_goals refine dr_split (t := 9) rfl (fun h => ?_) (fun h => ?_)
  all_goals first | refine dr_cons (g_off rfl rfl rfl rfl rfl) ?_ | refine dr_cons (g_on rfl rfl rfl (op_ld ty48 rfl rfl rfl)) ?_
  all_goals first | refine dr_cons (g_off rfl rfl rfl rfl rfl) ?_ | refine dr_cons (g_on rfl rfl rfl (op_call fb112 (.cons rfl (Conv.of rfl) (.nil _)) (last_ct _ hv) (argOk rfl rfl argOk0) rfl rfl)) ?_
  all_goals first | refine dr_cons (g_off rfl rfl rfl rfl rfl) ?_ | refine dr_cons (g_on rfl rfl rfl (op_fab f39_2 rfl rfl)) ?_
  all_goals first | refine dr_cons (g_off rfl rfl rfl rfl rfl) ?_ | refine dr_cons (g_on rfl rfl rfl (op_ld ty3 rfl ho rfl)) ?_
  all_goals first | refine dr_cons (g_off rfl rfl rfl rfl rfl) ?_ | refine dr_cons (g_on rfl rfl rfl (op_gtr rfl rfl rfl)) ?_
  all_goals refine dr_cons (op_pick rfl rfl rfl rfl) ?_
  all_goals refine dr_cons (op_as rfl (Conv.of rfl) rfl) ?_
  all_goals refine dr_nil mixed rfl ?_
  all_goals refine awp_ret ?_
  all_goals refine finF (.v rfl (Conv.of rfl)) rfl ?_ (by intro o ho; by_cases e : o = 9 <;> first | (exfalso; subst e; rw [hf] at ho; exact absurd ho (by decide)) | simp only [st0, St.upd, lk, orr, if_neg e]) hH
  all_goals (simp_all [FV.av, late])
theorem nodeOk_ct (n : Nod) : CtP Tryz.prog 56 [.v n] (.v (nodeOk n)) := by
  refine Ct.intro Tryz.func56 rfl rfl ?_
  all_goals refine awp_seq (awp_region (id := 0) ?_)
  all_goals refine awpOps_cons (op_box (o := 0) ty39 rfl (Conv.of rfl) rfl rfl) ?_
  all_goals refine awpOps_cons (op_as rfl (Conv.of rfl) rfl) ?_
  all_goals refine awpOps_nil ?_
  refine awp_seq (awp_seq_to (s' := mkSt 38 [(1, .box 0 (IsLens.whole Nod)), (32, .v (!nodeOk0 n))] [(0, .cell n)]) ?_ ?_)
  · all_goals refine awp_region (id := 1) ?_
    all_goals refine awpOps_cons (op_fab f39_0 rfl rfl) ?_
    all_goals refine awpOps_cons (op_ld ty3 rfl rfl rfl) ?_
    all_goals refine awpOps_cons (op_call fb110 (.cons rfl (Conv.of rfl) (.nil _)) (nodeIdOk_ct _) (argOk rfl rfl argOk0) rfl rfl) ?_
    all_goals refine awpOps_cons (op_not rfl rfl) ?_
    all_goals refine awpOps_cons (op_mv rfl (Conv.of rfl) rfl) ?_
    all_goals refine g_split (t := 7) rfl (fun h => ?_) (fun h => ?_)
    all_goals first | refine awpOps_cons (g_off rfl rfl rfl rfl rfl) ?_ | refine awpOps_cons (g_on rfl rfl rfl (op_fab f39_1 rfl rfl)) ?_
    all_goals first | refine awpOps_cons (g_off rfl rfl rfl rfl rfl) ?_ | refine awpOps_cons (g_on rfl rfl rfl (op_ld ty3 rfl rfl rfl)) ?_
    all_goals first | refine awpOps_cons (g_off rfl rfl rfl rfl rfl) ?_ | refine awpOps_cons (g_on rfl rfl rfl (op_call fb54 (.cons rfl (Conv.of rfl) (.cons rfl (Conv.of rfl) (.cons rfl (Conv.of rfl) (.nil _)))) (within_ct _ _ _) (argOk rfl rfl (argOk rfl rfl (argOk rfl rfl argOk0))) rfl rfl)) ?_
    all_goals first | refine awpOps_cons (g_off rfl rfl rfl rfl rfl) ?_ | refine awpOps_cons (g_on rfl rfl rfl (op_not rfl rfl)) ?_
    all_goals refine awpOps_cons (op_pick rfl rfl rfl rfl) ?_
    all_goals refine awpOps_cons (op_mv rfl (Conv.of rfl) rfl) ?_
    all_goals first | refine g_lit (t := 13) (b := true) rfl ?_ | refine g_split (t := 13) rfl (fun h => ?_) (fun h => ?_)
    all_goals first | refine awpOps_cons (g_off rfl rfl rfl rfl rfl) ?_ | refine awpOps_cons (g_on rfl rfl rfl (op_fab f39_2 rfl rfl)) ?_
    all_goals first | refine awpOps_cons (g_off rfl rfl rfl rfl rfl) ?_ | refine awpOps_cons (g_on rfl rfl rfl (op_ld ty3 rfl rfl rfl)) ?_
    all_goals first | refine awpOps_cons (g_off rfl rfl rfl rfl rfl) ?_ | refine awpOps_cons (g_on rfl rfl rfl (op_fab f39_1 rfl rfl)) ?_
    all_goals first | refine awpOps_cons (g_off rfl rfl rfl rfl rfl) ?_ | refine awpOps_cons (g_on rfl rfl rfl (op_ld ty3 rfl rfl rfl)) ?_
    all_goals first | refine awpOps_cons (g_off rfl rfl rfl rfl rfl) ?_ | refine awpOps_cons (g_on rfl rfl rfl (op_call fb54 (.cons rfl (Conv.of rfl) (.cons rfl (Conv.of rfl) (.cons rfl (Conv.of rfl) (.nil _)))) (within_ct _ _ _) (argOk rfl rfl (argOk rfl rfl (argOk rfl rfl argOk0))) rfl rfl)) ?_
    all_goals first | refine awpOps_cons (g_off rfl rfl rfl rfl rfl) ?_ | refine awpOps_cons (g_on rfl rfl rfl (op_not rfl rfl)) ?_
    all_goals refine awpOps_cons (op_pick rfl rfl rfl rfl) ?_
    all_goals refine awpOps_cons (op_mv rfl (Conv.of rfl) rfl) ?_
    all_goals first | refine g_lit (t := 21) (b := true) rfl ?_ | refine g_split (t := 21) rfl (fun h => ?_) (fun h => ?_)
    all_goals first | refine awpOps_cons (g_off rfl rfl rfl rfl rfl) ?_ | refine awpOps_cons (g_on rfl rfl rfl (op_fab f39_3 rfl rfl)) ?_
    all_goals first | refine awpOps_cons (g_off rfl rfl rfl rfl rfl) ?_ | refine awpOps_cons (g_on rfl rfl rfl (op_ld ty27 rfl rfl rfl)) ?_
    all_goals first | refine awpOps_cons (g_off rfl rfl rfl rfl rfl) ?_ | refine awpOps_cons (g_on rfl rfl rfl (op_len sl27 rfl rfl)) ?_
    all_goals first | refine awpOps_cons (g_off rfl rfl rfl rfl rfl) ?_ | refine awpOps_cons (g_on rfl rfl rfl (op_gtr rfl rfl rfl)) ?_
    all_goals refine awpOps_cons (op_pick rfl rfl rfl rfl) ?_
    all_goals refine awpOps_cons (op_mv rfl (Conv.of rfl) rfl) ?_
    all_goals first | refine g_lit (t := 27) (b := true) rfl ?_ | refine g_split (t := 27) rfl (fun h => ?_) (fun h => ?_)
    all_goals first | refine awpOps_cons (g_off rfl rfl rfl rfl rfl) ?_ | refine awpOps_cons (g_on rfl rfl rfl (op_fab f39_3 rfl rfl)) ?_
    all_goals first | refine awpOps_cons (g_off rfl rfl rfl rfl rfl) ?_ | refine awpOps_cons (g_on rfl rfl rfl (op_ld ty27 rfl rfl rfl)) ?_
    all_goals first | refine awpOps_cons (g_off rfl rfl rfl rfl rfl) ?_ | refine awpOps_cons (g_on rfl rfl rfl (op_call fb55 (.cons rfl (Conv.of rfl) (.nil _)) (votesOk_ct _) (argOk rfl rfl argOk0) rfl rfl)) ?_
    all_goals first | refine awpOps_cons (g_off rfl rfl rfl rfl rfl) ?_ | refine awpOps_cons (g_on rfl rfl rfl (op_not rfl rfl)) ?_
    all_goals refine awpOps_cons (op_pick rfl rfl rfl rfl) ?_
    all_goals refine awpOps_nil ?_
    all_goals exact Le.mk rfl (tlb rfl rfl rfl (tle rfl (by (simp_all [nodeOk0] <;> omega)) rfl tln)) (olk rfl (by exact obOk_cell) oln) noS
  refine awp_cond rfl (fun h => ?_) (fun h => ?_)
  · all_goals refine awp_seq (awp_region (id := 2) ?_)
    all_goals refine awpOps_cons (op_as rfl (Conv.of rfl) rfl) ?_
    all_goals refine awpOps_nil ?_
    refine awp_ret ?_
    repeat first | refine rt_seq ?_ | refine rt_block ?_
    refine finP (.v rfl (Conv.of rfl)) rfl ?_
    show AV.v false = _
    simp [nodeOk, not_t h]
  · refine awp_skip ?_
    have h0 := not_f h
    have hvo : votesOk n.seen = true := by simp only [nodeOk0, Bool.and_eq_true] at h0; exact h0.2
    all_goals refine awp_seq (awp_region (id := 3) ?_)
    all_goals refine awpOps_cons (op_fab f39_3 rfl rfl) ?_
    all_goals refine awpOps_cons (op_ld ty27 rfl rfl rfl) ?_
    all_goals refine awpOps_cons (op_mf (f := 111) .nil (.cons (r := .box 0 (IsLens.whole Nod)) rfl (Conv.of rfl) .nil) rfl) ?_
    all_goals refine awpOps_callH rfl (fb57) (.cons rfl (Conv.of rfl) (.cons rfl (Conv.of rfl) (.nil _))) rfl (containsV_ct _ _ [] [.box 0 (IsLens.whole Nod)] _ (late n) (fb111) (fun x hx => lateFn_ct x (voteOk_pos (votesOk_mem hvo x hx)) _ n rfl rfl (fun o => by by_cases e : o = 0 <;> simp [mkSt, st0, St.upd, lk, lk0, orr, e, obOk, noObj] <;> exact plain_refs _)) (by intro z hz; simp [avs, FV.av] at hz; subst hz; exact ⟨rfl, fun o ho => by simp [AV.refs] at ho; subst ho; rfl⟩) (fun o => by by_cases e : o = 0 <;> simp [mkSt, st0, St.upd, lk, lk0, orr, e, obOk, noObj] <;> exact plain_refs _)) (Hand.none (Hand.l1 (Hand.of rfl rfl) (Hand.l1 ⟨rfl, fun o ho => by simp [AV.refs, FV.refs] at ho; subst ho; rfl⟩ Hand.l0))) (fun o => by by_cases e : o = 0 <;> simp [mkSt, st0, St.upd, lk, lk0, orr, e, obOk, noObj] <;> exact plain_refs _) rfl rfl ?_
    all_goals refine awpOps_cons (op_not rfl rfl) ?_
    all_goals refine awpOps_cons (op_as rfl (Conv.of rfl) rfl) ?_
    all_goals refine awpOps_nil ?_
    refine awp_ret ?_
    repeat first | refine rt_seq ?_ | refine rt_block ?_
    refine finP (.v rfl (Conv.of rfl)) rfl ?_
    show AV.v _ = _
    rw [nodeOk, h0, Bool.true_and]
theorem nodeCopied_ct (n : Nod) (hn : Gd n.seen) : CtP Tryz.prog 104 [.v n] (.v n) := by
  refine Ct.intro Tryz.func104 rfl rfl ?_
  all_goals refine awp_seq (awp_region (id := 0) ?_)
  all_goals refine awpOps_cons (op_box (o := 0) ty39 rfl (Conv.of rfl) rfl rfl) ?_
  all_goals refine awpOps_cons (op_alloc (o := 1) z39 rfl rfl) ?_
  all_goals refine awpOps_nil ?_
  all_goals refine awp_seq (awp_region (id := 1) ?_)
  all_goals refine awpOps_cons (op_fab f39_3 rfl rfl) ?_
  all_goals refine awpOps_cons (op_ld ty27 rfl rfl rfl) ?_
  all_goals refine awpOps_cons (op_call fb103 (.cons rfl (Conv.of rfl) (.nil _)) (votesCopied_ct _ hn.l' hn.v) (argOk rfl rfl argOk0) rfl rfl) ?_
  all_goals refine awpOps_cons (op_fab f39_3 rfl rfl) ?_
  all_goals refine awpOps_cons (op_st ty27 rfl rfl (Conv.ol) rfl) ?_
  all_goals refine awpOps_nil ?_
  all_goals refine awp_seq (awp_region (id := 2) ?_)
  all_goals refine awpOps_cons (op_ld ty39 rfl rfl rfl) ?_
  all_goals refine awpOps_cons (op_st ty39 rfl rfl (Conv.of rfl) rfl) ?_
  all_goals refine awpOps_nil ?_
  refine awp_ret ?_
  repeat first | refine rt_seq ?_ | refine rt_block ?_
  exact finP (.rc ty39 rfl rfl) rfl rfl
theorem enter_ct (n : Nod) (e : Int) (hn : 0 ≤ n.epoch ∧ n.epoch ≤ 30) : CtP Tryz.prog 142 [.v n, .v e] (.v (enterF n e)) := by
  refine Ct.intro Tryz.func142 rfl rfl ?_
  all_goals refine awp_seq (awp_region (id := 0) ?_)
  all_goals refine awpOps_cons (op_box (o := 0) ty39 rfl (Conv.of rfl) rfl rfl) ?_
  all_goals refine awpOps_cons (op_alloc (o := 1) z39 rfl rfl) ?_
  all_goals refine awpOps_nil ?_
  all_goals refine awp_seq (awp_seq (awp_region (id := 1) ?_))
  all_goals refine awpOps_cons (op_mv rfl (Conv.of rfl) rfl) ?_
  all_goals refine awpOps_cons (op_fab f39_1 rfl rfl) ?_
  all_goals refine awpOps_cons (op_ld ty3 rfl rfl rfl) ?_
  all_goals refine awpOps_cons (op_add rfl rfl rfl (by omega)) ?_
  all_goals refine awpOps_cons (op_call fb54 (.cons rfl (Conv.of rfl) (.cons rfl (Conv.of rfl) (.cons rfl (Conv.of rfl) (.nil _)))) (within_ct _ _ _) (argOk rfl rfl (argOk rfl rfl (argOk rfl rfl argOk0))) rfl rfl) ?_
  all_goals refine awpOps_nil ?_
  refine awp_cond rfl (fun h => ?_) (fun h => ?_)
  · all_goals refine awp_region (id := 2) ?_
    all_goals refine awpOps_cons (op_mv rfl (Conv.of rfl) rfl) ?_
    all_goals refine awpOps_cons (op_fab f39_1 rfl rfl) ?_
    all_goals refine awpOps_cons (op_st ty3 rfl rfl (Conv.of rfl) rfl) ?_
    all_goals refine awpOps_nil ?_
    all_goals refine awp_seq (awp_region (id := 3) ?_)
    all_goals refine awpOps_cons (op_ld ty39 rfl rfl rfl) ?_
    all_goals refine awpOps_cons (op_st ty39 rfl rfl (Conv.of rfl) rfl) ?_
    all_goals refine awpOps_nil ?_
    refine awp_ret ?_
    repeat first | refine rt_seq ?_ | refine rt_block ?_
    refine finP (.rc ty39 rfl rfl) rfl ?_
    show AV.v _ = _
    simp [enterF, h]
  · refine awp_skip ?_
    all_goals refine awp_seq (awp_region (id := 3) ?_)
    all_goals refine awpOps_cons (op_ld ty39 rfl rfl rfl) ?_
    all_goals refine awpOps_cons (op_st ty39 rfl rfl (Conv.of rfl) rfl) ?_
    all_goals refine awpOps_nil ?_
    refine awp_ret ?_
    repeat first | refine rt_seq ?_ | refine rt_block ?_
    refine finP (.rc ty39 rfl rfl) rfl ?_
    show AV.v _ = _
    simp [enterF, h]
theorem may_ct (n : Nod) : CtP Tryz.prog 166 [.v n] (.v (mayN n)) := by
  refine Ct.intro Tryz.func166 rfl rfl ?_
  all_goals refine awp_seq (awp_region (id := 0) ?_)
  all_goals refine awpOps_cons (op_box (o := 0) ty39 rfl (Conv.of rfl) rfl rfl) ?_
  all_goals refine awpOps_cons (op_as rfl (Conv.of rfl) rfl) ?_
  all_goals refine awpOps_nil ?_
  all_goals refine awp_seq (awp_region (id := 1) ?_)
  all_goals refine awpOps_cons (op_fab f39_1 rfl rfl) ?_
  all_goals refine awpOps_cons (op_ld ty3 rfl rfl rfl) ?_
  all_goals refine awpOps_cons (op_gtr rfl rfl rfl) ?_
  all_goals refine awpOps_cons (op_mv rfl (Conv.of rfl) rfl) ?_
  all_goals refine g_split (t := 6) rfl (fun h => ?_) (fun h => ?_)
  all_goals first | refine awpOps_cons (g_off rfl rfl rfl rfl rfl) ?_ | refine awpOps_cons (g_on rfl rfl rfl (op_fab f39_2 rfl rfl)) ?_
  all_goals first | refine awpOps_cons (g_off rfl rfl rfl rfl rfl) ?_ | refine awpOps_cons (g_on rfl rfl rfl (op_ld ty3 rfl rfl rfl)) ?_
  all_goals first | refine awpOps_cons (g_off rfl rfl rfl rfl rfl) ?_ | refine awpOps_cons (g_on rfl rfl rfl (op_fab f39_1 rfl rfl)) ?_
  all_goals first | refine awpOps_cons (g_off rfl rfl rfl rfl rfl) ?_ | refine awpOps_cons (g_on rfl rfl rfl (op_ld ty3 rfl rfl rfl)) ?_
  all_goals first | refine awpOps_cons (g_off rfl rfl rfl rfl rfl) ?_ | refine awpOps_cons (g_on rfl rfl rfl (op_neq rfl rfl rfl)) ?_
  all_goals refine awpOps_cons (op_pick rfl rfl rfl rfl) ?_
  all_goals refine awpOps_cons (op_as rfl (Conv.of rfl) rfl) ?_
  all_goals refine awpOps_nil ?_
  all_goals refine awp_ret ?_
  all_goals refine finP (.v rfl (Conv.of rfl)) rfl ?_
  all_goals (simp_all [FV.av, mayN] <;> omega)
theorem nvote_ct (n : Nod) (c : List Itm) (hn : Gd n.seen) (hc : c.length ≤ 1000000) : CtP Tryz.prog 167 [.v n, .v c] (res3 (voteF n c)) := by
  refine Ct.intro Tryz.func167 rfl rfl ?_
  all_goals refine awp_seq (awp_region (id := 0) ?_)
  all_goals refine awpOps_cons (op_box (o := 0) ty39 rfl (Conv.of rfl) rfl rfl) ?_
  all_goals refine awpOps_cons (op_alloc (o := 1) z39 rfl rfl) ?_
  all_goals refine awpOps_cons (op_alloc (o := 2) z48 rfl rfl) ?_
  all_goals refine awpOps_cons (op_as rfl (Conv.of rfl) rfl) ?_
  all_goals refine awpOps_nil ?_
  all_goals refine awp_seq (awp_seq (awp_region (id := 1) ?_))
  all_goals refine awpOps_cons (op_fab f39_3 rfl rfl) ?_
  all_goals refine awpOps_cons (op_ld ty27 rfl rfl rfl) ?_
  all_goals refine awpOps_cons (op_len sl27 rfl rfl) ?_
  all_goals refine awpOps_cons (op_geq rfl rfl rfl) ?_
  all_goals refine awpOps_nil ?_
  refine awp_cond rfl (fun h => ?_) (fun h => ?_)
  · have h' : decide (80 ≤ n.seen.length) = true := by simp at h ⊢; omega
    all_goals refine awp_seq (awp_region (id := 2) ?_)
    all_goals refine awpOps_cons (op_ld ty39 rfl rfl rfl) ?_
    all_goals refine awpOps_cons (op_build (.nil _) z48 rfl pl48 rfl) ?_
    all_goals refine awpOps_cons (op_st ty39 rfl rfl (Conv.of rfl) rfl) ?_
    all_goals refine awpOps_cons (op_st ty48 rfl rfl (Conv.of rfl) rfl) ?_
    all_goals refine awpOps_cons (op_as rfl (Conv.of rfl) rfl) ?_
    all_goals refine awpOps_nil ?_
    refine awp_ret ?_
    repeat first | refine rt_seq ?_ | refine rt_block ?_
    refine finN (.cons (.rc ty39 rfl rfl) (.cons (.rc ty48 rfl rfl) (.cons (.v rfl (Conv.of rfl)) .nil))) rfl rfl ?_
    simp only [voteF, h', if_true]; rfl
  · have h' : decide (80 ≤ n.seen.length) = false := by simp at h ⊢; omega
    refine awp_skip ?_
    all_goals refine awp_seq (awp_region (id := 3) ?_)
    all_goals refine awpOps_cons (op_fab f39_0 rfl rfl) ?_
    all_goals refine awpOps_cons (op_ld ty3 rfl rfl rfl) ?_
    all_goals refine awpOps_cons (op_mv rfl (Conv.of rfl) rfl) ?_
    all_goals refine awpOps_cons (op_build (.cons f48_0 rfl (Conv.of rfl) (.cons f48_1 rfl (Conv.of rfl) (.nil _))) z48 rfl pl48 rfl) ?_
    all_goals refine awpOps_cons (op_alloc (o := 3) z48 rfl rfl) ?_
    all_goals refine awpOps_cons (op_st ty48 rfl rfl (Conv.of rfl) rfl) ?_
    all_goals refine awpOps_nil ?_
    all_goals refine awp_seq (awp_region (id := 4) ?_)
    all_goals refine awpOps_cons (op_fab f39_1 rfl rfl) ?_
    all_goals refine awpOps_cons (op_ld ty3 rfl rfl rfl) ?_
    all_goals refine awpOps_cons (op_fab f39_2 rfl rfl) ?_
    all_goals refine awpOps_cons (op_st ty3 rfl rfl (Conv.of rfl) rfl) ?_
    all_goals refine awpOps_nil ?_
    all_goals refine awp_seq (awp_region (id := 5) ?_)
    all_goals refine awpOps_cons (op_fab f39_3 rfl rfl) ?_
    all_goals refine awpOps_cons (op_ld ty27 rfl rfl rfl) ?_
    all_goals refine awpOps_cons (op_ld ty48 rfl rfl rfl) ?_
    all_goals refine awpOps_cons (op_call fb146 (.cons rfl (Conv.of rfl) (.cons rfl (Conv.of rfl) (.nil _))) (with_ct _ ⟨n.id, c⟩ hn.l' hc) (argOk rfl rfl (argOk rfl rfl argOk0)) rfl rfl) ?_
    all_goals refine awpOps_cons (op_fab f39_3 rfl rfl) ?_
    all_goals refine awpOps_cons (op_st ty27 rfl rfl (Conv.cl) rfl) ?_
    all_goals refine awpOps_nil ?_
    all_goals refine awp_seq (dr_start (id := 6) ?_)
    all_goals refine dr_cons (op_ld ty39 rfl rfl rfl) ?_
    all_goals refine dr_cons (op_ld ty48 rfl rfl rfl) ?_
    all_goals refine dr_cons (op_call fb147 (.cons rfl (Conv.of rfl) (.nil _)) (voteCopied_ct ⟨n.id, c⟩ hc) (argOk rfl rfl argOk0) rfl rfl) ?_
    all_goals refine dr_cons (op_st ty39 rfl rfl (Conv.of rfl) rfl) ?_
    all_goals refine dr_cons (op_st ty48 rfl rfl (Conv.of rfl) rfl) ?_
    all_goals refine dr_cons (op_as rfl (Conv.of rfl) rfl) ?_
    all_goals refine dr_nil mixed rfl ?_
    refine awp_ret ?_
    repeat first | refine rt_seq ?_ | refine rt_block ?_
    refine finN (.cons (.rc ty39 rfl rfl) (.cons (.rc ty48 rfl rfl) (.cons (.v rfl (Conv.of rfl)) .nil))) rfl rfl ?_
    simp only [voteF, h']; rfl
set_option maxHeartbeats 1000000 in
theorem npropose_ct (n : Nod) (p : Pay) (hn : Gd n.seen) : CtP Tryz.prog 144 [.v n, .v p] (res3 (proposeF n p)) := by
  have htip := hn.tip
  refine Ct.intro Tryz.func144 rfl rfl ?_
  all_goals refine awp_seq (awp_region (id := 0) ?_)
  all_goals refine awpOps_cons (op_box (o := 0) ty39 rfl (Conv.of rfl) rfl rfl) ?_
  all_goals refine awpOps_cons (op_box (o := 1) ty46 rfl (Conv.of rfl) rfl rfl) ?_
  all_goals refine awpOps_cons (op_alloc (o := 2) z39 rfl rfl) ?_
  all_goals refine awpOps_cons (op_alloc (o := 3) z48 rfl rfl) ?_
  all_goals refine awpOps_cons (op_as rfl (Conv.of rfl) rfl) ?_
  all_goals refine awpOps_nil ?_
  all_goals refine awp_seq (dr_start (id := 1) ?_)
  all_goals refine dr_cons (op_fab f39_3 rfl rfl) ?_
  all_goals refine dr_cons (op_ld ty27 rfl rfl rfl) ?_
  all_goals refine dr_cons (op_call fb75 (.cons rfl (Conv.of rfl) (.nil _)) (tip_ct _ hn.l hn.v) (argOk rfl rfl argOk0) rfl rfl) ?_
  all_goals refine dr_cons (op_fab f39_1 rfl rfl) ?_
  all_goals refine dr_cons (op_ld ty3 rfl rfl rfl) ?_
  all_goals refine dr_cons (op_ld ty46 rfl rfl rfl) ?_
  all_goals refine dr_cons (op_build (.cons f67_0 rfl (Conv.of rfl) (.cons f67_1 rfl (Conv.of rfl) (.nil _))) z67 rfl pl67 rfl) ?_
  all_goals refine dr_cons (op_bsl sl35 z67 (.cons rfl (Conv.of rfl) (.nil _)) rfl (by decide) rfl) ?_
  all_goals refine dr_cons (op_app sl35 z67 ul35 rfl rfl rfl (by (simp; omega)) (by (simp; omega)) rfl rfl) ?_
  all_goals refine dr_cons (op_asl rfl rfl rfl rfl) ?_
  all_goals refine dr_nil mixed rfl ?_
  refine awp_seq (awp_seq_to (s' := mkSt 41 [(2, .box 0 (IsLens.whole Nod)), (4, .box 2 (IsLens.whole Nod)), (5, .box 3 (IsLens.whole Vote)), (6, .v false), (7, .v (OList.mk (tipOf n.seen ++ [⟨n.epoch, p⟩]) true)), (32, .v (!(mayN n && decide (leader n.epoch = n.id) && chainOk (tipOf n.seen ++ [⟨n.epoch, p⟩]))))] [(0, .cell n), (2, .cell Nod.zero), (3, .cell Vote.zero)]) ?_ ?_)
  · all_goals refine dr_start (id := 2) ?_
    all_goals refine dr_cons (op_ld ty39 rfl rfl rfl) ?_
    all_goals refine dr_cons (op_call fb166 (.cons rfl (Conv.of rfl) (.nil _)) (may_ct _) (argOk rfl rfl argOk0) rfl rfl) ?_
    all_goals refine dr_cons (op_not rfl rfl) ?_
    all_goals refine dr_cons (op_mv rfl (Conv.of rfl) rfl) ?_
    all_goals refine dr_split (t := 20) rfl (fun h => ?_) (fun h => ?_)
    all_goals first | refine dr_cons (g_off rfl rfl rfl rfl rfl) ?_ | refine dr_cons (g_on rfl rfl rfl (op_fab f39_1 rfl rfl)) ?_
    all_goals first | refine dr_cons (g_off rfl rfl rfl rfl rfl) ?_ | refine dr_cons (g_on rfl rfl rfl (op_ld ty3 rfl rfl rfl)) ?_
    all_goals first | refine dr_cons (g_off rfl rfl rfl rfl rfl) ?_ | refine dr_cons (g_on rfl rfl rfl (op_call fb122 (.cons rfl (Conv.of rfl) (.nil _)) (leader_ct _) (argOk rfl rfl argOk0) rfl rfl)) ?_
    all_goals first | refine dr_cons (g_off rfl rfl rfl rfl rfl) ?_ | refine dr_cons (g_on rfl rfl rfl (op_fab f39_0 rfl rfl)) ?_
    all_goals first | refine dr_cons (g_off rfl rfl rfl rfl rfl) ?_ | refine dr_cons (g_on rfl rfl rfl (op_ld ty3 rfl rfl rfl)) ?_
    all_goals first | refine dr_cons (g_off rfl rfl rfl rfl rfl) ?_ | refine dr_cons (g_on rfl rfl rfl (op_neq rfl rfl rfl)) ?_
    all_goals refine dr_cons (op_pick rfl rfl rfl rfl) ?_
    all_goals refine dr_cons (op_mv rfl (Conv.of rfl) rfl) ?_
    all_goals first | refine dr_lit (t := 28) (b := true) rfl ?_ | refine dr_split (t := 28) rfl (fun h => ?_) (fun h => ?_)
    all_goals first | refine dr_cons (g_off rfl rfl rfl rfl rfl) ?_ | refine dr_cons (g_on rfl rfl rfl (op_mv rfl Conv.ol rfl)) ?_
    all_goals first | refine dr_cons (g_off rfl rfl rfl rfl rfl) ?_ | refine dr_cons (g_on rfl rfl rfl (op_call fb61 (.cons rfl (Conv.of rfl) (.nil _)) (chainOk_ct _) (argOk rfl rfl argOk0) rfl rfl)) ?_
    all_goals first | refine dr_cons (g_off rfl rfl rfl rfl rfl) ?_ | refine dr_cons (g_on rfl rfl rfl (op_not rfl rfl)) ?_
    all_goals refine dr_cons (op_pick rfl rfl rfl rfl) ?_
    all_goals refine dr_nil mixed rfl ?_
    all_goals exact Le.mk rfl (tlb rfl rfl rfl (tlb rfl rfl rfl (tlb rfl rfl rfl (tle rfl (rfl) rfl (tle rfl (rfl) rfl (tle rfl (by (clear htip; simp_all)) rfl tln)))))) (olk rfl (by exact obOk_cell) (olk rfl (by exact obOk_cell) (olk rfl (by exact obOk_cell) oln))) noS
  refine awp_cond rfl (fun h => ?_) (fun h => ?_)
  · all_goals refine awp_seq (awp_region (id := 3) ?_)
    all_goals refine awpOps_cons (op_ld ty39 rfl rfl rfl) ?_
    all_goals refine awpOps_cons (op_build (.nil _) z48 rfl pl48 rfl) ?_
    all_goals refine awpOps_cons (op_st ty39 rfl rfl (Conv.of rfl) rfl) ?_
    all_goals refine awpOps_cons (op_st ty48 rfl rfl (Conv.of rfl) rfl) ?_
    all_goals refine awpOps_cons (op_as rfl (Conv.of rfl) rfl) ?_
    all_goals refine awpOps_nil ?_
    refine awp_ret ?_
    repeat first | refine rt_seq ?_ | refine rt_block ?_
    refine finN (.cons (.rc ty39 rfl rfl) (.cons (.rc ty48 rfl rfl) (.cons (.v rfl (Conv.of rfl)) .nil))) rfl rfl ?_
    have h' := not_t h
    rw [proposeF, h']; rfl
  · have h' := not_f h
    refine awp_skip ?_
    all_goals refine awp_seq (awp_region (id := 4) ?_)
    all_goals refine awpOps_cons (op_ld ty39 rfl rfl rfl) ?_
    all_goals refine awpOps_cons (op_mv rfl Conv.ol rfl) ?_
    all_goals refine awpOps_cons (op_call fb167 (.cons rfl (Conv.of rfl) (.cons rfl (Conv.of rfl) (.nil _))) (nvote_ct _ _ hn (by simp; omega)) (argOk rfl rfl (argOk rfl rfl argOk0)) rfl rfl) ?_
    all_goals refine awpOps_cons (op_ext rfl rfl rfl) ?_
    all_goals refine awpOps_cons (op_ext rfl rfl rfl) ?_
    all_goals refine awpOps_cons (op_ext rfl rfl rfl) ?_
    all_goals refine awpOps_cons (op_st ty39 rfl rfl (Conv.of rfl) rfl) ?_
    all_goals refine awpOps_cons (op_st ty48 rfl rfl (Conv.of rfl) rfl) ?_
    all_goals refine awpOps_cons (op_as rfl (Conv.of rfl) rfl) ?_
    all_goals refine awpOps_nil ?_
    refine awp_ret ?_
    repeat first | refine rt_seq ?_ | refine rt_block ?_
    refine finN (.cons (.rc ty39 rfl rfl) (.cons (.rc ty48 rfl rfl) (.cons (.v rfl (Conv.of rfl)) .nil))) rfl rfl ?_
    rw [proposeF, h']; rfl
end Go.Proofs.YtompnmkpgffhkaaGreat

/- A node hears a vote. -/
set_option linter.unusedVariables false
set_option linter.unusedSimpArgs false
namespace Go.Proofs.YtompnmkpgffhkaaGreat
open Go Go.Wt
set_option maxHeartbeats 2000000 in
theorem nhear_ct (n : Nod) (v : Vote) (hn : Gd n.seen) : CtP Tryz.prog 145 [.v n, .v v] (res3 (hearF n v)) := by
  refine Ct.intro Tryz.func145 rfl rfl ?_
  all_goals refine awp_seq (awp_region (id := 0) ?_)
  all_goals refine awpOps_cons (op_box (o := 0) ty39 rfl (Conv.of rfl) rfl rfl) ?_
  all_goals refine awpOps_cons (op_box (o := 1) ty48 rfl (Conv.of rfl) rfl rfl) ?_
  all_goals refine awpOps_cons (op_alloc (o := 2) z39 rfl rfl) ?_
  all_goals refine awpOps_cons (op_alloc (o := 3) z48 rfl rfl) ?_
  all_goals refine awpOps_cons (op_as rfl (Conv.of rfl) rfl) ?_
  all_goals refine awpOps_nil ?_
  refine awp_seq (awp_seq_to (s' := mkSt 99 [(2, .box 0 (IsLens.whole Nod)), (3, .box 1 (IsLens.whole Vote)), (4, .box 2 (IsLens.whole Nod)), (5, .box 3 (IsLens.whole Vote)), (6, .v false), (28, .v (!(voteOk v && !decide (v.by_ = n.id) && decide (n.seen.length < 80))))] [(0, .cell n), (1, .cell v), (2, .cell Nod.zero), (3, .cell Vote.zero)]) ?_ ?_)
  · all_goals refine awp_region (id := 1) ?_
    all_goals refine awpOps_cons (op_ld ty48 rfl rfl rfl) ?_
    all_goals refine awpOps_cons (op_call fb101 (.cons rfl (Conv.of rfl) (.nil _)) (voteOk_ct _) (argOk rfl rfl argOk0) rfl rfl) ?_
    all_goals refine awpOps_cons (op_not rfl rfl) ?_
    all_goals refine awpOps_cons (op_mv rfl (Conv.of rfl) rfl) ?_
    all_goals refine g_split (t := 16) rfl (fun h => ?_) (fun h => ?_)
    all_goals first | refine awpOps_cons (g_off rfl rfl rfl rfl rfl) ?_ | refine awpOps_cons (g_on rfl rfl rfl (op_fab f48_0 rfl rfl)) ?_
    all_goals first | refine awpOps_cons (g_off rfl rfl rfl rfl rfl) ?_ | refine awpOps_cons (g_on rfl rfl rfl (op_ld ty3 rfl rfl rfl)) ?_
    all_goals first | refine awpOps_cons (g_off rfl rfl rfl rfl rfl) ?_ | refine awpOps_cons (g_on rfl rfl rfl (op_fab f39_0 rfl rfl)) ?_
    all_goals first | refine awpOps_cons (g_off rfl rfl rfl rfl rfl) ?_ | refine awpOps_cons (g_on rfl rfl rfl (op_ld ty3 rfl rfl rfl)) ?_
    all_goals first | refine awpOps_cons (g_off rfl rfl rfl rfl rfl) ?_ | refine awpOps_cons (g_on rfl rfl rfl (op_eql rfl rfl rfl)) ?_
    all_goals refine awpOps_cons (op_pick rfl rfl rfl rfl) ?_
    all_goals refine awpOps_cons (op_mv rfl (Conv.of rfl) rfl) ?_
    all_goals first | refine g_lit (t := 23) (b := true) rfl ?_ | refine g_split (t := 23) rfl (fun h => ?_) (fun h => ?_)
    all_goals first | refine awpOps_cons (g_off rfl rfl rfl rfl rfl) ?_ | refine awpOps_cons (g_on rfl rfl rfl (op_fab f39_3 rfl rfl)) ?_
    all_goals first | refine awpOps_cons (g_off rfl rfl rfl rfl rfl) ?_ | refine awpOps_cons (g_on rfl rfl rfl (op_ld ty27 rfl rfl rfl)) ?_
    all_goals first | refine awpOps_cons (g_off rfl rfl rfl rfl rfl) ?_ | refine awpOps_cons (g_on rfl rfl rfl (op_len sl27 rfl rfl)) ?_
    all_goals first | refine awpOps_cons (g_off rfl rfl rfl rfl rfl) ?_ | refine awpOps_cons (g_on rfl rfl rfl (op_geq rfl rfl rfl)) ?_
    all_goals refine awpOps_cons (op_pick rfl rfl rfl rfl) ?_
    all_goals refine awpOps_nil ?_
    all_goals exact Le.mk rfl (tlb rfl rfl rfl (tlb rfl rfl rfl (tlb rfl rfl rfl (tlb rfl rfl rfl (tle rfl (rfl) rfl (tle rfl (by (simp_all; try (rw [Bool.eq_iff_iff]; simp; try omega))) rfl tln)))))) (olk rfl (by exact obOk_cell) (olk rfl (by exact obOk_cell) (olk rfl (by exact obOk_cell) (olk rfl (by exact obOk_cell) oln)))) noS
  refine awp_cond rfl (fun h => ?_) (fun h => ?_)
  · all_goals refine awp_seq (awp_region (id := 2) ?_)
    all_goals refine awpOps_cons (op_ld ty39 rfl rfl rfl) ?_
    all_goals refine awpOps_cons (op_build (.nil _) z48 rfl pl48 rfl) ?_
    all_goals refine awpOps_cons (op_st ty39 rfl rfl (Conv.of rfl) rfl) ?_
    all_goals refine awpOps_cons (op_st ty48 rfl rfl (Conv.of rfl) rfl) ?_
    all_goals refine awpOps_cons (op_as rfl (Conv.of rfl) rfl) ?_
    all_goals refine awpOps_nil ?_
    refine awp_ret ?_
    repeat first | refine rt_seq ?_ | refine rt_block ?_
    refine finN (.cons (.rc ty39 rfl rfl) (.cons (.rc ty48 rfl rfl) (.cons (.v rfl (Conv.of rfl)) .nil))) rfl rfl ?_
    rw [hearF, not_t h]; rfl
  · have h0 := not_f h
    refine awp_skip ?_
    have h0' := h0
    simp only [Bool.and_eq_true] at h0'
    have hvo : voteOk v = true := h0'.1.1
    have hlen : n.seen.length < 80 := by simpa using h0'.2
    have hgd := seeF_gd hn hvo hlen
    refine awp_seq_to (s' := mkSt 99 [(2, .box 0 (IsLens.whole Nod)), (4, .box 2 (IsLens.whole Nod)), (5, .box 3 (IsLens.whole Vote)), (6, .v false)] [(0, .cell (seeF n v)), (2, .cell Nod.zero), (3, .cell Vote.zero)]) ?_ ?_
    · all_goals refine awp_seq (awp_region (id := 3) ?_)
      all_goals refine awpOps_cons (op_fab f39_3 rfl rfl) ?_
      all_goals refine awpOps_cons (op_ld ty27 rfl rfl rfl) ?_
      all_goals refine awpOps_cons (op_ld ty48 rfl rfl rfl) ?_
      all_goals refine awpOps_cons (op_call fb109 (.cons rfl (Conv.of rfl) (.cons rfl (Conv.of rfl) (.nil _))) (has_ct _ _) (argOk rfl rfl (argOk rfl rfl argOk0)) rfl rfl) ?_
      all_goals refine awpOps_cons (op_not rfl rfl) ?_
      all_goals refine awpOps_nil ?_
      refine awp_cond rfl (fun hb => ?_) (fun hb => ?_)
      · have hb' : ¬ v ∈ n.seen := by simpa using hb
        all_goals refine awp_region (id := 4) ?_
        all_goals refine awpOps_cons (op_fab f39_3 rfl rfl) ?_
        all_goals refine awpOps_cons (op_ld ty27 rfl rfl rfl) ?_
        all_goals refine awpOps_cons (op_ld ty48 rfl rfl rfl) ?_
        all_goals refine awpOps_cons (op_call fb146 (.cons rfl (Conv.of rfl) (.cons rfl (Conv.of rfl) (.nil _))) (with_ct _ _ hn.l' (voteOk_len hvo)) (argOk rfl rfl (argOk rfl rfl argOk0)) rfl rfl) ?_
        all_goals refine awpOps_cons (op_fab f39_3 rfl rfl) ?_
        all_goals refine awpOps_cons (op_st ty27 rfl rfl (Conv.cl) rfl) ?_
        all_goals refine awpOps_nil ?_
        all_goals exact Le.mk rfl (tlb rfl rfl rfl (tlb rfl rfl rfl (tlb rfl rfl rfl (tle rfl (rfl) rfl tln)))) (olk (by (simp [seeF, *]; try rfl)) (by exact obOk_cell) (olk rfl (by exact obOk_cell) (olk rfl (by exact obOk_cell) oln))) noS
      · have hb' : v ∈ n.seen := by simpa using hb
        refine awp_skip ?_
        all_goals exact Le.mk rfl (tlb rfl rfl rfl (tlb rfl rfl rfl (tlb rfl rfl rfl (tle rfl (rfl) rfl tln)))) (olk (by (simp [seeF, *]; try rfl)) (by exact obOk_cell) (olk rfl (by exact obOk_cell) (olk rfl (by exact obOk_cell) oln))) noS
    · generalize hm : seeF n v = m at *
      all_goals refine awp_seq (awp_seq (awp_region (id := 5) ?_))
      all_goals refine awpOps_cons (op_ld ty39 rfl rfl rfl) ?_
      all_goals refine awpOps_cons (op_call fb166 (.cons rfl (Conv.of rfl) (.nil _)) (may_ct _) (argOk rfl rfl argOk0) rfl rfl) ?_
      all_goals refine awpOps_cons (op_not rfl rfl) ?_
      all_goals refine awpOps_nil ?_
      refine awp_cond rfl (fun hb => ?_) (fun hb => ?_)
      · all_goals refine awp_seq (awp_region (id := 6) ?_)
        all_goals refine awpOps_cons (op_ld ty39 rfl rfl rfl) ?_
        all_goals refine awpOps_cons (op_build (.nil _) z48 rfl pl48 rfl) ?_
        all_goals refine awpOps_cons (op_st ty39 rfl rfl (Conv.of rfl) rfl) ?_
        all_goals refine awpOps_cons (op_st ty48 rfl rfl (Conv.of rfl) rfl) ?_
        all_goals refine awpOps_cons (op_as rfl (Conv.of rfl) rfl) ?_
        all_goals refine awpOps_nil ?_
        refine awp_ret ?_
        repeat first | refine rt_seq ?_ | refine rt_block ?_
        refine finN (.cons (.rc ty39 rfl rfl) (.cons (.rc ty48 rfl rfl) (.cons (.v rfl (Conv.of rfl)) .nil))) rfl rfl ?_
        rw [hearF, h0, hm, not_t hb]; rfl
      · have hres : hearF n v = tryF m m.seen := by rw [hearF, h0, hm, not_f hb]; rfl
        rw [hres]
        refine awp_skip ?_
        all_goals refine awp_seq (awp_region (id := 7) ?_)
        all_goals refine awpOps_cons (op_fab f39_3 rfl rfl) ?_
        all_goals refine awpOps_cons (op_ld ty27 rfl rfl rfl) ?_
        all_goals refine awpOps_cons (op_as rfl (Conv.of rfl) rfl) ?_
        all_goals refine awpOps_nil ?_
        all_goals refine awp_seq (dr_start (id := 8) ?_)
        all_goals refine dr_cons (op_mv rfl (Conv.of rfl) rfl) ?_
        all_goals refine dr_cons (op_call fb75 (.cons rfl (Conv.of rfl) (.nil _)) (tip_ct _ hgd.l hgd.v) (argOk rfl rfl argOk0) rfl rfl) ?_
        all_goals refine dr_cons (op_len sl35 rfl rfl) ?_
        all_goals refine dr_cons (op_fab f39_1 rfl rfl) ?_
        all_goals refine dr_cons (op_ld ty3 rfl rfl rfl) ?_
        all_goals refine dr_cons (op_call fb122 (.cons rfl (Conv.of rfl) (.nil _)) (leader_ct _) (argOk rfl rfl argOk0) rfl rfl) ?_
        all_goals refine dr_cons (op_as rfl (Conv.of rfl) rfl) ?_
        all_goals refine dr_cons (op_as rfl (Conv.of rfl) rfl) ?_
        all_goals refine dr_nil mixed rfl ?_
        all_goals refine awp_seq (awp_seq (awp_region (id := 9) ?_))
        all_goals refine awpOps_cons (op_mv rfl (Conv.of rfl) rfl) ?_
        all_goals refine awpOps_cons (op_len sl90 rfl rfl) ?_
        all_goals refine awpOps_cons (op_mv rfl (Conv.of rfl) rfl) ?_
        all_goals refine awpOps_nil ?_
        refine awp_block ?_
        refine awp_loop' (fun n_ s => ∃ (k : Nat), ∃ (hn : n_ + k = m.seen.length), ∃ (hall : tryF m m.seen = tryF m (m.seen.drop k)), s = mkSt 99 [(2, .box 0 (IsLens.whole Nod)), (4, .box 2 (IsLens.whole Nod)), (5, .box 3 (IsLens.whole Vote)), (6, .v false), (7, .v m.seen), (8, .v ((tipOf m.seen).length : Int)), (9, .v (leader m.epoch)), (54, .v m.seen), (55, .v (m.seen.length : Int)), (56, .v (k : Int))] [(0, .cell m), (2, .cell Nod.zero), (3, .cell Vote.zero)]) (m.seen.length) ⟨0, by omega, rfl, rfl⟩ (Le.mk rfl (tlb rfl rfl rfl (tlb rfl rfl rfl (tlb rfl rfl rfl (tle rfl (rfl) rfl (tle rfl (rfl) rfl (tle rfl (rfl) rfl (tle rfl (rfl) rfl (tle rfl (rfl) rfl (tle rfl (rfl) rfl (tle rfl (rfl) rfl tln)))))))))) (olk rfl (by exact obOk_cell) (olk rfl (by exact obOk_cell) (olk rfl (by exact obOk_cell) oln))) noS) ?_
        rintro n_ s ⟨k, hn, hall, rfl⟩
        have hml := hgd.len
        all_goals refine awp_seq (awp_region (id := 10) ?_)
        all_goals refine awpOps_cons (op_lss rfl rfl rfl) ?_
        all_goals refine awpOps_nil ?_
        refine awp_seq (awp_cond rfl (fun h => ?_) (fun h => ?_))
        · have hlt : k < m.seen.length := by simpa using h
          have hx : m.seen[k]? = some m.seen[k] := List.getElem?_eq_getElem hlt
          have huo := hgd.ok _ (List.getElem_mem hlt)
          have hup := voteOk_pos huo
          have hul := voteOk_len huo
          have hs := tryF_drop m hx
          refine awp_skip ?_
          refine awp_seq (awp_block ?_)
          all_goals refine awp_seq (awp_region (id := 11) ?_)
          all_goals refine awpOps_cons (op_ix sl90 rfl rfl rfl (by omega) hx) ?_
          all_goals refine awpOps_cons (op_ldr ty48 rfl rfl) ?_
          all_goals refine awpOps_cons (op_alloc (o := 4) z48 rfl rfl) ?_
          all_goals refine awpOps_cons (op_st ty48 rfl rfl (Conv.of rfl) rfl) ?_
          all_goals refine awpOps_nil ?_
          all_goals refine awp_seq (awp_region (id := 12) ?_)
          all_goals refine awpOps_cons (op_fab f48_1 rfl rfl) ?_
          all_goals refine awpOps_cons (op_ld ty35 rfl rfl rfl) ?_
          all_goals refine awpOps_cons (op_fab f48_1 rfl rfl) ?_
          all_goals refine awpOps_cons (op_ld ty35 rfl rfl rfl) ?_
          all_goals refine awpOps_cons (op_len sl35 rfl rfl) ?_
          all_goals refine awpOps_cons (op_sub rfl rfl rfl (by omega)) ?_
          all_goals refine awpOps_cons (op_slh sl35 rfl rfl rfl ⟨by omega, by omega⟩) ?_
          all_goals refine awpOps_cons (op_as rfl (Conv.of rfl) rfl) ?_
          all_goals refine awpOps_nil ?_
          have htk : (((m.seen[k]).chain.length : Int) - 1).toNat = (m.seen[k]).chain.length - 1 := by omega
          refine awp_seq_to (s' := mkSt 99 [(2, .box 0 (IsLens.whole Nod)), (4, .box 2 (IsLens.whole Nod)), (5, .box 3 (IsLens.whole Vote)), (6, .v false), (7, .v m.seen), (8, .v ((tipOf m.seen).length : Int)), (9, .v (leader m.epoch)), (11, .box 4 (IsLens.whole Vote)), (54, .v m.seen), (55, .v (m.seen.length : Int)), (56, .v (k : Int)), (88, .v (fits m m.seen[k]))] [(0, .cell m), (2, .cell Nod.zero), (3, .cell Vote.zero), (4, .cell m.seen[k])]) ?_ ?_
          · all_goals refine dr_start (id := 13) ?_
            all_goals refine dr_cons (op_fab f48_0 rfl rfl) ?_
            all_goals refine dr_cons (op_ld ty3 rfl rfl rfl) ?_
            all_goals refine dr_cons (op_mv rfl (Conv.of rfl) rfl) ?_
            all_goals refine dr_cons (op_eql rfl rfl rfl) ?_
            all_goals refine dr_cons (op_mv rfl (Conv.of rfl) rfl) ?_
            all_goals refine dr_split (t := 71) rfl (fun h => ?_) (fun h => ?_)
            all_goals first | refine dr_cons (g_off rfl rfl rfl rfl rfl) ?_ | refine dr_cons (g_on rfl rfl rfl (op_ld ty48 rfl rfl rfl)) ?_
            all_goals first | refine dr_cons (g_off rfl rfl rfl rfl rfl) ?_ | refine dr_cons (g_on rfl rfl rfl (op_call fb112 (.cons rfl (Conv.of rfl) (.nil _)) (last_ct _ hup) (argOk rfl rfl argOk0) rfl rfl)) ?_
            all_goals first | refine dr_cons (g_off rfl rfl rfl rfl rfl) ?_ | refine dr_cons (g_on rfl rfl rfl (op_fab f39_1 rfl rfl)) ?_
            all_goals first | refine dr_cons (g_off rfl rfl rfl rfl rfl) ?_ | refine dr_cons (g_on rfl rfl rfl (op_ld ty3 rfl rfl rfl)) ?_
            all_goals first | refine dr_cons (g_off rfl rfl rfl rfl rfl) ?_ | refine dr_cons (g_on rfl rfl rfl (op_eql rfl rfl rfl)) ?_
            all_goals refine dr_cons (op_pick rfl rfl rfl rfl) ?_
            all_goals refine dr_cons (op_mv rfl (Conv.of rfl) rfl) ?_
            all_goals first | refine dr_lit (t := 78) (b := false) rfl ?_ | refine dr_split (t := 78) rfl (fun h => ?_) (fun h => ?_)
            all_goals first | refine dr_cons (g_off rfl rfl rfl rfl rfl) ?_ | refine dr_cons (g_on rfl rfl rfl (op_mv rfl (Conv.of rfl) rfl)) ?_
            all_goals first | refine dr_cons (g_off rfl rfl rfl rfl rfl) ?_ | refine dr_cons (g_on rfl rfl rfl (op_len sl35 rfl rfl)) ?_
            all_goals first | refine dr_cons (g_off rfl rfl rfl rfl rfl) ?_ | refine dr_cons (g_on rfl rfl rfl (op_mv rfl (Conv.of rfl) rfl)) ?_
            all_goals first | refine dr_cons (g_off rfl rfl rfl rfl rfl) ?_ | refine dr_cons (g_on rfl rfl rfl (op_eql rfl rfl rfl)) ?_
            all_goals refine dr_cons (op_pick rfl rfl rfl rfl) ?_
            all_goals refine dr_cons (op_mv rfl (Conv.of rfl) rfl) ?_
            all_goals first | refine dr_lit (t := 84) (b := false) rfl ?_ | refine dr_split (t := 84) rfl (fun h => ?_) (fun h => ?_)
            all_goals first | refine dr_cons (g_off rfl rfl rfl rfl rfl) ?_ | refine dr_cons (g_on rfl rfl rfl (op_mv rfl (Conv.of rfl) rfl)) ?_
            all_goals first | refine dr_cons (g_off rfl rfl rfl rfl rfl) ?_ | refine dr_cons (g_on rfl rfl rfl (op_mv rfl (Conv.of rfl) rfl)) ?_
            all_goals first | refine dr_cons (g_off rfl rfl rfl rfl rfl) ?_ | refine dr_cons (g_on rfl rfl rfl (op_call fb156 (.cons rfl (Conv.of rfl) (.cons rfl (Conv.of rfl) (.nil _))) (sure_ct _ _) (argOk rfl rfl (argOk rfl rfl argOk0)) rfl rfl)) ?_
            all_goals refine dr_cons (op_pick rfl rfl rfl rfl) ?_
            all_goals refine dr_nil mixed rfl ?_
            all_goals exact Le.mk rfl (tlb rfl rfl rfl (tlb rfl rfl rfl (tlb rfl rfl rfl (tle rfl (rfl) rfl (tle rfl (rfl) rfl (tle rfl (rfl) rfl (tle rfl (rfl) rfl (tlb rfl rfl rfl (tle rfl (rfl) rfl (tle rfl (rfl) rfl (tle rfl (rfl) rfl (tle rfl (by (show AV.v _ = AV.v _; congr 1; rw [fits_alt hup]; clear hall hs hres; simp_all)) rfl tln)))))))))))) (olk rfl (by exact obOk_cell) (olk rfl (by exact obOk_cell) (olk rfl (by exact obOk_cell) (olk rfl (by exact obOk_cell) oln)))) noS
          refine awp_cond rfl (fun hb => ?_) (fun hb => ?_)
          · all_goals refine awp_seq (awp_region (id := 14) ?_)
            all_goals refine awpOps_cons (op_ld ty39 rfl rfl rfl) ?_
            all_goals refine awpOps_cons (op_fab f48_1 rfl rfl) ?_
            all_goals refine awpOps_cons (op_ld ty35 rfl rfl rfl) ?_
            all_goals refine awpOps_cons (op_call fb167 (.cons rfl (Conv.of rfl) (.cons rfl (Conv.of rfl) (.nil _))) (nvote_ct _ _ hgd hul) (argOk rfl rfl (argOk rfl rfl argOk0)) rfl rfl) ?_
            all_goals refine awpOps_cons (op_ext rfl rfl rfl) ?_
            all_goals refine awpOps_cons (op_ext rfl rfl rfl) ?_
            all_goals refine awpOps_cons (op_ext rfl rfl rfl) ?_
            all_goals refine awpOps_cons (op_st ty39 rfl rfl (Conv.of rfl) rfl) ?_
            all_goals refine awpOps_cons (op_st ty48 rfl rfl (Conv.of rfl) rfl) ?_
            all_goals refine awpOps_cons (op_as rfl (Conv.of rfl) rfl) ?_
            all_goals refine awpOps_nil ?_
            refine awp_ret ?_
            repeat first | refine rt_seq ?_ | refine rt_block ?_
            refine finN (.cons (.rc ty39 rfl rfl) (.cons (.rc ty48 rfl rfl) (.cons (.v rfl (Conv.of rfl)) .nil))) rfl rfl ?_
            rw [hall, hs, hb]; rfl
          · refine awp_skip ?_
            all_goals refine awp_region (id := 15) ?_
            all_goals refine awpOps_cons (op_add rfl rfl rfl (by omega)) ?_
            all_goals refine awpOps_cons (op_mv rfl (Conv.of rfl) rfl) ?_
            all_goals refine awpOps_nil ?_
            repeat first | refine nx_seq ?_ | refine nx_block ?_
            exact ⟨n_ - 1, _, by omega, ⟨k + 1, by omega, by rw [hall, hs, hb]; rfl, rfl⟩, Le.mk rfl (tlb rfl rfl rfl (tlb rfl rfl rfl (tlb rfl rfl rfl (tle rfl (rfl) rfl (tle rfl (rfl) rfl (tle rfl (rfl) rfl (tle rfl (rfl) rfl (tle rfl (rfl) rfl (tle rfl (rfl) rfl (tle rfl (rfl) rfl tln)))))))))) (olk rfl (by exact obOk_cell) (olk rfl (by exact obOk_cell) (olk rfl (by exact obOk_cell) oln))) noS⟩
        · refine awp_exit ?_
          repeat refine ex_seq ?_
          refine ex_block ?_
          have hk : m.seen.length ≤ k := by simpa using h
          all_goals refine awp_seq (awp_region (id := 16) ?_)
          all_goals refine awpOps_cons (op_ld ty39 rfl rfl rfl) ?_
          all_goals refine awpOps_cons (op_build (.nil _) z48 rfl pl48 rfl) ?_
          all_goals refine awpOps_cons (op_st ty39 rfl rfl (Conv.of rfl) rfl) ?_
          all_goals refine awpOps_cons (op_st ty48 rfl rfl (Conv.of rfl) rfl) ?_
          all_goals refine awpOps_cons (op_as rfl (Conv.of rfl) rfl) ?_
          all_goals refine awpOps_nil ?_
          refine awp_ret ?_
          repeat first | refine rt_seq ?_ | refine rt_block ?_
          refine finN (.cons (.rc ty39 rfl rfl) (.cons (.rc ty48 rfl rfl) (.cons (.v rfl (Conv.of rfl)) .nil))) rfl rfl ?_
          rw [hall, drop_end hk]; rfl
end Go.Proofs.YtompnmkpgffhkaaGreat

/- Worlds. -/
set_option linter.unusedVariables false
set_option linter.unusedSimpArgs false
namespace Go.Proofs.YtompnmkpgffhkaaGreat
open Go Go.Wt
theorem send_ct (w : Wrld) (v : Vote) (hl : Gd w.log) (hv : v.chain.length ≤ 1000000) : CtO Tryz.prog 102 [.box 0 (IsLens.whole WrldA), .v v] (wo w) (.tup []) (wo (sendF w v)) := by
  refine Ct.intro Tryz.func102 rfl rfl ?_
  all_goals refine awp_seq (awp_region (id := 0) ?_)
  all_goals refine awpOps_cons (op_box (o := 2) ty48 rfl (Conv.of rfl) rfl rfl) ?_
  all_goals refine awpOps_nil ?_
  refine awp_seq_to (s' := mkSt 28 [(0, .box 0 (IsLens.whole WrldA)), (3, .box 2 (IsLens.whole Vote)), (18, .v (!decide (v ∈ w.log) && decide (w.log.length < 80)))] [(0, .cell (wA w)), (1, .arr w.nodes), (2, .cell v)]) ?_ ?_
  · all_goals refine dr_start (id := 1) ?_
    all_goals refine dr_cons (op_mv rfl (Conv.of rfl) rfl) ?_
    all_goals refine dr_cons (op_nilc_box rfl rfl) ?_
    all_goals refine dr_cons (op_fab f29_2_WrldA rfl rfl) ?_
    all_goals refine dr_cons (op_ld ty27 rfl rfl rfl) ?_
    all_goals refine dr_cons (op_ld ty48 rfl rfl rfl) ?_
    all_goals refine dr_cons (op_call fb109 (.cons rfl (Conv.of rfl) (.cons rfl (Conv.of rfl) (.nil _))) (has_ct _ _) (argOk rfl rfl (argOk rfl rfl argOk0)) rfl rfl) ?_
    all_goals refine dr_cons (op_not rfl rfl) ?_
    all_goals refine dr_cons (op_mv rfl (Conv.of rfl) rfl) ?_
    all_goals refine dr_split (t := 11) rfl (fun h => ?_) (fun h => ?_)
    all_goals first | refine dr_cons (g_off rfl rfl rfl rfl rfl) ?_ | refine dr_cons (g_on rfl rfl rfl (op_mv rfl (Conv.of rfl) rfl)) ?_
    all_goals first | refine dr_cons (g_off rfl rfl rfl rfl rfl) ?_ | refine dr_cons (g_on rfl rfl rfl (op_nilc_box rfl rfl)) ?_
    all_goals first | refine dr_cons (g_off rfl rfl rfl rfl rfl) ?_ | refine dr_cons (g_on rfl rfl rfl (op_fab f29_2_WrldA rfl rfl)) ?_
    all_goals first | refine dr_cons (g_off rfl rfl rfl rfl rfl) ?_ | refine dr_cons (g_on rfl rfl rfl (op_ld ty27 rfl rfl rfl)) ?_
    all_goals first | refine dr_cons (g_off rfl rfl rfl rfl rfl) ?_ | refine dr_cons (g_on rfl rfl rfl (op_len sl27 rfl rfl)) ?_
    all_goals first | refine dr_cons (g_off rfl rfl rfl rfl rfl) ?_ | refine dr_cons (g_on rfl rfl rfl (op_lss rfl rfl rfl)) ?_
    all_goals refine dr_cons (op_pick rfl rfl rfl rfl) ?_
    all_goals refine dr_nil mixed rfl ?_
    all_goals exact Le.mk rfl (tlb rfl rfl rfl (tlb rfl rfl rfl (tle rfl (by (simp_all; try omega)) rfl tln))) (olk rfl (by exact obOkW rfl) (olk rfl (by exact obOk_arr) (olk rfl (by exact obOk_cell) oln))) (hS_sub (a := wo w) rfl)
  refine awp_cond rfl (fun h => ?_) (fun h => ?_)
  · all_goals refine dr_start (id := 2) ?_
    all_goals refine dr_cons (op_mv rfl (Conv.of rfl) rfl) ?_
    all_goals refine dr_cons (op_mv rfl (Conv.of rfl) rfl) ?_
    all_goals refine dr_cons (op_nilc_box rfl rfl) ?_
    all_goals refine dr_cons (op_fab f29_2_WrldA rfl rfl) ?_
    all_goals refine dr_cons (op_ld ty27 rfl rfl rfl) ?_
    all_goals refine dr_cons (op_ld ty48 rfl rfl rfl) ?_
    all_goals refine dr_cons (op_call fb146 (.cons rfl (Conv.of rfl) (.cons rfl (Conv.of rfl) (.nil _))) (with_ct _ _ hl.l' hv) (argOk rfl rfl (argOk rfl rfl argOk0)) rfl rfl) ?_
    all_goals refine dr_cons (op_nilc_box rfl rfl) ?_
    all_goals refine dr_cons (op_fab f29_2_WrldA rfl rfl) ?_
    all_goals refine dr_cons (op_st ty27 rfl rfl (Conv.cl) rfl) ?_
    all_goals refine dr_nil mixed rfl ?_
    refine finO (wo (sendF w v)) .nil rfl (fun o ho => by cases ho) ?_ (hS_keys rfl) rfl
    simp only [sendF, h, if_true]
    exact (olk rfl (obOkW rfl) (olk rfl obOk_arr oln))
  · refine awp_skip ?_
    refine finO (wo (sendF w v)) .nil rfl (fun o ho => by cases ho) ?_ (hS_keys rfl) rfl
    simp only [sendF, h]
    exact (olk rfl (obOkW rfl) (olk rfl obOk_arr oln))
theorem honest_ct (w : Wrld) (id : Int) (h4 : w.nodes.length = 4) : CtO Tryz.prog 143 [.box 0 (IsLens.whole WrldA), .v id] (wo w) (if honestB w id then .elm 1 (id - 1).toNat (IsLens.whole Nod) else .nilp) (wo w) := by
  refine Ct.intro Tryz.func143 rfl rfl ?_
  all_goals refine awp_seq (awp_region (id := 0) ?_)
  all_goals refine awpOps_cons (op_as rfl (Conv.of rfl) rfl) ?_
  all_goals refine awpOps_nil ?_
  refine awp_seq (awp_seq_to (s' := mkSt 31 [(0, .box 0 (IsLens.whole WrldA)), (1, .v id), (23, .v (!honestB w id))] [(0, .cell (wA w)), (1, .arr w.nodes)]) ?_ ?_)
  · all_goals refine awp_region (id := 1) ?_
    all_goals refine awpOps_cons (op_mv rfl (Conv.of rfl) rfl) ?_
    all_goals refine awpOps_cons (op_call fb110 (.cons rfl (Conv.of rfl) (.nil _)) (nodeIdOk_ct _) (argOk rfl rfl argOk0) rfl rfl) ?_
    all_goals refine awpOps_cons (op_not rfl rfl) ?_
    all_goals refine awpOps_cons (op_mv rfl (Conv.of rfl) rfl) ?_
    all_goals refine g_split (t := 8) rfl (fun h => ?_) (fun h => ?_)
    all_goals first | refine awpOps_cons (g_off rfl rfl rfl rfl rfl) ?_ | refine awpOps_cons (g_on rfl rfl rfl (op_mv rfl (Conv.of rfl) rfl)) ?_
    all_goals first | refine awpOps_cons (g_off rfl rfl rfl rfl rfl) ?_ | refine awpOps_cons (g_on rfl rfl rfl (op_mv rfl (Conv.of rfl) rfl)) ?_
    all_goals first | refine awpOps_cons (g_off rfl rfl rfl rfl rfl) ?_ | refine awpOps_cons (g_on rfl rfl rfl (op_nilc_box rfl rfl)) ?_
    all_goals first | refine awpOps_cons (g_off rfl rfl rfl rfl rfl) ?_ | refine awpOps_cons (g_on rfl rfl rfl (op_fab f29_3_WrldA rfl rfl)) ?_
    all_goals first | refine awpOps_cons (g_off rfl rfl rfl rfl rfl) ?_ | refine awpOps_cons (g_on rfl rfl rfl (op_ld ty3 rfl rfl rfl)) ?_
    all_goals first | refine awpOps_cons (g_off rfl rfl rfl rfl rfl) ?_ | refine awpOps_cons (g_on rfl rfl rfl (op_eql rfl rfl rfl)) ?_
    all_goals refine awpOps_cons (op_pick rfl rfl rfl rfl) ?_
    all_goals refine awpOps_cons (op_mv rfl (Conv.of rfl) rfl) ?_
    all_goals first | refine g_lit (t := 16) (b := true) rfl ?_ | refine g_split (t := 16) rfl (fun h => ?_) (fun h => ?_)
    all_goals first | refine awpOps_cons (g_off rfl rfl rfl rfl rfl) ?_ | refine awpOps_cons (g_on rfl rfl rfl (op_mv rfl (Conv.of rfl) rfl)) ?_
    all_goals first | refine awpOps_cons (g_off rfl rfl rfl rfl rfl) ?_ | refine awpOps_cons (g_on rfl rfl rfl (op_nilc_box rfl rfl)) ?_
    all_goals first | refine awpOps_cons (g_off rfl rfl rfl rfl rfl) ?_ | refine awpOps_cons (g_on rfl rfl rfl (op_fab f29_2_WrldA rfl rfl)) ?_
    all_goals first | refine awpOps_cons (g_off rfl rfl rfl rfl rfl) ?_ | refine awpOps_cons (g_on rfl rfl rfl (op_ld ty27 rfl rfl rfl)) ?_
    all_goals first | refine awpOps_cons (g_off rfl rfl rfl rfl rfl) ?_ | refine awpOps_cons (g_on rfl rfl rfl (op_len sl27 rfl rfl)) ?_
    all_goals first | refine awpOps_cons (g_off rfl rfl rfl rfl rfl) ?_ | refine awpOps_cons (g_on rfl rfl rfl (op_geq rfl rfl rfl)) ?_
    all_goals refine awpOps_cons (op_pick rfl rfl rfl rfl) ?_
    all_goals refine awpOps_nil ?_
    all_goals exact Le.mk rfl (tlb rfl rfl rfl (tle rfl (rfl) rfl (tle rfl (by (simp_all [honestB]; try (rw [Bool.eq_iff_iff]; simp; try omega))) rfl tln))) (olk rfl (by exact obOkW rfl) (olk rfl (by exact obOk_arr) oln)) (hS_sub (a := wo w) rfl)
  refine awp_cond rfl (fun h => ?_) (fun h => ?_)
  · all_goals refine awp_seq (awp_region (id := 2) ?_)
    all_goals refine awpOps_cons (op_as rfl (Conv.of rfl) rfl) ?_
    all_goals refine awpOps_nil ?_
    refine awp_ret ?_
    repeat first | refine rt_seq ?_ | refine rt_block ?_
    rw [not_t h]
    exact ⟨_, _, res1E (wo w) rfl rfl rfl (olk rfl (obOkW rfl) (olk rfl obOk_arr oln)) (hS_keys rfl), rfl, rfl⟩
  · have h' := not_f h
    have hid : 1 ≤ id ∧ id ≤ 4 := by simp only [honestB, Bool.and_eq_true] at h'; simpa [within] using h'.1.1
    refine awp_skip ?_
    all_goals refine awp_seq (awp_region (id := 3) ?_)
    all_goals refine awpOps_cons (op_mv rfl (Conv.of rfl) rfl) ?_
    all_goals refine awpOps_cons (op_nilc_box rfl rfl) ?_
    all_goals refine awpOps_cons (op_fab f29_1_WrldA rfl rfl) ?_
    all_goals refine awpOps_cons (op_ld ty26_NRef rfl rfl rfl) ?_
    all_goals refine awpOps_cons (op_mv rfl (Conv.of rfl) rfl) ?_
    all_goals refine awpOps_cons (op_sub rfl rfl rfl (by omega)) ?_
    all_goals refine awpOps_cons (op_ixA sl26 rfl rfl rfl rfl ⟨by omega, by omega⟩) ?_
    all_goals refine awpOps_cons (op_as rfl (Conv.of rfl) rfl) ?_
    all_goals refine awpOps_nil ?_
    refine awp_ret ?_
    repeat first | refine rt_seq ?_ | refine rt_block ?_
    rw [h']
    exact ⟨_, _, res1E (wo w) rfl rfl rfl (olk rfl (obOkW rfl) (olk rfl obOk_arr oln)) (hS_keys rfl), rfl, rfl⟩
theorem tick_ct (w : Wrld) (hw : Fine w) : CtO Tryz.prog 98 [.box 0 (IsLens.whole WrldA)] (wo w) (.tup []) (wo (tickF w)) := by
  have hep := hw.ep
  have h4 := hw.four
  refine Ct.intro Tryz.func98 rfl rfl ?_
  all_goals refine awp_seq (awp_region (id := 0) ?_)
  all_goals refine awpOps_cons (op_mv rfl (Conv.of rfl) rfl) ?_
  all_goals refine awpOps_cons (op_mv rfl (Conv.of rfl) rfl) ?_
  all_goals refine awpOps_cons (op_nilc_box rfl rfl) ?_
  all_goals refine awpOps_cons (op_fab f29_0_WrldA rfl rfl) ?_
  all_goals refine awpOps_cons (op_ld ty3 rfl rfl rfl) ?_
  all_goals refine awpOps_cons (op_add rfl rfl rfl (by ((try simp only [wA]); omega))) ?_
  all_goals refine awpOps_cons (op_min rfl rfl rfl) ?_
  all_goals refine awpOps_cons (op_nilc_box rfl rfl) ?_
  all_goals refine awpOps_cons (op_fab f29_0_WrldA rfl rfl) ?_
  all_goals refine awpOps_cons (op_st ty3 rfl rfl (Conv.of rfl) rfl) ?_
  all_goals refine awpOps_nil ?_
  all_goals refine awp_seq (awp_region (id := 1) ?_)
  all_goals refine awpOps_cons (op_mv rfl (Conv.of rfl) rfl) ?_
  all_goals refine awpOps_cons (op_nilc_box rfl rfl) ?_
  all_goals refine awpOps_cons (op_fab f29_1_WrldA rfl rfl) ?_
  all_goals refine awpOps_cons (op_ld ty26_NRef rfl rfl rfl) ?_
  all_goals refine awpOps_cons (op_lenA sl26 rfl rfl rfl) ?_
  all_goals refine awpOps_cons (op_mv rfl (Conv.of rfl) rfl) ?_
  all_goals refine awpOps_nil ?_
  refine awp_block ?_
  refine awp_loop' (fun n s => ∃ (k : Nat), ∃ (hn : n + k = 4), s = mkSt 36 [(0, .box 0 (IsLens.whole WrldA)), (16, .v (NRef.ref 1)), (17, .v (4 : Int)), (18, .v (k : Int))] [(0, .cell (wA (tickF w))), (1, .arr ((w.nodes.take k).map (fun n => enterF n (min (w.epoch + 1) 30)) ++ w.nodes.drop k))]) (4) ⟨0, by omega, rfl⟩ (Le.mk rfl (tlb rfl rfl rfl (tlb rfl rfl rfl (tle rfl (by (rw [h4]; rfl)) rfl (tle rfl (rfl) rfl tln)))) (olk rfl (by exact obOkW rfl) (olk (by rfl) (by exact obOk_arr) oln)) (hS_sub (a := wo w) rfl)) ?_
  rintro n s ⟨k, hn, rfl⟩
  have hlen : ((w.nodes.take k).map (fun n => enterF n (min (w.epoch + 1) 30)) ++ w.nodes.drop k).length = 4 := by simp; omega
  all_goals refine awp_seq (awp_region (id := 2) ?_)
  all_goals refine awpOps_cons (op_lss rfl rfl rfl) ?_
  all_goals refine awpOps_nil ?_
  refine awp_seq (awp_cond rfl (fun h => ?_) (fun h => ?_))
  · have hlt : k < 4 := by simp at h; omega
    have hx : w.nodes[k]? = some w.nodes[k] := List.getElem?_eq_getElem (by omega)
    have hx' : ((w.nodes.take k).map (fun n => enterF n (min (w.epoch + 1) 30)) ++ w.nodes.drop k)[(k : Int).toNat]? = some w.nodes[k] := by
      rw [List.getElem?_append_right (by simp; omega)]
      simp [Nat.min_eq_left (show k ≤ w.nodes.length by omega), hx]
    have hne := hw.nep _ (List.getElem_mem (show k < w.nodes.length by omega))
    refine awp_skip ?_
    refine awp_seq (awp_block ?_)
    all_goals refine awp_seq (awp_region (id := 3) ?_)
    all_goals refine awpOps_cons (op_mv rfl (Conv.of rfl) rfl) ?_
    all_goals refine awpOps_cons (op_ixA sl26 rfl rfl rfl rfl ⟨by omega, by omega⟩) ?_
    all_goals refine awpOps_cons (op_lde ty39 rfl rfl hx' rfl) ?_
    all_goals refine awpOps_cons (op_alloc (o := 2) z39 rfl rfl) ?_
    all_goals refine awpOps_cons (op_as rfl (Conv.of rfl) rfl) ?_
    all_goals refine awpOps_cons (op_st ty39 rfl rfl (Conv.of rfl) rfl) ?_
    all_goals refine awpOps_nil ?_
    all_goals refine dr_start (id := 4) ?_
    all_goals refine dr_cons (op_mv rfl (Conv.of rfl) rfl) ?_
    all_goals refine dr_cons (op_nilc_box rfl rfl) ?_
    all_goals refine dr_cons (op_fab f29_1_WrldA rfl rfl) ?_
    all_goals refine dr_cons (op_ld ty26_NRef rfl rfl rfl) ?_
    all_goals refine dr_cons (op_mv rfl (Conv.of rfl) rfl) ?_
    all_goals refine dr_cons (op_ld ty39 rfl rfl rfl) ?_
    all_goals refine dr_cons (op_mv rfl (Conv.of rfl) rfl) ?_
    all_goals refine dr_cons (op_nilc_box rfl rfl) ?_
    all_goals refine dr_cons (op_fab f29_0_WrldA rfl rfl) ?_
    all_goals refine dr_cons (op_ld ty3 rfl rfl rfl) ?_
    all_goals refine dr_cons (op_call fb142 (.cons rfl (Conv.of rfl) (.cons rfl (Conv.of rfl) (.nil _))) (enter_ct _ _ hne) (argOk rfl rfl (argOk rfl rfl argOk0)) rfl rfl) ?_
    all_goals refine dr_cons (op_ixA sl26 rfl rfl rfl rfl ⟨by omega, by omega⟩) ?_
    all_goals refine dr_cons (op_ste ty39 rfl rfl (Conv.of rfl) rfl hx') ?_
    all_goals refine dr_nil mixed rfl ?_
    all_goals refine awp_region (id := 5) ?_
    all_goals refine awpOps_cons (op_add rfl rfl rfl (by omega)) ?_
    all_goals refine awpOps_cons (op_mv rfl (Conv.of rfl) rfl) ?_
    all_goals refine awpOps_nil ?_
    repeat first | refine nx_seq ?_ | refine nx_block ?_
    exact ⟨n - 1, _, by omega, ⟨k + 1, by omega, rfl⟩, Le.mk rfl (tlb rfl rfl rfl (tlb rfl rfl rfl (tle rfl (by rfl) rfl (tle rfl (rfl) rfl tln)))) (olk rfl (by exact obOkW rfl) (olk (by (exact congrArg Obj.arr (tick_step hx).symm)) (by exact obOk_arr) oln)) (hS_sub (a := wo w) rfl)⟩
  · refine awp_exit ?_
    repeat refine ex_seq ?_
    refine ex_block ?_
    have hk : k = 4 := by simp at h; omega
    subst hk
    refine finO (wo (tickF w)) .nil rfl (fun o ho => by cases ho) ?_ (hS_keys rfl) rfl
    exact (olk rfl (obOkW rfl) (olk (congrArg Obj.arr (by rw [take_end (by omega), drop_end (by omega), List.append_nil]; rfl)) obOk_arr oln))
end Go.Proofs.YtompnmkpgffhkaaGreat

/- What happens in a world. -/
set_option linter.unusedVariables false
set_option linter.unusedSimpArgs false
namespace Go.Proofs.YtompnmkpgffhkaaGreat
open Go Go.Wt
set_option maxHeartbeats 1000000 in
theorem wpropose_ct (w : Wrld) (id : Int) (p : Pay) (hw : Fine w) : CtO Tryz.prog 99 [.box 0 (IsLens.whole WrldA), .v id, .v p] (wo w) (.tup []) (wo (wproposeF w id p)) := by
  have h4 := hw.four
  have hc := honest_ct w id h4
  refine Ct.intro Tryz.func99 rfl rfl ?_
  all_goals refine awp_seq (awp_region (id := 0) ?_)
  all_goals refine awpOps_cons (op_box (o := 2) ty46 rfl (Conv.of rfl) rfl rfl) ?_
  all_goals refine awpOps_nil ?_
  cases hb : honestB w id with
  | false =>
    rw [hb] at hc
    all_goals refine awp_seq (awp_region (id := 1) ?_)
    all_goals refine awpOps_cons (op_mv rfl (Conv.of rfl) rfl) ?_
    all_goals refine awpOps_cons (op_mv rfl (Conv.of rfl) rfl) ?_
    all_goals refine awpOps_cons (op_callO fb143 (.cons rfl (Conv.of rfl) (.cons rfl (Conv.of rfl) (.nil _))) (hc) (olsk rfl (olsk rfl ols0)) (oksk (by exact obOkW rfl) (oksk (by exact obOk_arr) oks0)) (oksk (by exact obOkW rfl) (oksk (by exact obOk_arr) oks0)) rfl (argOb rfl rfl rfl (argOk' rfl rfl argO0)) (fun o ho => by cases ho) rfl) ?_
    all_goals refine awpOps_cons (op_as rfl (Conv.of rfl) rfl) ?_
    all_goals refine awpOps_nil ?_
    all_goals refine awp_seq (awp_seq (awp_region (id := 2) ?_))
    all_goals refine awpOps_cons (op_mv rfl (Conv.of rfl) rfl) ?_
    all_goals refine awpOps_cons (op_eqp_nil up145 rfl rfl) ?_
    all_goals refine awpOps_cons (op_mv rfl (Conv.of rfl) rfl) ?_
    all_goals refine g_lit (t := 15) (b := true) rfl ?_
    all_goals refine awpOps_cons (g_off rfl rfl rfl rfl rfl) ?_
    all_goals refine awpOps_cons (g_off rfl rfl rfl rfl rfl) ?_
    all_goals refine awpOps_cons (g_off rfl rfl rfl rfl rfl) ?_
    all_goals refine awpOps_cons (op_pick rfl rfl rfl rfl) ?_
    all_goals refine awpOps_nil ?_
    refine awp_cond rfl (fun h => ?_) (fun h => absurd h (by decide))
    refine awp_ret ?_
    repeat first | refine rt_seq ?_ | refine rt_block ?_
    refine finO (wo (wproposeF w id p)) .nil rfl (fun o ho => by cases ho) ?_ (hS_keys rfl) rfl
    simp only [wproposeF, hb, Bool.false_and]
    exact (olk rfl (obOkW rfl) (olk rfl obOk_arr oln))
  | true =>
    rw [hb] at hc
    simp only [if_true] at hc
    have hid : 1 ≤ id ∧ id ≤ 4 := by simp only [honestB, Bool.and_eq_true] at hb; simpa [within] using hb.1.1
    have hlt : (id - 1).toNat < w.nodes.length := by omega
    have hx : w.nodes[(id - 1).toNat]? = some w.nodes[(id - 1).toNat] := List.getElem?_eq_getElem hlt
    have hgd := hw.seen _ (List.getElem_mem hlt)
    generalize hnn : w.nodes[(id - 1).toNat] = n at hx hgd
    all_goals refine awp_seq (awp_region (id := 1) ?_)
    all_goals refine awpOps_cons (op_mv rfl (Conv.of rfl) rfl) ?_
    all_goals refine awpOps_cons (op_mv rfl (Conv.of rfl) rfl) ?_
    all_goals refine awpOps_cons (op_callO fb143 (.cons rfl (Conv.of rfl) (.cons rfl (Conv.of rfl) (.nil _))) (hc) (olsk rfl (olsk rfl ols0)) (oksk (by exact obOkW rfl) (oksk (by exact obOk_arr) oks0)) (oksk (by exact obOkW rfl) (oksk (by exact obOk_arr) oks0)) rfl (argOb rfl rfl rfl (argOk' rfl rfl argO0)) (fun o ho => by simp [AV.refs] at ho; subst ho; rfl) rfl) ?_
    all_goals refine awpOps_cons (op_as rfl (Conv.of rfl) rfl) ?_
    all_goals refine awpOps_nil ?_
    all_goals refine awp_seq (awp_seq (awp_region (id := 2) ?_))
    all_goals refine awpOps_cons (op_mv rfl (Conv.of rfl) rfl) ?_
    all_goals refine awpOps_cons (op_eqp_elm up145 rfl rfl) ?_
    all_goals refine awpOps_cons (op_mv rfl (Conv.of rfl) rfl) ?_
    all_goals refine g_lit (t := 15) (b := false) rfl ?_
    all_goals refine awpOps_cons (g_on rfl rfl rfl (op_ld ty46 rfl rfl rfl)) ?_
    all_goals refine awpOps_cons (g_on rfl rfl rfl (op_call fb115 (.cons rfl (Conv.of rfl) (.nil _)) (payOk_ct _) (argOk rfl rfl argOk0) rfl rfl)) ?_
    all_goals refine awpOps_cons (g_on rfl rfl rfl (op_not rfl rfl)) ?_
    all_goals refine awpOps_cons (op_pick rfl rfl rfl rfl) ?_
    all_goals refine awpOps_nil ?_
    refine awp_cond rfl (fun h => ?_) (fun h => ?_)
    · refine awp_ret ?_
      repeat first | refine rt_seq ?_ | refine rt_block ?_
      refine finO (wo (wproposeF w id p)) .nil rfl (fun o ho => by cases ho) ?_ (hS_keys rfl) rfl
      simp only [wproposeF, hb, not_t h, Bool.and_false]
      exact (olk rfl (obOkW rfl) (olk rfl obOk_arr oln))
    · have hp := not_f h
      refine awp_skip ?_
      all_goals refine awp_seq (dr_start (id := 3) ?_)
      all_goals refine dr_cons (op_mv rfl (Conv.of rfl) rfl) ?_
      all_goals refine dr_cons (op_nilc_elm rfl rfl) ?_
      all_goals refine dr_cons (op_lde ty39 rfl rfl hx rfl) ?_
      all_goals refine dr_cons (op_ld ty46 rfl rfl rfl) ?_
      all_goals refine dr_cons (op_call fb144 (.cons rfl (Conv.of rfl) (.cons rfl (Conv.of rfl) (.nil _))) (npropose_ct n p hgd) (argOk rfl rfl (argOk rfl rfl argOk0)) rfl rfl) ?_
      all_goals refine dr_cons (op_mv rfl (Conv.of rfl) rfl) ?_
      all_goals refine dr_cons (op_ext rfl rfl rfl) ?_
      all_goals refine dr_cons (op_ext rfl rfl rfl) ?_
      all_goals refine dr_cons (op_ext rfl rfl rfl) ?_
      all_goals refine dr_cons (op_alloc (o := 3) z39 rfl rfl) ?_
      all_goals refine dr_cons (op_alloc (o := 4) z48 rfl rfl) ?_
      all_goals refine dr_cons (op_st ty39 rfl rfl (Conv.of rfl) rfl) ?_
      all_goals refine dr_cons (op_st ty48 rfl rfl (Conv.of rfl) rfl) ?_
      all_goals refine dr_cons (op_as rfl (Conv.of rfl) rfl) ?_
      all_goals refine dr_nil mixed rfl ?_
      all_goals refine awp_seq (awp_region (id := 4) ?_)
      all_goals refine awpOps_cons (op_mv rfl (Conv.of rfl) rfl) ?_
      all_goals refine awpOps_cons (op_ld ty39 rfl rfl rfl) ?_
      all_goals refine awpOps_cons (op_nilc_elm rfl rfl) ?_
      all_goals refine awpOps_cons (op_ste ty39 rfl rfl (Conv.of rfl) rfl hx) ?_
      all_goals refine awpOps_nil ?_
      all_goals refine awp_seq (awp_region (id := 5) ?_)
      all_goals refine awpOps_cons (op_mv rfl (Conv.of rfl) rfl) ?_
      all_goals refine awpOps_nil ?_
      refine awp_cond rfl (fun h2 => ?_) (fun h2 => ?_)
      · all_goals refine awp_region (id := 6) ?_
        all_goals refine awpOps_cons (op_mv rfl (Conv.of rfl) rfl) ?_
        all_goals refine awpOps_cons (op_ld ty48 rfl rfl rfl) ?_
        all_goals refine awpOps_cons (op_callO fb102 (.cons rfl (Conv.of rfl) (.cons rfl (Conv.of rfl) (.nil _))) (send_ct { w with nodes := w.nodes.set (id - 1).toNat (proposeF n p).1 } _ hw.log (proposeF_len p hgd)) (olsk rfl (olsk rfl ols0)) (oksk (by exact obOkW rfl) (oksk (by exact obOk_arr) oks0)) (oksk (by exact obOkW rfl) (oksk (by exact obOk_arr) oks0)) rfl (argOb rfl rfl rfl (argOk' rfl rfl argO0)) (fun o ho => by cases ho) rfl) ?_
        all_goals refine awpOps_nil ?_
        refine finO (wo (wproposeF w id p)) .nil rfl (fun o ho => by cases ho) ?_ (hS_keys rfl) rfl
        have e : wproposeF w id p = sendF { w with nodes := w.nodes.set (id - 1).toNat (proposeF n p).1 } (proposeF n p).2.1 := by
          simp only [wproposeF, hb, hp, hx, Bool.and_self, if_true, putF]
          rw [if_pos (show (proposeF n p).2.2 = true from h2)]
        rw [e]
        exact (olk rfl (obOkW rfl) (olk rfl obOk_arr oln))
      · refine awp_skip ?_
        refine finO (wo (wproposeF w id p)) .nil rfl (fun o ho => by cases ho) ?_ (hS_keys rfl) rfl
        have e : wproposeF w id p = { w with nodes := w.nodes.set (id - 1).toNat (proposeF n p).1 } := by
          simp only [wproposeF, hb, hp, hx, Bool.and_self, if_true, putF]
          rw [if_neg (by rw [show (proposeF n p).2.2 = false from h2]; decide)]
        rw [e]
        exact (olk rfl (obOkW rfl) (olk rfl obOk_arr oln))
set_option maxHeartbeats 1000000 in
theorem wbring_ct (w : Wrld) (at_ id : Int) (hw : Fine w) : CtO Tryz.prog 100 [.box 0 (IsLens.whole WrldA), .v at_, .v id] (wo w) (.tup []) (wo (wbringF w at_ id)) := by
  have h4 := hw.four
  have hlg := hw.log.len
  have hc := honest_ct w id h4
  refine Ct.intro Tryz.func100 rfl rfl ?_
  cases hb : honestB w id with
  | false =>
    rw [hb] at hc
    all_goals refine awp_seq (awp_region (id := 0) ?_)
    all_goals refine awpOps_cons (op_mv rfl (Conv.of rfl) rfl) ?_
    all_goals refine awpOps_cons (op_mv rfl (Conv.of rfl) rfl) ?_
    all_goals refine awpOps_cons (op_callO fb143 (.cons rfl (Conv.of rfl) (.cons rfl (Conv.of rfl) (.nil _))) (hc) (olsk rfl (olsk rfl ols0)) (oksk (by exact obOkW rfl) (oksk (by exact obOk_arr) oks0)) (oksk (by exact obOkW rfl) (oksk (by exact obOk_arr) oks0)) rfl (argOb rfl rfl rfl (argOk' rfl rfl argO0)) (fun o ho => by cases ho) rfl) ?_
    all_goals refine awpOps_cons (op_as rfl (Conv.of rfl) rfl) ?_
    all_goals refine awpOps_nil ?_
    all_goals refine awp_seq (awp_seq (awp_region (id := 1) ?_))
    all_goals refine awpOps_cons (op_mv rfl (Conv.of rfl) rfl) ?_
    all_goals refine awpOps_cons (op_eqp_nil up145 rfl rfl) ?_
    all_goals refine awpOps_cons (op_mv rfl (Conv.of rfl) rfl) ?_
    all_goals refine g_lit (t := 15) (b := true) rfl ?_
    all_goals refine awpOps_cons (g_off rfl rfl rfl rfl rfl) ?_
    all_goals refine awpOps_cons (g_off rfl rfl rfl rfl rfl) ?_
    all_goals refine awpOps_cons (g_off rfl rfl rfl rfl rfl) ?_
    all_goals refine awpOps_cons (g_off rfl rfl rfl rfl rfl) ?_
    all_goals refine awpOps_cons (g_off rfl rfl rfl rfl rfl) ?_
    all_goals refine awpOps_cons (g_off rfl rfl rfl rfl rfl) ?_
    all_goals refine awpOps_cons (g_off rfl rfl rfl rfl rfl) ?_
    all_goals refine awpOps_cons (g_off rfl rfl rfl rfl rfl) ?_
    all_goals refine awpOps_cons (g_off rfl rfl rfl rfl rfl) ?_
    all_goals refine awpOps_cons (op_pick rfl rfl rfl rfl) ?_
    all_goals refine awpOps_nil ?_
    refine awp_cond rfl (fun h => ?_) (fun h => absurd h (by decide))
    refine awp_ret ?_
    repeat first | refine rt_seq ?_ | refine rt_block ?_
    refine finO (wo (wbringF w at_ id)) .nil rfl (fun o ho => by cases ho) ?_ (hS_keys rfl) rfl
    simp only [wbringF, hb, Bool.false_and]
    exact (olk rfl (obOkW rfl) (olk rfl obOk_arr oln))
  | true =>
    rw [hb] at hc
    simp only [if_true] at hc
    have hid : 1 ≤ id ∧ id ≤ 4 := by simp only [honestB, Bool.and_eq_true] at hb; simpa [within] using hb.1.1
    have hlt : (id - 1).toNat < w.nodes.length := by omega
    have hx : w.nodes[(id - 1).toNat]? = some w.nodes[(id - 1).toNat] := List.getElem?_eq_getElem hlt
    have hgd := hw.seen _ (List.getElem_mem hlt)
    generalize hnn : w.nodes[(id - 1).toNat] = n at hx hgd
    all_goals refine awp_seq (awp_region (id := 0) ?_)
    all_goals refine awpOps_cons (op_mv rfl (Conv.of rfl) rfl) ?_
    all_goals refine awpOps_cons (op_mv rfl (Conv.of rfl) rfl) ?_
    all_goals refine awpOps_cons (op_callO fb143 (.cons rfl (Conv.of rfl) (.cons rfl (Conv.of rfl) (.nil _))) (hc) (olsk rfl (olsk rfl ols0)) (oksk (by exact obOkW rfl) (oksk (by exact obOk_arr) oks0)) (oksk (by exact obOkW rfl) (oksk (by exact obOk_arr) oks0)) rfl (argOb rfl rfl rfl (argOk' rfl rfl argO0)) (fun o ho => by simp [AV.refs] at ho; subst ho; rfl) rfl) ?_
    all_goals refine awpOps_cons (op_as rfl (Conv.of rfl) rfl) ?_
    all_goals refine awpOps_nil ?_
    all_goals refine awp_seq (awp_seq (awp_region (id := 1) ?_))
    all_goals refine awpOps_cons (op_mv rfl (Conv.of rfl) rfl) ?_
    all_goals refine awpOps_cons (op_eqp_elm up145 rfl rfl) ?_
    all_goals refine awpOps_cons (op_mv rfl (Conv.of rfl) rfl) ?_
    all_goals refine g_lit (t := 15) (b := false) rfl ?_
    all_goals refine awpOps_cons (g_on rfl rfl rfl (op_mv rfl (Conv.of rfl) rfl)) ?_
    all_goals refine awpOps_cons (g_on rfl rfl rfl (op_mv rfl (Conv.of rfl) rfl)) ?_
    all_goals refine awpOps_cons (g_on rfl rfl rfl (op_nilc_box rfl rfl)) ?_
    all_goals refine awpOps_cons (g_on rfl rfl rfl (op_fab f29_2_WrldA rfl rfl)) ?_
    all_goals refine awpOps_cons (g_on rfl rfl rfl (op_ld ty27 rfl rfl rfl)) ?_
    all_goals refine awpOps_cons (g_on rfl rfl rfl (op_len sl27 rfl rfl)) ?_
    all_goals refine awpOps_cons (g_on rfl rfl rfl (op_sub rfl rfl rfl (by ((try simp only [wA]); omega)))) ?_
    all_goals refine awpOps_cons (g_on rfl rfl rfl (op_call fb54 (.cons rfl (Conv.of rfl) (.cons rfl (Conv.of rfl) (.cons rfl (Conv.of rfl) (.nil _)))) (within_ct _ _ _) (argOk rfl rfl (argOk rfl rfl (argOk rfl rfl argOk0))) rfl rfl)) ?_
    all_goals refine awpOps_cons (g_on rfl rfl rfl (op_not rfl rfl)) ?_
    all_goals refine awpOps_cons (op_pick rfl rfl rfl rfl) ?_
    all_goals refine awpOps_nil ?_
    refine awp_cond rfl (fun h => ?_) (fun h => ?_)
    · refine awp_ret ?_
      repeat first | refine rt_seq ?_ | refine rt_block ?_
      refine finO (wo (wbringF w at_ id)) .nil rfl (fun o ho => by cases ho) ?_ (hS_keys rfl) rfl
      have h' : within at_ 0 ((w.log.length : Int) - 1) = false := not_t h
      simp only [wbringF, hb, h', Bool.and_false]
      exact (olk rfl (obOkW rfl) (olk rfl obOk_arr oln))
    · have h' : within at_ 0 ((w.log.length : Int) - 1) = true := not_f h
      have hat : 0 ≤ at_ ∧ at_ ≤ (w.log.length : Int) - 1 := by simpa [within] using h'
      have hy : w.log[at_.toNat]? = some (w.log[at_.toNat]'(by omega)) := List.getElem?_eq_getElem (by omega)
      generalize (w.log[at_.toNat]'(by omega)) = v at hy
      refine awp_skip ?_
      all_goals refine awp_seq (dr_start (id := 2) ?_)
      all_goals refine dr_cons (op_mv rfl (Conv.of rfl) rfl) ?_
      all_goals refine dr_cons (op_nilc_elm rfl rfl) ?_
      all_goals refine dr_cons (op_lde ty39 rfl rfl hx rfl) ?_
      all_goals refine dr_cons (op_mv rfl (Conv.of rfl) rfl) ?_
      all_goals refine dr_cons (op_nilc_box rfl rfl) ?_
      all_goals refine dr_cons (op_fab f29_2_WrldA rfl rfl) ?_
      all_goals refine dr_cons (op_ld ty27 rfl rfl rfl) ?_
      all_goals refine dr_cons (op_mv rfl (Conv.of rfl) rfl) ?_
      all_goals refine dr_cons (op_ix sl27 rfl rfl rfl hat.1 hy) ?_
      all_goals refine dr_cons (op_ldr ty48 rfl rfl) ?_
      all_goals refine dr_cons (op_call fb145 (.cons rfl (Conv.of rfl) (.cons rfl (Conv.of rfl) (.nil _))) (nhear_ct n v hgd) (argOk rfl rfl (argOk rfl rfl argOk0)) rfl rfl) ?_
      all_goals refine dr_cons (op_mv rfl (Conv.of rfl) rfl) ?_
      all_goals refine dr_cons (op_ext rfl rfl rfl) ?_
      all_goals refine dr_cons (op_ext rfl rfl rfl) ?_
      all_goals refine dr_cons (op_ext rfl rfl rfl) ?_
      all_goals refine dr_cons (op_alloc (o := 2) z39 rfl rfl) ?_
      all_goals refine dr_cons (op_alloc (o := 3) z48 rfl rfl) ?_
      all_goals refine dr_cons (op_st ty39 rfl rfl (Conv.of rfl) rfl) ?_
      all_goals refine dr_cons (op_st ty48 rfl rfl (Conv.of rfl) rfl) ?_
      all_goals refine dr_cons (op_as rfl (Conv.of rfl) rfl) ?_
      all_goals refine dr_nil mixed rfl ?_
      all_goals refine awp_seq (awp_region (id := 3) ?_)
      all_goals refine awpOps_cons (op_mv rfl (Conv.of rfl) rfl) ?_
      all_goals refine awpOps_cons (op_ld ty39 rfl rfl rfl) ?_
      all_goals refine awpOps_cons (op_nilc_elm rfl rfl) ?_
      all_goals refine awpOps_cons (op_ste ty39 rfl rfl (Conv.of rfl) rfl hx) ?_
      all_goals refine awpOps_nil ?_
      all_goals refine awp_seq (awp_region (id := 4) ?_)
      all_goals refine awpOps_cons (op_mv rfl (Conv.of rfl) rfl) ?_
      all_goals refine awpOps_nil ?_
      refine awp_cond rfl (fun h2 => ?_) (fun h2 => ?_)
      · all_goals refine awp_region (id := 5) ?_
        all_goals refine awpOps_cons (op_mv rfl (Conv.of rfl) rfl) ?_
        all_goals refine awpOps_cons (op_ld ty48 rfl rfl rfl) ?_
        all_goals refine awpOps_cons (op_callO fb102 (.cons rfl (Conv.of rfl) (.cons rfl (Conv.of rfl) (.nil _))) (send_ct { w with nodes := w.nodes.set (id - 1).toNat (hearF n v).1 } _ hw.log (hearF_len v hgd)) (olsk rfl (olsk rfl ols0)) (oksk (by exact obOkW rfl) (oksk (by exact obOk_arr) oks0)) (oksk (by exact obOkW rfl) (oksk (by exact obOk_arr) oks0)) rfl (argOb rfl rfl rfl (argOk' rfl rfl argO0)) (fun o ho => by cases ho) rfl) ?_
        all_goals refine awpOps_nil ?_
        refine finO (wo (wbringF w at_ id)) .nil rfl (fun o ho => by cases ho) ?_ (hS_keys rfl) rfl
        have e : wbringF w at_ id = sendF { w with nodes := w.nodes.set (id - 1).toNat (hearF n v).1 } (hearF n v).2.1 := by
          simp only [wbringF, hb, h', hx, hy, Bool.and_self, if_true, putF]
          rw [if_pos (show (hearF n v).2.2 = true from h2)]
        rw [e]
        exact (olk rfl (obOkW rfl) (olk rfl obOk_arr oln))
      · refine awp_skip ?_
        refine finO (wo (wbringF w at_ id)) .nil rfl (fun o ho => by cases ho) ?_ (hS_keys rfl) rfl
        have e : wbringF w at_ id = { w with nodes := w.nodes.set (id - 1).toNat (hearF n v).1 } := by
          simp only [wbringF, hb, h', hx, hy, Bool.and_self, if_true, putF]
          rw [if_neg (by rw [show (hearF n v).2.2 = false from h2]; decide)]
        rw [e]
        exact (olk rfl (obOkW rfl) (olk rfl obOk_arr oln))
set_option maxHeartbeats 1000000 in
theorem do_ct (w : Wrld) (e : Evt) (hw : Fine w) : CtO Tryz.prog 48 [.box 0 (IsLens.whole WrldA), .v e] (wo w) (.tup []) (wo (doF w e)) := by
  refine Ct.intro Tryz.func48 rfl rfl ?_
  all_goals refine awp_seq (awp_region (id := 0) ?_)
  all_goals refine awpOps_cons (op_box (o := 2) ty50 rfl (Conv.of rfl) rfl rfl) ?_
  all_goals refine awpOps_nil ?_
  all_goals refine awp_seq (awp_region (id := 1) ?_)
  all_goals refine awpOps_cons (op_fab f50_0 rfl rfl) ?_
  all_goals refine awpOps_cons (op_ld ty3 rfl rfl rfl) ?_
  all_goals refine awpOps_nil ?_
  refine awp_block ?_
  all_goals refine awp_seq (awp_region (id := 2) ?_)
  all_goals refine awpOps_cons (op_eql rfl rfl rfl) ?_
  all_goals refine awpOps_cons (op_as rfl (Conv.of rfl) rfl) ?_
  all_goals refine awpOps_nil ?_
  refine awp_cond rfl (fun h1 => ?_) (fun h1 => ?_)
  · have k1 : e.kind = 1 := by simpa using h1
    all_goals refine awp_region (id := 3) ?_
    all_goals refine awpOps_cons (op_mv rfl (Conv.of rfl) rfl) ?_
    all_goals refine awpOps_cons (op_callO fb98 (.cons rfl (Conv.of rfl) (.nil _)) (tick_ct w hw) (olsk rfl (olsk rfl ols0)) (oksk (by exact obOkW rfl) (oksk (by exact obOk_arr) oks0)) (oksk (by exact obOkW rfl) (oksk (by exact obOk_arr) oks0)) rfl (argOb rfl rfl rfl argO0) (fun o ho => by cases ho) rfl) ?_
    all_goals refine awpOps_nil ?_
    refine finO (wo (doF w e)) .nil rfl (fun o ho => by cases ho) ?_ (hS_keys rfl) rfl
    rw [doF, if_pos k1]
    exact (olk rfl (obOkW rfl) (olk rfl obOk_arr oln))
  · have k1 : ¬ e.kind = 1 := by simpa using h1
    all_goals refine awp_seq (awp_region (id := 4) ?_)
    all_goals refine awpOps_cons (op_eql rfl rfl rfl) ?_
    all_goals refine awpOps_cons (op_as rfl (Conv.of rfl) rfl) ?_
    all_goals refine awpOps_nil ?_
    refine awp_cond rfl (fun h2 => ?_) (fun h2 => ?_)
    · have k2 : e.kind = 2 := by simpa using h2
      all_goals refine awp_region (id := 5) ?_
      all_goals refine awpOps_cons (op_mv rfl (Conv.of rfl) rfl) ?_
      all_goals refine awpOps_cons (op_fab f50_1 rfl rfl) ?_
      all_goals refine awpOps_cons (op_ld ty3 rfl rfl rfl) ?_
      all_goals refine awpOps_cons (op_fab f50_3 rfl rfl) ?_
      all_goals refine awpOps_cons (op_ld ty46 rfl rfl rfl) ?_
      all_goals refine awpOps_cons (op_callO fb99 (.cons rfl (Conv.of rfl) (.cons rfl (Conv.of rfl) (.cons rfl (Conv.of rfl) (.nil _)))) (wpropose_ct w _ _ hw) (olsk rfl (olsk rfl ols0)) (oksk (by exact obOkW rfl) (oksk (by exact obOk_arr) oks0)) (oksk (by exact obOkW rfl) (oksk (by exact obOk_arr) oks0)) rfl (argOb rfl rfl rfl (argOk' rfl rfl (argOk' rfl rfl argO0))) (fun o ho => by cases ho) rfl) ?_
      all_goals refine awpOps_nil ?_
      refine finO (wo (doF w e)) .nil rfl (fun o ho => by cases ho) ?_ (hS_keys rfl) rfl
      rw [doF, if_neg k1, if_pos k2]
      exact (olk rfl (obOkW rfl) (olk rfl obOk_arr oln))
    · have k2 : ¬ e.kind = 2 := by simpa using h2
      all_goals refine awp_seq (awp_region (id := 6) ?_)
      all_goals refine awpOps_cons (op_eql rfl rfl rfl) ?_
      all_goals refine awpOps_cons (op_as rfl (Conv.of rfl) rfl) ?_
      all_goals refine awpOps_nil ?_
      refine awp_cond rfl (fun h3 => ?_) (fun h3 => ?_)
      · have k3 : e.kind = 3 := by simpa using h3
        all_goals refine awp_region (id := 7) ?_
        all_goals refine awpOps_cons (op_mv rfl (Conv.of rfl) rfl) ?_
        all_goals refine awpOps_cons (op_fab f50_1 rfl rfl) ?_
        all_goals refine awpOps_cons (op_ld ty3 rfl rfl rfl) ?_
        all_goals refine awpOps_cons (op_fab f50_2 rfl rfl) ?_
        all_goals refine awpOps_cons (op_ld ty3 rfl rfl rfl) ?_
        all_goals refine awpOps_cons (op_callO fb100 (.cons rfl (Conv.of rfl) (.cons rfl (Conv.of rfl) (.cons rfl (Conv.of rfl) (.nil _)))) (wbring_ct w _ _ hw) (olsk rfl (olsk rfl ols0)) (oksk (by exact obOkW rfl) (oksk (by exact obOk_arr) oks0)) (oksk (by exact obOkW rfl) (oksk (by exact obOk_arr) oks0)) rfl (argOb rfl rfl rfl (argOk' rfl rfl (argOk' rfl rfl argO0))) (fun o ho => by cases ho) rfl) ?_
        all_goals refine awpOps_nil ?_
        refine finO (wo (doF w e)) .nil rfl (fun o ho => by cases ho) ?_ (hS_keys rfl) rfl
        rw [doF, if_neg k1, if_neg k2, if_pos k3]
        exact (olk rfl (obOkW rfl) (olk rfl obOk_arr oln))
      · have k3 : ¬ e.kind = 3 := by simpa using h3
        all_goals refine awp_seq (awp_region (id := 8) ?_)
        all_goals refine awpOps_cons (op_eql rfl rfl rfl) ?_
        all_goals refine awpOps_cons (op_as rfl (Conv.of rfl) rfl) ?_
        all_goals refine awpOps_nil ?_
        refine awp_cond rfl (fun h4 => ?_) (fun h4 => ?_)
        · have k4 : e.kind = 4 := by simpa using h4
          refine awp_seq_to (s' := mkSt 45 [(0, .box 0 (IsLens.whole WrldA)), (3, .box 2 (IsLens.whole Evt)), (40, .v (voteOk e.vote && decide (e.vote.by_ = w.bad)))] [(0, .cell (wA w)), (1, .arr w.nodes), (2, .cell e)]) ?_ ?_
          · all_goals refine dr_start (id := 9) ?_
            all_goals refine dr_cons (op_fab f50_4 rfl rfl) ?_
            all_goals refine dr_cons (op_ld ty48 rfl rfl rfl) ?_
            all_goals refine dr_cons (op_call fb101 (.cons rfl (Conv.of rfl) (.nil _)) (voteOk_ct _) (argOk rfl rfl argOk0) rfl rfl) ?_
            all_goals refine dr_cons (op_mv rfl (Conv.of rfl) rfl) ?_
            all_goals refine dr_split (t := 31) rfl (fun h => ?_) (fun h => ?_)
            all_goals first | refine dr_cons (g_off rfl rfl rfl rfl rfl) ?_ | refine dr_cons (g_on rfl rfl rfl (op_fab f50_4 rfl rfl)) ?_
            all_goals first | refine dr_cons (g_off rfl rfl rfl rfl rfl) ?_ | refine dr_cons (g_on rfl rfl rfl (op_fab f48_0 rfl rfl)) ?_
            all_goals first | refine dr_cons (g_off rfl rfl rfl rfl rfl) ?_ | refine dr_cons (g_on rfl rfl rfl (op_ld ty3 rfl rfl rfl)) ?_
            all_goals first | refine dr_cons (g_off rfl rfl rfl rfl rfl) ?_ | refine dr_cons (g_on rfl rfl rfl (op_mv rfl (Conv.of rfl) rfl)) ?_
            all_goals first | refine dr_cons (g_off rfl rfl rfl rfl rfl) ?_ | refine dr_cons (g_on rfl rfl rfl (op_nilc_box rfl rfl)) ?_
            all_goals first | refine dr_cons (g_off rfl rfl rfl rfl rfl) ?_ | refine dr_cons (g_on rfl rfl rfl (op_fab f29_3_WrldA rfl rfl)) ?_
            all_goals first | refine dr_cons (g_off rfl rfl rfl rfl rfl) ?_ | refine dr_cons (g_on rfl rfl rfl (op_ld ty3 rfl rfl rfl)) ?_
            all_goals first | refine dr_cons (g_off rfl rfl rfl rfl rfl) ?_ | refine dr_cons (g_on rfl rfl rfl (op_eql rfl rfl rfl)) ?_
            all_goals refine dr_cons (op_pick rfl rfl rfl rfl) ?_
            all_goals refine dr_nil mixed rfl ?_
            all_goals exact Le.mk rfl (tlb rfl rfl rfl (tlb rfl rfl rfl (tle rfl (by (clear h1 h2 h3 h4; simp_all; try (rw [Bool.eq_iff_iff]; simp))) rfl tln))) (olk rfl (by exact obOkW rfl) (olk rfl (by exact obOk_arr) (olk rfl (by exact obOk_cell) oln))) (hS_sub (a := wo w) rfl)
          refine awp_cond rfl (fun h5 => ?_) (fun h5 => ?_)
          · have hvo : voteOk e.vote = true := by simp only [Bool.and_eq_true] at h5; exact h5.1
            all_goals refine awp_region (id := 10) ?_
            all_goals refine awpOps_cons (op_mv rfl (Conv.of rfl) rfl) ?_
            all_goals refine awpOps_cons (op_fab f50_4 rfl rfl) ?_
            all_goals refine awpOps_cons (op_ld ty48 rfl rfl rfl) ?_
            all_goals refine awpOps_cons (op_callO fb102 (.cons rfl (Conv.of rfl) (.cons rfl (Conv.of rfl) (.nil _))) (send_ct w _ hw.log (voteOk_len hvo)) (olsk rfl (olsk rfl ols0)) (oksk (by exact obOkW rfl) (oksk (by exact obOk_arr) oks0)) (oksk (by exact obOkW rfl) (oksk (by exact obOk_arr) oks0)) rfl (argOb rfl rfl rfl (argOk' rfl rfl argO0)) (fun o ho => by cases ho) rfl) ?_
            all_goals refine awpOps_nil ?_
            refine finO (wo (doF w e)) .nil rfl (fun o ho => by cases ho) ?_ (hS_keys rfl) rfl
            rw [doF, if_neg k1, if_neg k2, if_neg k3, if_pos k4, h5, if_pos rfl]
            exact (olk rfl (obOkW rfl) (olk rfl obOk_arr oln))
          · refine awp_skip ?_
            refine finO (wo (doF w e)) .nil rfl (fun o ho => by cases ho) ?_ (hS_keys rfl) rfl
            rw [doF, if_neg k1, if_neg k2, if_neg k3, if_pos k4, h5, if_neg (by decide)]
            exact (olk rfl (obOkW rfl) (olk rfl obOk_arr oln))
        · have k4 : ¬ e.kind = 4 := by simpa using h4
          refine awp_skip ?_
          refine finO (wo (doF w e)) .nil rfl (fun o ho => by cases ho) ?_ (hS_keys rfl) rfl
          rw [doF, if_neg k1, if_neg k2, if_neg k3, if_neg k4]
          exact (olk rfl (obOkW rfl) (olk rfl obOk_arr oln))
end Go.Proofs.YtompnmkpgffhkaaGreat

/- Plays. -/
set_option linter.unusedVariables false
set_option linter.unusedSimpArgs false
namespace Go.Proofs.YtompnmkpgffhkaaGreat
open Go Go.Wt
theorem worldNewBad_ct (bad : Int) (hb : within bad 0 4 = false) : CtP Tryz.prog 37 [.v bad] (.tup [.v WrldA.zero, .v false]) := by
  refine Ct.intro Tryz.func37 rfl rfl ?_
  all_goals refine awp_seq (awp_region (id := 0) ?_)
  all_goals refine awpOps_cons (op_alloc (o := 0) z29_WrldA rfl rfl) ?_
  all_goals refine awpOps_cons (op_as rfl (Conv.of rfl) rfl) ?_
  all_goals refine awpOps_nil ?_
  all_goals refine awp_seq (awp_seq (awp_region (id := 1) ?_))
  all_goals refine awpOps_cons (op_mv rfl (Conv.of rfl) rfl) ?_
  all_goals refine awpOps_cons (op_call fb54 (.cons rfl (Conv.of rfl) (.cons rfl (Conv.of rfl) (.cons rfl (Conv.of rfl) (.nil _)))) (within_ct _ _ _) (argOk rfl rfl (argOk rfl rfl (argOk rfl rfl argOk0))) rfl rfl) ?_
  all_goals refine awpOps_cons (op_not rfl rfl) ?_
  all_goals refine awpOps_nil ?_
  refine awp_cond rfl (fun h => ?_) (fun h => absurd (not_f h) (by rw [hb]; decide))
  all_goals refine awp_seq (awp_region (id := 2) ?_)
  all_goals refine awpOps_cons (op_build (.nil _) z29_WrldA rfl pl29 rfl) ?_
  all_goals refine awpOps_cons (op_st ty29_WrldA rfl rfl (Conv.of rfl) rfl) ?_
  all_goals refine awpOps_cons (op_as rfl (Conv.of rfl) rfl) ?_
  all_goals refine awpOps_nil ?_
  refine awp_ret ?_
  repeat first | refine rt_seq ?_ | refine rt_block ?_
  exact finN (.cons (.rc ty29_WrldA rfl rfl) (.cons (.v rfl (Conv.of rfl)) .nil)) rfl rfl rfl
theorem worldNew_ct (bad : Int) (hb : within bad 0 4 = true) : Ct Tryz.prog 37 [.v bad] noObj (fun r1 h1 => r1 = .tup [.v (wA (newW bad)), .v true] ∧ h1 = obs [(1, .arr (newW bad).nodes)]) := by
  refine Ct.intro Tryz.func37 rfl rfl ?_
  all_goals refine awp_seq (awp_region (id := 0) ?_)
  all_goals refine awpOps_cons (op_alloc (o := 5) z29_WrldA rfl rfl) ?_
  all_goals refine awpOps_cons (op_as rfl (Conv.of rfl) rfl) ?_
  all_goals refine awpOps_nil ?_
  all_goals refine awp_seq (awp_seq (awp_region (id := 1) ?_))
  all_goals refine awpOps_cons (op_mv rfl (Conv.of rfl) rfl) ?_
  all_goals refine awpOps_cons (op_call fb54 (.cons rfl (Conv.of rfl) (.cons rfl (Conv.of rfl) (.cons rfl (Conv.of rfl) (.nil _)))) (within_ct _ _ _) (argOk rfl rfl (argOk rfl rfl (argOk rfl rfl argOk0))) rfl rfl) ?_
  all_goals refine awpOps_cons (op_not rfl rfl) ?_
  all_goals refine awpOps_nil ?_
  refine awp_cond rfl (fun h => absurd (not_t h) (by rw [hb]; decide)) (fun h => ?_)
  refine awp_skip ?_
  all_goals refine awp_seq (awp_region (id := 3) ?_)
  all_goals refine awpOps_cons (op_mv rfl (Conv.of rfl) rfl) ?_
  all_goals refine awpOps_cons (op_mka (o := 11) sl26 z39 rfl rfl (by decide) (by decide) (by decide) rfl rfl) ?_
  all_goals refine awpOps_cons (op_build (.cons f29_3_WrldA rfl (Conv.of rfl) (.cons f29_1_WrldA rfl (Conv.nr) (.nil _))) z29_WrldA rfl pl29 rfl) ?_
  all_goals refine awpOps_cons (op_alloc (o := 0) z29_WrldA rfl rfl) ?_
  all_goals refine awpOps_cons (op_st ty29_WrldA rfl rfl (Conv.of rfl) rfl) ?_
  all_goals refine awpOps_nil ?_
  all_goals refine awp_seq (awp_seq (awp_region (id := 4) ?_))
  all_goals refine awpOps_cons (op_as rfl (Conv.of rfl) rfl) ?_
  all_goals refine awpOps_nil ?_
  refine awp_block ?_
  refine awp_loop' (fun n s => (n = 4 ∧ s = mkSt 25 [(2, .box 5 (IsLens.whole WrldA)), (4, .box 0 (IsLens.whole WrldA)), (5, .v (1 : Int))] [(0, .cell (WrldA.mk 0 (.ref 11) [] bad)), (5, .cell WrldA.zero), (11, .arr ([] : List Nod))]) ∨ (n = 3 ∧ s = mkSt 25 [(2, .box 5 (IsLens.whole WrldA)), (4, .box 0 (IsLens.whole WrldA)), (5, .v (2 : Int))] [(0, .cell (WrldA.mk 0 (.ref 12) [] bad)), (5, .cell WrldA.zero), (12, .arr ([newN 1] : List Nod))]) ∨ (n = 2 ∧ s = mkSt 25 [(2, .box 5 (IsLens.whole WrldA)), (4, .box 0 (IsLens.whole WrldA)), (5, .v (3 : Int))] [(0, .cell (WrldA.mk 0 (.ref 13) [] bad)), (5, .cell WrldA.zero), (13, .arr ([newN 1, newN 2] : List Nod))]) ∨ (n = 1 ∧ s = mkSt 25 [(2, .box 5 (IsLens.whole WrldA)), (4, .box 0 (IsLens.whole WrldA)), (5, .v (4 : Int))] [(0, .cell (WrldA.mk 0 (.ref 14) [] bad)), (5, .cell WrldA.zero), (14, .arr ([newN 1, newN 2, newN 3] : List Nod))]) ∨ (n = 0 ∧ s = mkSt 25 [(2, .box 5 (IsLens.whole WrldA)), (4, .box 0 (IsLens.whole WrldA)), (5, .v (5 : Int))] [(0, .cell (WrldA.mk 0 (.ref 1) [] bad)), (5, .cell WrldA.zero), (1, .arr ([newN 1, newN 2, newN 3, newN 4] : List Nod))])) 4 (.inl ⟨rfl, rfl⟩) (Le.mk rfl (tlb rfl rfl rfl (tlb rfl rfl rfl (tle rfl (rfl) rfl tln))) (olk rfl (by exact obOkW rfl) (olk rfl (by exact obOkW0) (olk rfl (by exact obOk_arr) oln))) noS) ?_
  rintro n s (⟨rfl, rfl⟩|⟨rfl, rfl⟩|⟨rfl, rfl⟩|⟨rfl, rfl⟩|⟨rfl, rfl⟩)
  · all_goals refine awp_seq (awp_seq (awp_region (id := 5) ?_))
    all_goals refine awpOps_cons (op_mv rfl (Conv.of rfl) rfl) ?_
    all_goals refine awpOps_cons (op_leq rfl rfl rfl) ?_
    all_goals refine awpOps_nil ?_
    refine awp_cond rfl (fun h => ?_) (fun h => absurd h (by decide))
    refine awp_skip ?_
    refine awp_seq (awp_block ?_)
    all_goals refine awp_region (id := 7) ?_
    all_goals refine awpOps_cons (op_fab f29_1_WrldA rfl rfl) ?_
    all_goals refine awpOps_cons (op_ld ty26_NRef rfl rfl rfl) ?_
    all_goals refine awpOps_cons (op_mv rfl (Conv.of rfl) rfl) ?_
    all_goals refine awpOps_cons (op_build (.cons f39_0 rfl (Conv.of rfl) (.nil _)) z39 rfl pl39 rfl) ?_
    all_goals refine awpOps_cons (op_bsl sl26 z39 (.cons rfl (Conv.of rfl) (.nil _)) rfl (by decide) rfl) ?_
    all_goals refine awpOps_cons (op_apA (o' := 12) sl26 z39 ul26 rfl rfl rfl rfl (by simp) (by decide) (by decide) rfl) ?_
    all_goals refine awpOps_cons (op_fab f29_1_WrldA rfl rfl) ?_
    all_goals refine awpOps_cons (op_st ty26_NRef rfl rfl (Conv.of rfl) rfl) ?_
    all_goals refine awpOps_nil ?_
    all_goals refine awp_region (id := 6) ?_
    all_goals refine awpOps_cons (op_mv rfl (Conv.of rfl) rfl) ?_
    all_goals refine awpOps_cons (op_add rfl rfl rfl (by omega)) ?_
    all_goals refine awpOps_cons (op_as rfl (Conv.of rfl) rfl) ?_
    all_goals refine awpOps_nil ?_
    repeat first | refine nx_seq ?_ | refine nx_block ?_
    exact ⟨3, _, by decide, .inr (.inl ⟨rfl, rfl⟩), Le.mk rfl (tlb rfl rfl rfl (tlb rfl rfl rfl (tle rfl (rfl) rfl tln))) (olk rfl (by exact obOkW rfl) (olk rfl (by exact obOkW0) (olk rfl (by exact obOk_arr) oln))) noS⟩
  · all_goals refine awp_seq (awp_seq (awp_region (id := 5) ?_))
    all_goals refine awpOps_cons (op_mv rfl (Conv.of rfl) rfl) ?_
    all_goals refine awpOps_cons (op_leq rfl rfl rfl) ?_
    all_goals refine awpOps_nil ?_
    refine awp_cond rfl (fun h => ?_) (fun h => absurd h (by decide))
    refine awp_skip ?_
    refine awp_seq (awp_block ?_)
    all_goals refine awp_region (id := 7) ?_
    all_goals refine awpOps_cons (op_fab f29_1_WrldA rfl rfl) ?_
    all_goals refine awpOps_cons (op_ld ty26_NRef rfl rfl rfl) ?_
    all_goals refine awpOps_cons (op_mv rfl (Conv.of rfl) rfl) ?_
    all_goals refine awpOps_cons (op_build (.cons f39_0 rfl (Conv.of rfl) (.nil _)) z39 rfl pl39 rfl) ?_
    all_goals refine awpOps_cons (op_bsl sl26 z39 (.cons rfl (Conv.of rfl) (.nil _)) rfl (by decide) rfl) ?_
    all_goals refine awpOps_cons (op_apA (o' := 13) sl26 z39 ul26 rfl rfl rfl rfl (by simp) (by decide) (by decide) rfl) ?_
    all_goals refine awpOps_cons (op_fab f29_1_WrldA rfl rfl) ?_
    all_goals refine awpOps_cons (op_st ty26_NRef rfl rfl (Conv.of rfl) rfl) ?_
    all_goals refine awpOps_nil ?_
    all_goals refine awp_region (id := 6) ?_
    all_goals refine awpOps_cons (op_mv rfl (Conv.of rfl) rfl) ?_
    all_goals refine awpOps_cons (op_add rfl rfl rfl (by omega)) ?_
    all_goals refine awpOps_cons (op_as rfl (Conv.of rfl) rfl) ?_
    all_goals refine awpOps_nil ?_
    repeat first | refine nx_seq ?_ | refine nx_block ?_
    exact ⟨2, _, by decide, .inr (.inr (.inl ⟨rfl, rfl⟩)), Le.mk rfl (tlb rfl rfl rfl (tlb rfl rfl rfl (tle rfl (rfl) rfl tln))) (olk rfl (by exact obOkW rfl) (olk rfl (by exact obOkW0) (olk rfl (by exact obOk_arr) oln))) noS⟩
  · all_goals refine awp_seq (awp_seq (awp_region (id := 5) ?_))
    all_goals refine awpOps_cons (op_mv rfl (Conv.of rfl) rfl) ?_
    all_goals refine awpOps_cons (op_leq rfl rfl rfl) ?_
    all_goals refine awpOps_nil ?_
    refine awp_cond rfl (fun h => ?_) (fun h => absurd h (by decide))
    refine awp_skip ?_
    refine awp_seq (awp_block ?_)
    all_goals refine awp_region (id := 7) ?_
    all_goals refine awpOps_cons (op_fab f29_1_WrldA rfl rfl) ?_
    all_goals refine awpOps_cons (op_ld ty26_NRef rfl rfl rfl) ?_
    all_goals refine awpOps_cons (op_mv rfl (Conv.of rfl) rfl) ?_
    all_goals refine awpOps_cons (op_build (.cons f39_0 rfl (Conv.of rfl) (.nil _)) z39 rfl pl39 rfl) ?_
    all_goals refine awpOps_cons (op_bsl sl26 z39 (.cons rfl (Conv.of rfl) (.nil _)) rfl (by decide) rfl) ?_
    all_goals refine awpOps_cons (op_apA (o' := 14) sl26 z39 ul26 rfl rfl rfl rfl (by simp) (by decide) (by decide) rfl) ?_
    all_goals refine awpOps_cons (op_fab f29_1_WrldA rfl rfl) ?_
    all_goals refine awpOps_cons (op_st ty26_NRef rfl rfl (Conv.of rfl) rfl) ?_
    all_goals refine awpOps_nil ?_
    all_goals refine awp_region (id := 6) ?_
    all_goals refine awpOps_cons (op_mv rfl (Conv.of rfl) rfl) ?_
    all_goals refine awpOps_cons (op_add rfl rfl rfl (by omega)) ?_
    all_goals refine awpOps_cons (op_as rfl (Conv.of rfl) rfl) ?_
    all_goals refine awpOps_nil ?_
    repeat first | refine nx_seq ?_ | refine nx_block ?_
    exact ⟨1, _, by decide, .inr (.inr (.inr (.inl ⟨rfl, rfl⟩))), Le.mk rfl (tlb rfl rfl rfl (tlb rfl rfl rfl (tle rfl (rfl) rfl tln))) (olk rfl (by exact obOkW rfl) (olk rfl (by exact obOkW0) (olk rfl (by exact obOk_arr) oln))) noS⟩
  · all_goals refine awp_seq (awp_seq (awp_region (id := 5) ?_))
    all_goals refine awpOps_cons (op_mv rfl (Conv.of rfl) rfl) ?_
    all_goals refine awpOps_cons (op_leq rfl rfl rfl) ?_
    all_goals refine awpOps_nil ?_
    refine awp_cond rfl (fun h => ?_) (fun h => absurd h (by decide))
    refine awp_skip ?_
    refine awp_seq (awp_block ?_)
    all_goals refine awp_region (id := 7) ?_
    all_goals refine awpOps_cons (op_fab f29_1_WrldA rfl rfl) ?_
    all_goals refine awpOps_cons (op_ld ty26_NRef rfl rfl rfl) ?_
    all_goals refine awpOps_cons (op_mv rfl (Conv.of rfl) rfl) ?_
    all_goals refine awpOps_cons (op_build (.cons f39_0 rfl (Conv.of rfl) (.nil _)) z39 rfl pl39 rfl) ?_
    all_goals refine awpOps_cons (op_bsl sl26 z39 (.cons rfl (Conv.of rfl) (.nil _)) rfl (by decide) rfl) ?_
    all_goals refine awpOps_cons (op_apA (o' := 1) sl26 z39 ul26 rfl rfl rfl rfl (by simp) (by decide) (by decide) rfl) ?_
    all_goals refine awpOps_cons (op_fab f29_1_WrldA rfl rfl) ?_
    all_goals refine awpOps_cons (op_st ty26_NRef rfl rfl (Conv.of rfl) rfl) ?_
    all_goals refine awpOps_nil ?_
    all_goals refine awp_region (id := 6) ?_
    all_goals refine awpOps_cons (op_mv rfl (Conv.of rfl) rfl) ?_
    all_goals refine awpOps_cons (op_add rfl rfl rfl (by omega)) ?_
    all_goals refine awpOps_cons (op_as rfl (Conv.of rfl) rfl) ?_
    all_goals refine awpOps_nil ?_
    repeat first | refine nx_seq ?_ | refine nx_block ?_
    exact ⟨0, _, by decide, .inr (.inr (.inr (.inr (⟨rfl, rfl⟩)))), Le.mk rfl (tlb rfl rfl rfl (tlb rfl rfl rfl (tle rfl (rfl) rfl tln))) (olk rfl (by exact obOkW rfl) (olk rfl (by exact obOkW0) (olk rfl (by exact obOk_arr) oln))) noS⟩
  · all_goals refine awp_seq (awp_seq (awp_region (id := 5) ?_))
    all_goals refine awpOps_cons (op_mv rfl (Conv.of rfl) rfl) ?_
    all_goals refine awpOps_cons (op_leq rfl rfl rfl) ?_
    all_goals refine awpOps_nil ?_
    refine awp_cond rfl (fun h => absurd h (by decide)) (fun h => ?_)
    refine awp_exit ?_
    repeat refine ex_seq ?_
    refine ex_block ?_
    all_goals refine awp_seq (awp_region (id := 8) ?_)
    all_goals refine awpOps_cons (op_ld ty29_WrldA rfl rfl rfl) ?_
    all_goals refine awpOps_cons (op_st ty29_WrldA rfl rfl (Conv.of rfl) rfl) ?_
    all_goals refine awpOps_cons (op_as rfl (Conv.of rfl) rfl) ?_
    all_goals refine awpOps_nil ?_
    refine awp_ret ?_
    repeat first | refine rt_seq ?_ | refine rt_block ?_
    refine ⟨_, _, resN (ol := [(1, .arr (newW bad).nodes)]) (.cons (.rc ty29_WrldA rfl rfl) (.cons (.v rfl (Conv.of rfl)) .nil)) rfl (fun o ho => ?_) (olk rfl obOk_arr oln) noS, rfl, rfl⟩
    have : o = 1 := by simpa using (show o ∈ [1] from ho)
    subst this; rfl
end Go.Proofs.YtompnmkpgffhkaaGreat

/- Worlds copied. -/
set_option linter.unusedVariables false
set_option linter.unusedSimpArgs false
namespace Go.Proofs.YtompnmkpgffhkaaGreat
open Go Go.Wt
theorem copiedA_ct (e : Int) (a b c d : Nod) (l : List Vote) (bd : Int) (hl : Gd l) (ha : Gd a.seen) (hb : Gd b.seen) (hc : Gd c.seen) (hd : Gd d.seen) :
    Ct Tryz.prog 49 [.v (WrldA.mk e (.ref 1) l bd)] (obs [(1, .arr [a, b, c, d])]) (fun r1 h1 => r1 = .v (WrldA.mk e (.ref 2) l bd) ∧ h1 = obs [(1, .arr [a, b, c, d]), (2, .arr [a, b, c, d])]) := by
  refine Ct.intro Tryz.func49 rfl rfl ?_
  all_goals refine awp_seq (awp_region (id := 0) ?_)
  all_goals refine awpOps_cons (op_box (o := 5) ty29_WrldA rfl (Conv.of rfl) rfl rfl) ?_
  all_goals refine awpOps_cons (op_alloc (o := 6) z29_WrldA rfl rfl) ?_
  all_goals refine awpOps_nil ?_
  all_goals refine awp_seq (dr_start (id := 1) ?_)
  all_goals refine dr_cons (op_fab f29_0_WrldA rfl rfl) ?_
  all_goals refine dr_cons (op_ld ty3 rfl rfl rfl) ?_
  all_goals refine dr_cons (op_fab f29_1_WrldA rfl rfl) ?_
  all_goals refine dr_cons (op_ld ty26_NRef rfl rfl rfl) ?_
  all_goals refine dr_cons (op_lenA sl26 rfl rfl rfl) ?_
  all_goals refine dr_cons (op_mka (o := 11) sl26 z39 rfl rfl (by (simp)) (by (simp)) (by (simp)) rfl rfl) ?_
  all_goals refine dr_cons (op_fab f29_2_WrldA rfl rfl) ?_
  all_goals refine dr_cons (op_ld ty27 rfl rfl rfl) ?_
  all_goals refine dr_cons (op_call fb103 (.cons rfl (Conv.of rfl) (.nil _)) (votesCopied_ct _ hl.l' hl.v) (argOk rfl rfl argOk0) rfl rfl) ?_
  all_goals refine dr_cons (op_fab f29_3_WrldA rfl rfl) ?_
  all_goals refine dr_cons (op_ld ty3 rfl rfl rfl) ?_
  all_goals refine dr_cons (op_build (.cons f29_0_WrldA rfl (Conv.of rfl) (.cons f29_1_WrldA rfl (Conv.nr) (.cons f29_2_WrldA rfl (Conv.ol) (.cons f29_3_WrldA rfl (Conv.of rfl) (.nil _))))) z29_WrldA rfl pl29 rfl) ?_
  all_goals refine dr_cons (op_alloc (o := 7) z29_WrldA rfl rfl) ?_
  all_goals refine dr_cons (op_st ty29_WrldA rfl rfl (Conv.of rfl) rfl) ?_
  all_goals refine dr_nil mixed rfl ?_
  all_goals refine awp_seq (awp_seq (awp_region (id := 2) ?_))
  all_goals refine awpOps_cons (op_fab f29_1_WrldA rfl rfl) ?_
  all_goals refine awpOps_cons (op_ld ty26_NRef rfl rfl rfl) ?_
  all_goals refine awpOps_cons (op_lenA sl26 rfl rfl rfl) ?_
  all_goals refine awpOps_cons (op_mv rfl (Conv.of rfl) rfl) ?_
  all_goals refine awpOps_nil ?_
  refine awp_block ?_
  refine awp_loop' (fun n s => (n = 4 ∧ s = mkSt 34 [(2, .box 6 (IsLens.whole WrldA)), (3, .box 7 (IsLens.whole WrldA)), (19, .v (NRef.ref 1)), (20, .v (4 : Int)), (21, .v (0 : Int))] [(1, .arr [a, b, c, d]), (6, .cell WrldA.zero), (7, .cell (WrldA.mk e (.ref 11) l bd)), (11, .arr ([] : List Nod))]) ∨ (n = 3 ∧ s = mkSt 34 [(2, .box 6 (IsLens.whole WrldA)), (3, .box 7 (IsLens.whole WrldA)), (19, .v (NRef.ref 1)), (20, .v (4 : Int)), (21, .v (1 : Int))] [(1, .arr [a, b, c, d]), (6, .cell WrldA.zero), (7, .cell (WrldA.mk e (.ref 12) l bd)), (12, .arr ([a] : List Nod))]) ∨ (n = 2 ∧ s = mkSt 34 [(2, .box 6 (IsLens.whole WrldA)), (3, .box 7 (IsLens.whole WrldA)), (19, .v (NRef.ref 1)), (20, .v (4 : Int)), (21, .v (2 : Int))] [(1, .arr [a, b, c, d]), (6, .cell WrldA.zero), (7, .cell (WrldA.mk e (.ref 13) l bd)), (13, .arr ([a, b] : List Nod))]) ∨ (n = 1 ∧ s = mkSt 34 [(2, .box 6 (IsLens.whole WrldA)), (3, .box 7 (IsLens.whole WrldA)), (19, .v (NRef.ref 1)), (20, .v (4 : Int)), (21, .v (3 : Int))] [(1, .arr [a, b, c, d]), (6, .cell WrldA.zero), (7, .cell (WrldA.mk e (.ref 14) l bd)), (14, .arr ([a, b, c] : List Nod))]) ∨ (n = 0 ∧ s = mkSt 34 [(2, .box 6 (IsLens.whole WrldA)), (3, .box 7 (IsLens.whole WrldA)), (19, .v (NRef.ref 1)), (20, .v (4 : Int)), (21, .v (4 : Int))] [(1, .arr [a, b, c, d]), (6, .cell WrldA.zero), (7, .cell (WrldA.mk e (.ref 2) l bd)), (2, .arr ([a, b, c, d] : List Nod))])) 4 (.inl ⟨rfl, rfl⟩) (Le.mk rfl (tlb rfl rfl rfl (tlb rfl rfl rfl (tlb rfl rfl rfl (tle rfl (rfl) rfl (tle rfl (rfl) rfl tln))))) (olk rfl (by exact obOk_arr) (olk rfl (by exact obOkW0) (olk rfl (by exact obOkW rfl) (olk rfl (by exact obOk_arr) oln)))) (hS_sub (a := [(1, .arr [a, b, c, d])]) rfl)) ?_
  rintro n s (⟨rfl, rfl⟩|⟨rfl, rfl⟩|⟨rfl, rfl⟩|⟨rfl, rfl⟩|⟨rfl, rfl⟩)
  · all_goals refine awp_seq (awp_region (id := 3) ?_)
    all_goals refine awpOps_cons (op_lss rfl rfl rfl) ?_
    all_goals refine awpOps_nil ?_
    refine awp_seq (awp_cond rfl (fun h => ?_) (fun h => absurd h (by decide)))
    refine awp_skip ?_
    refine awp_seq (awp_block ?_)
    all_goals refine awp_seq (awp_region (id := 4) ?_)
    all_goals refine awpOps_cons (op_ixA sl26 rfl rfl rfl rfl (by simp)) ?_
    all_goals refine awpOps_cons (op_lde ty39 rfl rfl (rfl : [a, b, c, d][0]? = some a) rfl) ?_
    all_goals refine awpOps_cons (op_alloc (o := 8) z39 rfl rfl) ?_
    all_goals refine awpOps_cons (op_st ty39 rfl rfl (Conv.of rfl) rfl) ?_
    all_goals refine awpOps_nil ?_
    all_goals refine dr_start (id := 5) ?_
    all_goals refine dr_cons (op_fab f29_1_WrldA rfl rfl) ?_
    all_goals refine dr_cons (op_ld ty26_NRef rfl rfl rfl) ?_
    all_goals refine dr_cons (op_ld ty39 rfl rfl rfl) ?_
    all_goals refine dr_cons (op_call fb104 (.cons rfl (Conv.of rfl) (.nil _)) (nodeCopied_ct _ ha) (argOk rfl rfl argOk0) rfl rfl) ?_
    all_goals refine dr_cons (op_bsl sl26 z39 (.cons rfl (Conv.of rfl) (.nil _)) rfl (by decide) rfl) ?_
    all_goals refine dr_cons (op_apA (o' := 12) sl26 z39 ul26 rfl rfl rfl rfl (by simp) (by simp) (by simp) rfl) ?_
    all_goals refine dr_cons (op_fab f29_1_WrldA rfl rfl) ?_
    all_goals refine dr_cons (op_st ty26_NRef rfl rfl (Conv.of rfl) rfl) ?_
    all_goals refine dr_nil mixed rfl ?_
    all_goals refine awp_region (id := 6) ?_
    all_goals refine awpOps_cons (op_add rfl rfl rfl (by omega)) ?_
    all_goals refine awpOps_cons (op_mv rfl (Conv.of rfl) rfl) ?_
    all_goals refine awpOps_nil ?_
    repeat first | refine nx_seq ?_ | refine nx_block ?_
    exact ⟨3, _, by decide, .inr (.inl ⟨rfl, rfl⟩), Le.mk rfl (tlb rfl rfl rfl (tlb rfl rfl rfl (tlb rfl rfl rfl (tle rfl (rfl) rfl (tle rfl (rfl) rfl tln))))) (olk rfl (by exact obOk_arr) (olk rfl (by exact obOkW0) (olk rfl (by exact obOkW rfl) (olk rfl (by exact obOk_arr) oln)))) (hS_sub (a := [(1, .arr [a, b, c, d])]) rfl)⟩
  · all_goals refine awp_seq (awp_region (id := 3) ?_)
    all_goals refine awpOps_cons (op_lss rfl rfl rfl) ?_
    all_goals refine awpOps_nil ?_
    refine awp_seq (awp_cond rfl (fun h => ?_) (fun h => absurd h (by decide)))
    refine awp_skip ?_
    refine awp_seq (awp_block ?_)
    all_goals refine awp_seq (awp_region (id := 4) ?_)
    all_goals refine awpOps_cons (op_ixA sl26 rfl rfl rfl rfl (by simp)) ?_
    all_goals refine awpOps_cons (op_lde ty39 rfl rfl (rfl : [a, b, c, d][1]? = some b) rfl) ?_
    all_goals refine awpOps_cons (op_alloc (o := 8) z39 rfl rfl) ?_
    all_goals refine awpOps_cons (op_st ty39 rfl rfl (Conv.of rfl) rfl) ?_
    all_goals refine awpOps_nil ?_
    all_goals refine dr_start (id := 5) ?_
    all_goals refine dr_cons (op_fab f29_1_WrldA rfl rfl) ?_
    all_goals refine dr_cons (op_ld ty26_NRef rfl rfl rfl) ?_
    all_goals refine dr_cons (op_ld ty39 rfl rfl rfl) ?_
    all_goals refine dr_cons (op_call fb104 (.cons rfl (Conv.of rfl) (.nil _)) (nodeCopied_ct _ hb) (argOk rfl rfl argOk0) rfl rfl) ?_
    all_goals refine dr_cons (op_bsl sl26 z39 (.cons rfl (Conv.of rfl) (.nil _)) rfl (by decide) rfl) ?_
    all_goals refine dr_cons (op_apA (o' := 13) sl26 z39 ul26 rfl rfl rfl rfl (by simp) (by simp) (by simp) rfl) ?_
    all_goals refine dr_cons (op_fab f29_1_WrldA rfl rfl) ?_
    all_goals refine dr_cons (op_st ty26_NRef rfl rfl (Conv.of rfl) rfl) ?_
    all_goals refine dr_nil mixed rfl ?_
    all_goals refine awp_region (id := 6) ?_
    all_goals refine awpOps_cons (op_add rfl rfl rfl (by omega)) ?_
    all_goals refine awpOps_cons (op_mv rfl (Conv.of rfl) rfl) ?_
    all_goals refine awpOps_nil ?_
    repeat first | refine nx_seq ?_ | refine nx_block ?_
    exact ⟨2, _, by decide, .inr (.inr (.inl ⟨rfl, rfl⟩)), Le.mk rfl (tlb rfl rfl rfl (tlb rfl rfl rfl (tlb rfl rfl rfl (tle rfl (rfl) rfl (tle rfl (rfl) rfl tln))))) (olk rfl (by exact obOk_arr) (olk rfl (by exact obOkW0) (olk rfl (by exact obOkW rfl) (olk rfl (by exact obOk_arr) oln)))) (hS_sub (a := [(1, .arr [a, b, c, d])]) rfl)⟩
  · all_goals refine awp_seq (awp_region (id := 3) ?_)
    all_goals refine awpOps_cons (op_lss rfl rfl rfl) ?_
    all_goals refine awpOps_nil ?_
    refine awp_seq (awp_cond rfl (fun h => ?_) (fun h => absurd h (by decide)))
    refine awp_skip ?_
    refine awp_seq (awp_block ?_)
    all_goals refine awp_seq (awp_region (id := 4) ?_)
    all_goals refine awpOps_cons (op_ixA sl26 rfl rfl rfl rfl (by simp)) ?_
    all_goals refine awpOps_cons (op_lde ty39 rfl rfl (rfl : [a, b, c, d][2]? = some c) rfl) ?_
    all_goals refine awpOps_cons (op_alloc (o := 8) z39 rfl rfl) ?_
    all_goals refine awpOps_cons (op_st ty39 rfl rfl (Conv.of rfl) rfl) ?_
    all_goals refine awpOps_nil ?_
    all_goals refine dr_start (id := 5) ?_
    all_goals refine dr_cons (op_fab f29_1_WrldA rfl rfl) ?_
    all_goals refine dr_cons (op_ld ty26_NRef rfl rfl rfl) ?_
    all_goals refine dr_cons (op_ld ty39 rfl rfl rfl) ?_
    all_goals refine dr_cons (op_call fb104 (.cons rfl (Conv.of rfl) (.nil _)) (nodeCopied_ct _ hc) (argOk rfl rfl argOk0) rfl rfl) ?_
    all_goals refine dr_cons (op_bsl sl26 z39 (.cons rfl (Conv.of rfl) (.nil _)) rfl (by decide) rfl) ?_
    all_goals refine dr_cons (op_apA (o' := 14) sl26 z39 ul26 rfl rfl rfl rfl (by simp) (by simp) (by simp) rfl) ?_
    all_goals refine dr_cons (op_fab f29_1_WrldA rfl rfl) ?_
    all_goals refine dr_cons (op_st ty26_NRef rfl rfl (Conv.of rfl) rfl) ?_
    all_goals refine dr_nil mixed rfl ?_
    all_goals refine awp_region (id := 6) ?_
    all_goals refine awpOps_cons (op_add rfl rfl rfl (by omega)) ?_
    all_goals refine awpOps_cons (op_mv rfl (Conv.of rfl) rfl) ?_
    all_goals refine awpOps_nil ?_
    repeat first | refine nx_seq ?_ | refine nx_block ?_
    exact ⟨1, _, by decide, .inr (.inr (.inr (.inl ⟨rfl, rfl⟩))), Le.mk rfl (tlb rfl rfl rfl (tlb rfl rfl rfl (tlb rfl rfl rfl (tle rfl (rfl) rfl (tle rfl (rfl) rfl tln))))) (olk rfl (by exact obOk_arr) (olk rfl (by exact obOkW0) (olk rfl (by exact obOkW rfl) (olk rfl (by exact obOk_arr) oln)))) (hS_sub (a := [(1, .arr [a, b, c, d])]) rfl)⟩
  · all_goals refine awp_seq (awp_region (id := 3) ?_)
    all_goals refine awpOps_cons (op_lss rfl rfl rfl) ?_
    all_goals refine awpOps_nil ?_
    refine awp_seq (awp_cond rfl (fun h => ?_) (fun h => absurd h (by decide)))
    refine awp_skip ?_
    refine awp_seq (awp_block ?_)
    all_goals refine awp_seq (awp_region (id := 4) ?_)
    all_goals refine awpOps_cons (op_ixA sl26 rfl rfl rfl rfl (by simp)) ?_
    all_goals refine awpOps_cons (op_lde ty39 rfl rfl (rfl : [a, b, c, d][3]? = some d) rfl) ?_
    all_goals refine awpOps_cons (op_alloc (o := 8) z39 rfl rfl) ?_
    all_goals refine awpOps_cons (op_st ty39 rfl rfl (Conv.of rfl) rfl) ?_
    all_goals refine awpOps_nil ?_
    all_goals refine dr_start (id := 5) ?_
    all_goals refine dr_cons (op_fab f29_1_WrldA rfl rfl) ?_
    all_goals refine dr_cons (op_ld ty26_NRef rfl rfl rfl) ?_
    all_goals refine dr_cons (op_ld ty39 rfl rfl rfl) ?_
    all_goals refine dr_cons (op_call fb104 (.cons rfl (Conv.of rfl) (.nil _)) (nodeCopied_ct _ hd) (argOk rfl rfl argOk0) rfl rfl) ?_
    all_goals refine dr_cons (op_bsl sl26 z39 (.cons rfl (Conv.of rfl) (.nil _)) rfl (by decide) rfl) ?_
    all_goals refine dr_cons (op_apA (o' := 2) sl26 z39 ul26 rfl rfl rfl rfl (by simp) (by simp) (by simp) rfl) ?_
    all_goals refine dr_cons (op_fab f29_1_WrldA rfl rfl) ?_
    all_goals refine dr_cons (op_st ty26_NRef rfl rfl (Conv.of rfl) rfl) ?_
    all_goals refine dr_nil mixed rfl ?_
    all_goals refine awp_region (id := 6) ?_
    all_goals refine awpOps_cons (op_add rfl rfl rfl (by omega)) ?_
    all_goals refine awpOps_cons (op_mv rfl (Conv.of rfl) rfl) ?_
    all_goals refine awpOps_nil ?_
    repeat first | refine nx_seq ?_ | refine nx_block ?_
    exact ⟨0, _, by decide, .inr (.inr (.inr (.inr (⟨rfl, rfl⟩)))), Le.mk rfl (tlb rfl rfl rfl (tlb rfl rfl rfl (tlb rfl rfl rfl (tle rfl (rfl) rfl (tle rfl (rfl) rfl tln))))) (olk rfl (by exact obOk_arr) (olk rfl (by exact obOkW0) (olk rfl (by exact obOkW rfl) (olk rfl (by exact obOk_arr) oln)))) (hS_sub (a := [(1, .arr [a, b, c, d])]) rfl)⟩
  · all_goals refine awp_seq (awp_region (id := 3) ?_)
    all_goals refine awpOps_cons (op_lss rfl rfl rfl) ?_
    all_goals refine awpOps_nil ?_
    refine awp_seq (awp_cond rfl (fun h => absurd h (by decide)) (fun h => ?_))
    refine awp_exit ?_
    repeat refine ex_seq ?_
    refine ex_block ?_
    all_goals refine awp_seq (awp_region (id := 7) ?_)
    all_goals refine awpOps_cons (op_ld ty29_WrldA rfl rfl rfl) ?_
    all_goals refine awpOps_cons (op_st ty29_WrldA rfl rfl (Conv.of rfl) rfl) ?_
    all_goals refine awpOps_nil ?_
    refine awp_ret ?_
    repeat first | refine rt_seq ?_ | refine rt_block ?_
    refine ⟨_, _, res1 (ol := [(1, .arr [a, b, c, d]), (2, .arr [a, b, c, d])]) (.rc ty29_WrldA rfl rfl) (fun o ho => ?_) (olk rfl obOk_arr (olk rfl obOk_arr oln)) (hS_sub (a := [(1, .arr [a, b, c, d])]) rfl), rfl, rfl⟩
    have : o = 2 := by simpa using (show o ∈ [2] from ho)
    subst this; rfl
theorem copiedP_ct (e : Int) (a b c d : Nod) (l : List Vote) (bd : Int) (hl : Gd l) (ha : Gd a.seen) (hb : Gd b.seen) (hc : Gd c.seen) (hd : Gd d.seen) :
    Ct Tryz.prog 49 [.v (Wrld.mk e [a, b, c, d] l bd)] noObj (fun r1 h1 => r1 = .v (WrldA.mk e (.ref 1) l bd) ∧ h1 = obs [(1, .arr [a, b, c, d])]) := by
  refine Ct.intro Tryz.func49 rfl rfl ?_
  all_goals refine awp_seq (awp_region (id := 0) ?_)
  all_goals refine awpOps_cons (op_box (o := 5) ty29 rfl (Conv.of rfl) rfl rfl) ?_
  all_goals refine awpOps_cons (op_alloc (o := 6) z29_WrldA rfl rfl) ?_
  all_goals refine awpOps_nil ?_
  all_goals refine awp_seq (dr_start (id := 1) ?_)
  all_goals refine dr_cons (op_fab f29_0 rfl rfl) ?_
  all_goals refine dr_cons (op_ld ty3 rfl rfl rfl) ?_
  all_goals refine dr_cons (op_fab f29_1 rfl rfl) ?_
  all_goals refine dr_cons (op_ld ty26 rfl rfl rfl) ?_
  all_goals refine dr_cons (op_len sl26 rfl rfl) ?_
  all_goals refine dr_cons (op_mka (o := 11) sl26 z39 rfl rfl (by (simp)) (by (simp)) (by (simp)) rfl rfl) ?_
  all_goals refine dr_cons (op_fab f29_2 rfl rfl) ?_
  all_goals refine dr_cons (op_ld ty27 rfl rfl rfl) ?_
  all_goals refine dr_cons (op_call fb103 (.cons rfl (Conv.of rfl) (.nil _)) (votesCopied_ct _ hl.l' hl.v) (argOk rfl rfl argOk0) rfl rfl) ?_
  all_goals refine dr_cons (op_fab f29_3 rfl rfl) ?_
  all_goals refine dr_cons (op_ld ty3 rfl rfl rfl) ?_
  all_goals refine dr_cons (op_build (.cons f29_0_WrldA rfl (Conv.of rfl) (.cons f29_1_WrldA rfl (Conv.nr) (.cons f29_2_WrldA rfl (Conv.ol) (.cons f29_3_WrldA rfl (Conv.of rfl) (.nil _))))) z29_WrldA rfl pl29 rfl) ?_
  all_goals refine dr_cons (op_alloc (o := 7) z29_WrldA rfl rfl) ?_
  all_goals refine dr_cons (op_st ty29_WrldA rfl rfl (Conv.of rfl) rfl) ?_
  all_goals refine dr_nil mixed rfl ?_
  all_goals refine awp_seq (awp_seq (awp_region (id := 2) ?_))
  all_goals refine awpOps_cons (op_fab f29_1 rfl rfl) ?_
  all_goals refine awpOps_cons (op_ld ty26 rfl rfl rfl) ?_
  all_goals refine awpOps_cons (op_len sl26 rfl rfl) ?_
  all_goals refine awpOps_cons (op_mv rfl (Conv.of rfl) rfl) ?_
  all_goals refine awpOps_nil ?_
  refine awp_block ?_
  refine awp_loop' (fun n s => (n = 4 ∧ s = mkSt 34 [(2, .box 6 (IsLens.whole WrldA)), (3, .box 7 (IsLens.whole WrldA)), (19, .v [a, b, c, d]), (20, .v (4 : Int)), (21, .v (0 : Int))] [(6, .cell WrldA.zero), (7, .cell (WrldA.mk e (.ref 11) l bd)), (11, .arr ([] : List Nod))]) ∨ (n = 3 ∧ s = mkSt 34 [(2, .box 6 (IsLens.whole WrldA)), (3, .box 7 (IsLens.whole WrldA)), (19, .v [a, b, c, d]), (20, .v (4 : Int)), (21, .v (1 : Int))] [(6, .cell WrldA.zero), (7, .cell (WrldA.mk e (.ref 12) l bd)), (12, .arr ([a] : List Nod))]) ∨ (n = 2 ∧ s = mkSt 34 [(2, .box 6 (IsLens.whole WrldA)), (3, .box 7 (IsLens.whole WrldA)), (19, .v [a, b, c, d]), (20, .v (4 : Int)), (21, .v (2 : Int))] [(6, .cell WrldA.zero), (7, .cell (WrldA.mk e (.ref 13) l bd)), (13, .arr ([a, b] : List Nod))]) ∨ (n = 1 ∧ s = mkSt 34 [(2, .box 6 (IsLens.whole WrldA)), (3, .box 7 (IsLens.whole WrldA)), (19, .v [a, b, c, d]), (20, .v (4 : Int)), (21, .v (3 : Int))] [(6, .cell WrldA.zero), (7, .cell (WrldA.mk e (.ref 14) l bd)), (14, .arr ([a, b, c] : List Nod))]) ∨ (n = 0 ∧ s = mkSt 34 [(2, .box 6 (IsLens.whole WrldA)), (3, .box 7 (IsLens.whole WrldA)), (19, .v [a, b, c, d]), (20, .v (4 : Int)), (21, .v (4 : Int))] [(6, .cell WrldA.zero), (7, .cell (WrldA.mk e (.ref 1) l bd)), (1, .arr ([a, b, c, d] : List Nod))])) 4 (.inl ⟨rfl, rfl⟩) (Le.mk rfl (tlb rfl rfl rfl (tlb rfl rfl rfl (tle rfl (rfl) rfl (tle rfl (rfl) rfl (tle rfl (rfl) rfl tln))))) (olk rfl (by exact obOkW0) (olk rfl (by exact obOkW rfl) (olk rfl (by exact obOk_arr) oln))) noS) ?_
  rintro n s (⟨rfl, rfl⟩|⟨rfl, rfl⟩|⟨rfl, rfl⟩|⟨rfl, rfl⟩|⟨rfl, rfl⟩)
  · all_goals refine awp_seq (awp_region (id := 3) ?_)
    all_goals refine awpOps_cons (op_lss rfl rfl rfl) ?_
    all_goals refine awpOps_nil ?_
    refine awp_seq (awp_cond rfl (fun h => ?_) (fun h => absurd h (by decide)))
    refine awp_skip ?_
    refine awp_seq (awp_block ?_)
    all_goals refine awp_seq (awp_region (id := 4) ?_)
    all_goals refine awpOps_cons (op_ix sl26 rfl rfl rfl (by omega) (rfl : [a, b, c, d][0]? = some a)) ?_
    all_goals refine awpOps_cons (op_ldr ty39 rfl rfl) ?_
    all_goals refine awpOps_cons (op_alloc (o := 8) z39 rfl rfl) ?_
    all_goals refine awpOps_cons (op_st ty39 rfl rfl (Conv.of rfl) rfl) ?_
    all_goals refine awpOps_nil ?_
    all_goals refine dr_start (id := 5) ?_
    all_goals refine dr_cons (op_fab f29_1_WrldA rfl rfl) ?_
    all_goals refine dr_cons (op_ld ty26_NRef rfl rfl rfl) ?_
    all_goals refine dr_cons (op_ld ty39 rfl rfl rfl) ?_
    all_goals refine dr_cons (op_call fb104 (.cons rfl (Conv.of rfl) (.nil _)) (nodeCopied_ct _ ha) (argOk rfl rfl argOk0) rfl rfl) ?_
    all_goals refine dr_cons (op_bsl sl26 z39 (.cons rfl (Conv.of rfl) (.nil _)) rfl (by decide) rfl) ?_
    all_goals refine dr_cons (op_apA (o' := 12) sl26 z39 ul26 rfl rfl rfl rfl (by simp) (by simp) (by simp) rfl) ?_
    all_goals refine dr_cons (op_fab f29_1_WrldA rfl rfl) ?_
    all_goals refine dr_cons (op_st ty26_NRef rfl rfl (Conv.of rfl) rfl) ?_
    all_goals refine dr_nil mixed rfl ?_
    all_goals refine awp_region (id := 6) ?_
    all_goals refine awpOps_cons (op_add rfl rfl rfl (by omega)) ?_
    all_goals refine awpOps_cons (op_mv rfl (Conv.of rfl) rfl) ?_
    all_goals refine awpOps_nil ?_
    repeat first | refine nx_seq ?_ | refine nx_block ?_
    exact ⟨3, _, by decide, .inr (.inl ⟨rfl, rfl⟩), Le.mk rfl (tlb rfl rfl rfl (tlb rfl rfl rfl (tle rfl (rfl) rfl (tle rfl (rfl) rfl (tle rfl (rfl) rfl tln))))) (olk rfl (by exact obOkW0) (olk rfl (by exact obOkW rfl) (olk rfl (by exact obOk_arr) oln))) noS⟩
  · all_goals refine awp_seq (awp_region (id := 3) ?_)
    all_goals refine awpOps_cons (op_lss rfl rfl rfl) ?_
    all_goals refine awpOps_nil ?_
    refine awp_seq (awp_cond rfl (fun h => ?_) (fun h => absurd h (by decide)))
    refine awp_skip ?_
    refine awp_seq (awp_block ?_)
    all_goals refine awp_seq (awp_region (id := 4) ?_)
    all_goals refine awpOps_cons (op_ix sl26 rfl rfl rfl (by omega) (rfl : [a, b, c, d][1]? = some b)) ?_
    all_goals refine awpOps_cons (op_ldr ty39 rfl rfl) ?_
    all_goals refine awpOps_cons (op_alloc (o := 8) z39 rfl rfl) ?_
    all_goals refine awpOps_cons (op_st ty39 rfl rfl (Conv.of rfl) rfl) ?_
    all_goals refine awpOps_nil ?_
    all_goals refine dr_start (id := 5) ?_
    all_goals refine dr_cons (op_fab f29_1_WrldA rfl rfl) ?_
    all_goals refine dr_cons (op_ld ty26_NRef rfl rfl rfl) ?_
    all_goals refine dr_cons (op_ld ty39 rfl rfl rfl) ?_
    all_goals refine dr_cons (op_call fb104 (.cons rfl (Conv.of rfl) (.nil _)) (nodeCopied_ct _ hb) (argOk rfl rfl argOk0) rfl rfl) ?_
    all_goals refine dr_cons (op_bsl sl26 z39 (.cons rfl (Conv.of rfl) (.nil _)) rfl (by decide) rfl) ?_
    all_goals refine dr_cons (op_apA (o' := 13) sl26 z39 ul26 rfl rfl rfl rfl (by simp) (by simp) (by simp) rfl) ?_
    all_goals refine dr_cons (op_fab f29_1_WrldA rfl rfl) ?_
    all_goals refine dr_cons (op_st ty26_NRef rfl rfl (Conv.of rfl) rfl) ?_
    all_goals refine dr_nil mixed rfl ?_
    all_goals refine awp_region (id := 6) ?_
    all_goals refine awpOps_cons (op_add rfl rfl rfl (by omega)) ?_
    all_goals refine awpOps_cons (op_mv rfl (Conv.of rfl) rfl) ?_
    all_goals refine awpOps_nil ?_
    repeat first | refine nx_seq ?_ | refine nx_block ?_
    exact ⟨2, _, by decide, .inr (.inr (.inl ⟨rfl, rfl⟩)), Le.mk rfl (tlb rfl rfl rfl (tlb rfl rfl rfl (tle rfl (rfl) rfl (tle rfl (rfl) rfl (tle rfl (rfl) rfl tln))))) (olk rfl (by exact obOkW0) (olk rfl (by exact obOkW rfl) (olk rfl (by exact obOk_arr) oln))) noS⟩
  · all_goals refine awp_seq (awp_region (id := 3) ?_)
    all_goals refine awpOps_cons (op_lss rfl rfl rfl) ?_
    all_goals refine awpOps_nil ?_
    refine awp_seq (awp_cond rfl (fun h => ?_) (fun h => absurd h (by decide)))
    refine awp_skip ?_
    refine awp_seq (awp_block ?_)
    all_goals refine awp_seq (awp_region (id := 4) ?_)
    all_goals refine awpOps_cons (op_ix sl26 rfl rfl rfl (by omega) (rfl : [a, b, c, d][2]? = some c)) ?_
    all_goals refine awpOps_cons (op_ldr ty39 rfl rfl) ?_
    all_goals refine awpOps_cons (op_alloc (o := 8) z39 rfl rfl) ?_
    all_goals refine awpOps_cons (op_st ty39 rfl rfl (Conv.of rfl) rfl) ?_
    all_goals refine awpOps_nil ?_
    all_goals refine dr_start (id := 5) ?_
    all_goals refine dr_cons (op_fab f29_1_WrldA rfl rfl) ?_
    all_goals refine dr_cons (op_ld ty26_NRef rfl rfl rfl) ?_
    all_goals refine dr_cons (op_ld ty39 rfl rfl rfl) ?_
    all_goals refine dr_cons (op_call fb104 (.cons rfl (Conv.of rfl) (.nil _)) (nodeCopied_ct _ hc) (argOk rfl rfl argOk0) rfl rfl) ?_
    all_goals refine dr_cons (op_bsl sl26 z39 (.cons rfl (Conv.of rfl) (.nil _)) rfl (by decide) rfl) ?_
    all_goals refine dr_cons (op_apA (o' := 14) sl26 z39 ul26 rfl rfl rfl rfl (by simp) (by simp) (by simp) rfl) ?_
    all_goals refine dr_cons (op_fab f29_1_WrldA rfl rfl) ?_
    all_goals refine dr_cons (op_st ty26_NRef rfl rfl (Conv.of rfl) rfl) ?_
    all_goals refine dr_nil mixed rfl ?_
    all_goals refine awp_region (id := 6) ?_
    all_goals refine awpOps_cons (op_add rfl rfl rfl (by omega)) ?_
    all_goals refine awpOps_cons (op_mv rfl (Conv.of rfl) rfl) ?_
    all_goals refine awpOps_nil ?_
    repeat first | refine nx_seq ?_ | refine nx_block ?_
    exact ⟨1, _, by decide, .inr (.inr (.inr (.inl ⟨rfl, rfl⟩))), Le.mk rfl (tlb rfl rfl rfl (tlb rfl rfl rfl (tle rfl (rfl) rfl (tle rfl (rfl) rfl (tle rfl (rfl) rfl tln))))) (olk rfl (by exact obOkW0) (olk rfl (by exact obOkW rfl) (olk rfl (by exact obOk_arr) oln))) noS⟩
  · all_goals refine awp_seq (awp_region (id := 3) ?_)
    all_goals refine awpOps_cons (op_lss rfl rfl rfl) ?_
    all_goals refine awpOps_nil ?_
    refine awp_seq (awp_cond rfl (fun h => ?_) (fun h => absurd h (by decide)))
    refine awp_skip ?_
    refine awp_seq (awp_block ?_)
    all_goals refine awp_seq (awp_region (id := 4) ?_)
    all_goals refine awpOps_cons (op_ix sl26 rfl rfl rfl (by omega) (rfl : [a, b, c, d][3]? = some d)) ?_
    all_goals refine awpOps_cons (op_ldr ty39 rfl rfl) ?_
    all_goals refine awpOps_cons (op_alloc (o := 8) z39 rfl rfl) ?_
    all_goals refine awpOps_cons (op_st ty39 rfl rfl (Conv.of rfl) rfl) ?_
    all_goals refine awpOps_nil ?_
    all_goals refine dr_start (id := 5) ?_
    all_goals refine dr_cons (op_fab f29_1_WrldA rfl rfl) ?_
    all_goals refine dr_cons (op_ld ty26_NRef rfl rfl rfl) ?_
    all_goals refine dr_cons (op_ld ty39 rfl rfl rfl) ?_
    all_goals refine dr_cons (op_call fb104 (.cons rfl (Conv.of rfl) (.nil _)) (nodeCopied_ct _ hd) (argOk rfl rfl argOk0) rfl rfl) ?_
    all_goals refine dr_cons (op_bsl sl26 z39 (.cons rfl (Conv.of rfl) (.nil _)) rfl (by decide) rfl) ?_
    all_goals refine dr_cons (op_apA (o' := 1) sl26 z39 ul26 rfl rfl rfl rfl (by simp) (by simp) (by simp) rfl) ?_
    all_goals refine dr_cons (op_fab f29_1_WrldA rfl rfl) ?_
    all_goals refine dr_cons (op_st ty26_NRef rfl rfl (Conv.of rfl) rfl) ?_
    all_goals refine dr_nil mixed rfl ?_
    all_goals refine awp_region (id := 6) ?_
    all_goals refine awpOps_cons (op_add rfl rfl rfl (by omega)) ?_
    all_goals refine awpOps_cons (op_mv rfl (Conv.of rfl) rfl) ?_
    all_goals refine awpOps_nil ?_
    repeat first | refine nx_seq ?_ | refine nx_block ?_
    exact ⟨0, _, by decide, .inr (.inr (.inr (.inr (⟨rfl, rfl⟩)))), Le.mk rfl (tlb rfl rfl rfl (tlb rfl rfl rfl (tle rfl (rfl) rfl (tle rfl (rfl) rfl (tle rfl (rfl) rfl tln))))) (olk rfl (by exact obOkW0) (olk rfl (by exact obOkW rfl) (olk rfl (by exact obOk_arr) oln))) noS⟩
  · all_goals refine awp_seq (awp_region (id := 3) ?_)
    all_goals refine awpOps_cons (op_lss rfl rfl rfl) ?_
    all_goals refine awpOps_nil ?_
    refine awp_seq (awp_cond rfl (fun h => absurd h (by decide)) (fun h => ?_))
    refine awp_exit ?_
    repeat refine ex_seq ?_
    refine ex_block ?_
    all_goals refine awp_seq (awp_region (id := 7) ?_)
    all_goals refine awpOps_cons (op_ld ty29_WrldA rfl rfl rfl) ?_
    all_goals refine awpOps_cons (op_st ty29_WrldA rfl rfl (Conv.of rfl) rfl) ?_
    all_goals refine awpOps_nil ?_
    refine awp_ret ?_
    repeat first | refine rt_seq ?_ | refine rt_block ?_
    refine ⟨_, _, res1 (ol := [(1, .arr [a, b, c, d])]) (.rc ty29_WrldA rfl rfl) (fun o ho => ?_) (olk rfl obOk_arr oln) noS, rfl, rfl⟩
    have : o = 1 := by simpa using (show o ∈ [1] from ho)
    subst this; rfl
end Go.Proofs.YtompnmkpgffhkaaGreat

/- A play. -/
set_option linter.unusedVariables false
set_option linter.unusedSimpArgs false
namespace Go.Proofs.YtompnmkpgffhkaaGreat
open Go Go.Wt
theorem copiedA_w (w : Wrld) (h : Fine w) : Ct Tryz.prog 49 [.v (wA w)] (obs [(1, .arr w.nodes)]) (fun r1 h1 => r1 = .v (WrldA.mk w.epoch (.ref 2) w.log w.bad) ∧ h1 = obs [(1, .arr w.nodes), (2, .arr w.nodes)]) := by
  obtain ⟨e, ns, l, bd⟩ := w
  have h4 := h.four
  have hs := h.seen
  match ns, h4, hs with
  | [a, b, c, d], _, hs => exact copiedA_ct e a b c d l bd h.log (hs a (by simp)) (hs b (by simp)) (hs c (by simp)) (hs d (by simp))
theorem copiedP_w (w : Wrld) (h : Fine w) : Ct Tryz.prog 49 [.v w] noObj (fun r1 h1 => r1 = .v (WrldA.mk w.epoch (.ref 1) w.log w.bad) ∧ h1 = obs [(1, .arr w.nodes)]) := by
  obtain ⟨e, ns, l, bd⟩ := w
  have h4 := h.four
  have hs := h.seen
  match ns, h4, hs with
  | [a, b, c, d], _, hs => exact copiedP_ct e a b c d l bd h.log (hs a (by simp)) (hs b (by simp)) (hs c (by simp)) (hs d (by simp))
theorem playBad_ct (bad : Int) (evs : List Evt) (hb : within bad 0 4 = false) : CtP Tryz.prog 15 [.v bad, .v evs] (.tup [.v WrldA.zero, .v false]) := by
  refine Ct.intro Tryz.func15 rfl rfl ?_
  all_goals refine awp_seq (awp_region (id := 0) ?_)
  all_goals refine awpOps_cons (op_alloc (o := 0) z29_WrldA rfl rfl) ?_
  all_goals refine awpOps_cons (op_as rfl (Conv.of rfl) rfl) ?_
  all_goals refine awpOps_nil ?_
  all_goals refine awp_seq (awp_region (id := 1) ?_)
  all_goals refine awpOps_cons (op_mv rfl (Conv.of rfl) rfl) ?_
  all_goals refine awpOps_cons (op_call fb37 (.cons rfl (Conv.of rfl) (.nil _)) (worldNewBad_ct bad hb) (argOk rfl rfl argOk0) rfl rfl) ?_
  all_goals refine awpOps_cons (op_mv rfl (Conv.of rfl) rfl) ?_
  all_goals refine awpOps_cons (op_ext rfl rfl rfl) ?_
  all_goals refine awpOps_cons (op_ext rfl rfl rfl) ?_
  all_goals refine awpOps_cons (op_alloc (o := 1) z29_WrldA rfl rfl) ?_
  all_goals refine awpOps_cons (op_st ty29_WrldA rfl rfl (Conv.of rfl) rfl) ?_
  all_goals refine awpOps_cons (op_as rfl (Conv.of rfl) rfl) ?_
  all_goals refine awpOps_nil ?_
  all_goals refine awp_seq (awp_seq (awp_region (id := 2) ?_))
  all_goals refine awpOps_cons (op_mv rfl (Conv.of rfl) rfl) ?_
  all_goals refine awpOps_cons (op_not rfl rfl) ?_
  all_goals refine awpOps_cons (op_mv rfl (Conv.of rfl) rfl) ?_
  all_goals refine g_lit (t := 17) (b := true) rfl ?_
  all_goals refine awpOps_cons (g_off rfl rfl rfl rfl rfl) ?_
  all_goals refine awpOps_cons (g_off rfl rfl rfl rfl rfl) ?_
  all_goals refine awpOps_cons (g_off rfl rfl rfl rfl rfl) ?_
  all_goals refine awpOps_cons (op_pick rfl rfl rfl rfl) ?_
  all_goals refine awpOps_nil ?_
  refine awp_cond rfl (fun h => ?_) (fun h => absurd h (by decide))
  all_goals refine awp_seq (awp_region (id := 3) ?_)
  all_goals refine awpOps_cons (op_build (.nil _) z29_WrldA rfl pl29 rfl) ?_
  all_goals refine awpOps_cons (op_st ty29_WrldA rfl rfl (Conv.of rfl) rfl) ?_
  all_goals refine awpOps_cons (op_as rfl (Conv.of rfl) rfl) ?_
  all_goals refine awpOps_nil ?_
  refine awp_ret ?_
  repeat first | refine rt_seq ?_ | refine rt_block ?_
  exact finN (.cons (.rc ty29_WrldA rfl rfl) (.cons (.v rfl (Conv.of rfl)) .nil)) rfl rfl rfl
theorem playLong_ct (bad : Int) (evs : List Evt) (hb : within bad 0 4 = true) (hl : 70 < evs.length) : CtP Tryz.prog 15 [.v bad, .v evs] (.tup [.v WrldA.zero, .v false]) := by
  refine Ct.intro Tryz.func15 rfl rfl ?_
  all_goals refine awp_seq (awp_region (id := 0) ?_)
  all_goals refine awpOps_cons (op_alloc (o := 5) z29_WrldA rfl rfl) ?_
  all_goals refine awpOps_cons (op_as rfl (Conv.of rfl) rfl) ?_
  all_goals refine awpOps_nil ?_
  all_goals refine awp_seq (awp_region (id := 1) ?_)
  all_goals refine awpOps_cons (op_mv rfl (Conv.of rfl) rfl) ?_
  refine awpOps_callO [] rfl fb37 (.cons rfl (Conv.of rfl) (.nil _)) (worldNew_ct bad hb) ols0 oks0 (argOk' rfl rfl argO0) rfl ?_
  rintro r h' ⟨rfl, rfl⟩
  refine ⟨[(1, .arr (newW bad).nodes)], rfl, (fun o ho => by cases ho), fun o ho _ => ?_, oksk obOk_arr oks0, fun o ho => ?_, ?_⟩
  · have : o = 1 := by simpa [keys, lk0] using ho
    subst this; rfl
  · have : o = 1 := by simpa using (show o ∈ [1] from ho)
    subst this; rfl
  all_goals refine awpOps_cons (op_mv rfl (Conv.of rfl) rfl) ?_
  all_goals refine awpOps_cons (op_ext rfl rfl rfl) ?_
  all_goals refine awpOps_cons (op_ext rfl rfl rfl) ?_
  all_goals refine awpOps_cons (op_alloc (o := 0) z29_WrldA rfl rfl) ?_
  all_goals refine awpOps_cons (op_st ty29_WrldA rfl rfl (Conv.of rfl) rfl) ?_
  all_goals refine awpOps_cons (op_as rfl (Conv.of rfl) rfl) ?_
  all_goals refine awpOps_nil ?_
  all_goals refine awp_seq (awp_seq (awp_region (id := 2) ?_))
  all_goals refine awpOps_cons (op_mv rfl (Conv.of rfl) rfl) ?_
  all_goals refine awpOps_cons (op_not rfl rfl) ?_
  all_goals refine awpOps_cons (op_mv rfl (Conv.of rfl) rfl) ?_
  all_goals refine g_lit (t := 17) (b := false) rfl ?_
  all_goals refine awpOps_cons (g_on rfl rfl rfl (op_mv rfl (Conv.of rfl) rfl)) ?_
  all_goals refine awpOps_cons (g_on rfl rfl rfl (op_len sl23 rfl rfl)) ?_
  all_goals refine awpOps_cons (g_on rfl rfl rfl (op_gtr rfl rfl rfl)) ?_
  all_goals refine awpOps_cons (op_pick rfl rfl rfl rfl) ?_
  all_goals refine awpOps_nil ?_
  refine awp_cond rfl (fun h => ?_) (fun h => ?_)
  · all_goals refine awp_seq (awp_region (id := 3) ?_)
    all_goals refine awpOps_cons (op_build (.nil _) z29_WrldA rfl pl29 rfl) ?_
    all_goals refine awpOps_cons (op_st ty29_WrldA rfl rfl (Conv.of rfl) rfl) ?_
    all_goals refine awpOps_cons (op_as rfl (Conv.of rfl) rfl) ?_
    all_goals refine awpOps_nil ?_
    refine awp_ret ?_
    repeat first | refine rt_seq ?_ | refine rt_block ?_
    exact finN (.cons (.rc ty29_WrldA rfl rfl) (.cons (.v rfl (Conv.of rfl)) .nil)) rfl rfl rfl
  · exfalso
    simp at h
    omega
theorem playA_ct (bad : Int) (evs : List Evt) (hb : within bad 0 4 = true) (hl : evs.length ≤ 70) : Ct Tryz.prog 15 [.v bad, .v evs] noObj (fun r1 h1 => r1 = .tup [.v (WrldA.mk (playF bad evs).epoch (.ref 2) (playF bad evs).log (playF bad evs).bad), .v true] ∧ h1 = obs [(2, .arr (playF bad evs).nodes)]) := by
  refine Ct.intro Tryz.func15 rfl rfl ?_
  all_goals refine awp_seq (awp_region (id := 0) ?_)
  all_goals refine awpOps_cons (op_alloc (o := 5) z29_WrldA rfl rfl) ?_
  all_goals refine awpOps_cons (op_as rfl (Conv.of rfl) rfl) ?_
  all_goals refine awpOps_nil ?_
  all_goals refine awp_seq (awp_region (id := 1) ?_)
  all_goals refine awpOps_cons (op_mv rfl (Conv.of rfl) rfl) ?_
  refine awpOps_callO [] rfl fb37 (.cons rfl (Conv.of rfl) (.nil _)) (worldNew_ct bad hb) ols0 oks0 (argOk' rfl rfl argO0) rfl ?_
  rintro r h' ⟨rfl, rfl⟩
  refine ⟨[(1, .arr (newW bad).nodes)], rfl, (fun o ho => by cases ho), fun o ho _ => ?_, oksk obOk_arr oks0, fun o ho => ?_, ?_⟩
  · have : o = 1 := by simpa [keys, lk0] using ho
    subst this; rfl
  · have : o = 1 := by simpa using (show o ∈ [1] from ho)
    subst this; rfl
  all_goals refine awpOps_cons (op_mv rfl (Conv.of rfl) rfl) ?_
  all_goals refine awpOps_cons (op_ext rfl rfl rfl) ?_
  all_goals refine awpOps_cons (op_ext rfl rfl rfl) ?_
  all_goals refine awpOps_cons (op_alloc (o := 0) z29_WrldA rfl rfl) ?_
  all_goals refine awpOps_cons (op_st ty29_WrldA rfl rfl (Conv.of rfl) rfl) ?_
  all_goals refine awpOps_cons (op_as rfl (Conv.of rfl) rfl) ?_
  all_goals refine awpOps_nil ?_
  all_goals refine awp_seq (awp_seq (awp_region (id := 2) ?_))
  all_goals refine awpOps_cons (op_mv rfl (Conv.of rfl) rfl) ?_
  all_goals refine awpOps_cons (op_not rfl rfl) ?_
  all_goals refine awpOps_cons (op_mv rfl (Conv.of rfl) rfl) ?_
  all_goals refine g_lit (t := 17) (b := false) rfl ?_
  all_goals refine awpOps_cons (g_on rfl rfl rfl (op_mv rfl (Conv.of rfl) rfl)) ?_
  all_goals refine awpOps_cons (g_on rfl rfl rfl (op_len sl23 rfl rfl)) ?_
  all_goals refine awpOps_cons (g_on rfl rfl rfl (op_gtr rfl rfl rfl)) ?_
  all_goals refine awpOps_cons (op_pick rfl rfl rfl rfl) ?_
  all_goals refine awpOps_nil ?_
  refine awp_cond rfl (fun h => ?_) (fun h => ?_)
  · exfalso
    simp at h
    omega
  · refine awp_skip ?_
    all_goals refine awp_seq (awp_seq (awp_region (id := 4) ?_))
    all_goals refine awpOps_cons (op_mv rfl (Conv.of rfl) rfl) ?_
    all_goals refine awpOps_cons (op_len sl23 rfl rfl) ?_
    all_goals refine awpOps_cons (op_mv rfl (Conv.of rfl) rfl) ?_
    all_goals refine awpOps_nil ?_
    refine awp_block ?_
    refine awp_loop' (fun n s => ∃ (k : Nat), ∃ (hn : n + k = evs.length), s = mkSt 34 [(4, .box 5 (IsLens.whole WrldA)), (6, .box 0 (IsLens.whole WrldA)), (23, .v evs), (24, .v (evs.length : Int)), (25, .v (k : Int))] [(0, .cell (wA ((evs.take k).foldl doF (newW bad)))), (1, .arr ((evs.take k).foldl doF (newW bad)).nodes), (5, .cell WrldA.zero)]) (evs.length) ⟨0, by omega, rfl⟩ (Le.mk rfl (tlb rfl rfl rfl (tlb rfl rfl rfl (tle rfl (rfl) rfl (tle rfl (rfl) rfl (tle rfl (rfl) rfl tln))))) (olk (by rfl) (by exact obOkW rfl) (olk (by rfl) (by exact obOk_arr) (olk rfl (by exact obOkW0) oln))) noS) ?_
    rintro n s ⟨k, hn, rfl⟩
    have hfine : Fine ((evs.take k).foldl doF (newW bad)) := foldl_fine _ (newW_fine bad)
    all_goals refine awp_seq (awp_region (id := 5) ?_)
    all_goals refine awpOps_cons (op_lss rfl rfl rfl) ?_
    all_goals refine awpOps_nil ?_
    refine awp_seq (awp_cond rfl (fun h => ?_) (fun h => ?_))
    · have hlt : k < evs.length := by simpa using h
      have hx : evs[k]? = some evs[k] := List.getElem?_eq_getElem hlt
      refine awp_skip ?_
      refine awp_seq (awp_block ?_)
      all_goals refine awp_seq (awp_region (id := 6) ?_)
      all_goals refine awpOps_cons (op_ix sl23 rfl rfl rfl (by omega) hx) ?_
      all_goals refine awpOps_cons (op_ldr ty50 rfl rfl) ?_
      all_goals refine awpOps_cons (op_alloc (o := 6) z50 rfl rfl) ?_
      all_goals refine awpOps_cons (op_st ty50 rfl rfl (Conv.of rfl) rfl) ?_
      all_goals refine awpOps_nil ?_
      all_goals refine awp_region (id := 7) ?_
      all_goals refine awpOps_cons (op_ld ty50 rfl rfl rfl) ?_
      all_goals refine awpOps_cons (op_callO fb48 (.cons rfl (Conv.of rfl) (.cons rfl (Conv.of rfl) (.nil _))) (do_ct _ evs[k] hfine) (olsk rfl (olsk rfl ols0)) (oksk (by exact obOkW rfl) (oksk (by exact obOk_arr) oks0)) (oksk (by exact obOkW rfl) (oksk (by exact obOk_arr) oks0)) rfl (argOb rfl rfl rfl (argOk' rfl rfl argO0)) (fun o ho => by cases ho) rfl) ?_
      all_goals refine awpOps_nil ?_
      all_goals refine awp_region (id := 8) ?_
      all_goals refine awpOps_cons (op_add rfl rfl rfl (by omega)) ?_
      all_goals refine awpOps_cons (op_mv rfl (Conv.of rfl) rfl) ?_
      all_goals refine awpOps_nil ?_
      repeat first | refine nx_seq ?_ | refine nx_block ?_
      exact ⟨n - 1, _, by omega, ⟨k + 1, by omega, rfl⟩, Le.mk rfl (tlb rfl rfl rfl (tlb rfl rfl rfl (tle rfl (rfl) rfl (tle rfl (rfl) rfl (tle rfl (rfl) rfl tln))))) (olk (by (rw [foldl_at doF _ hx]; rfl)) (by exact obOkW rfl) (olk (by (rw [foldl_at doF _ hx]; rfl)) (by exact obOk_arr) (olk rfl (by exact obOkW0) oln))) noS⟩
    · refine awp_exit ?_
      repeat refine ex_seq ?_
      refine ex_block ?_
      have hk : evs.length ≤ k := by simpa using h
      have hp : (evs.take k).foldl doF (newW bad) = playF bad evs := by rw [take_end hk]; rfl
      rw [hp] at hfine ⊢
      all_goals refine awp_seq (awp_region (id := 9) ?_)
      all_goals refine awpOps_cons (op_ld ty29_WrldA rfl rfl rfl) ?_
      refine awpOps_callO [(1, .arr (playF bad evs).nodes)] rfl fb49 (.cons rfl (Conv.of rfl) (.nil _)) (copiedA_w _ hfine) (olsk rfl ols0) (oksk obOk_arr oks0) (argOb rfl rfl rfl argO0) rfl ?_
      rintro r h' ⟨rfl, rfl⟩
      refine ⟨[(1, .arr (playF bad evs).nodes), (2, .arr (playF bad evs).nodes)], rfl, fun o ho => ?_, fun o ho h1 => ?_, oksk obOk_arr (oksk obOk_arr oks0), fun o ho => ?_, ?_⟩
      · have : o = 1 := by simpa [keys, lk0] using ho
        subst this; rfl
      · by_cases e : o = 1
        · subst e; cases h1
        · have : o = 2 := by simpa [keys, lk0, e] using ho
          subst this; rfl
      · have : o = 2 := by simpa using (show o ∈ [2] from ho)
        subst this; rfl
      all_goals refine awpOps_cons (op_st ty29_WrldA rfl rfl (Conv.of rfl) rfl) ?_
      all_goals refine awpOps_cons (op_as rfl (Conv.of rfl) rfl) ?_
      all_goals refine awpOps_nil ?_
      refine awp_ret ?_
      repeat first | refine rt_seq ?_ | refine rt_block ?_
      refine ⟨_, _, resN (ol := [(2, .arr (playF bad evs).nodes)]) (.cons (.rc ty29_WrldA rfl rfl) (.cons (.v rfl (Conv.of rfl)) .nil)) rfl (fun o ho => ?_) (olk rfl obOk_arr oln) noS, rfl, rfl⟩
      have : o = 2 := by simpa using (show o ∈ [2] from ho)
      subst this; rfl
end Go.Proofs.YtompnmkpgffhkaaGreat

/- What the reference computes, and that it is the same. -/
set_option linter.unusedVariables false
namespace Go.Wt
def leadS (e : Int) : Int := (e - 1).tmod 4 + 1
/-- One chain begins another one. -/
def inS (a b : List Itm) : Bool := decide (a.length ≤ b.length) && decide (a = b.take a.length)
def manyFrom (c : List Itm) : List Vote → Int → Int
  | [], n => n
  | v :: r, n => manyFrom c r (if decide (v.chain = c) then n + 1 else n)
def many (l : List Vote) (c : List Itm) : Int := manyFrom c l 0
theorem many_drop {c : List Itm} {l : List Vote} {k : Nat} {x : Vote} (h : l[k]? = some x) (n : Int) : manyFrom c (l.drop k) n = manyFrom c (l.drop (k + 1)) (if decide (x.chain = c) then n + 1 else n) := by
  rw [drop_at h]; rfl
def sureSFrom (l : List Vote) (c : List Itm) : Nat → Nat → Bool
  | _, 0 => true
  | k, n + 1 => decide (3 ≤ many l (c.take (k + 1))) && sureSFrom l c (k + 1) n
def sureS (l : List Vote) (c : List Itm) : Bool := sureSFrom l c 0 c.length
theorem sureS_step (l : List Vote) (c : List Itm) (k n : Nat) : sureSFrom l c k (n + 1) = (decide (3 ≤ many l (c.take (k + 1))) && sureSFrom l c (k + 1) n) := rfl
theorem take_eq_at {a b : List Itm} {k : Nat} {x y : Itm} (h1 : a[k]? = some x) (h2 : b[k]? = some y) : decide (a.take (k + 1) = b.take (k + 1)) = (decide (a.take k = b.take k) && decide (x = y)) := by
  rw [take_at h1, take_at h2, Bool.eq_iff_iff]
  simp only [decide_eq_true_eq, Bool.and_eq_true]
  constructor
  · intro h
    have hl : (a.take k).length = (b.take k).length := by
      have := (List.getElem?_eq_some_iff.1 h1).1
      have := (List.getElem?_eq_some_iff.1 h2).1
      simp; omega
    have := List.append_inj h hl
    exact ⟨this.1, by simpa using this.2⟩
  · rintro ⟨h, rfl⟩; rw [h]
theorem mem_take_at {l : List Vote} {k : Nat} {x v : Vote} (h : l[k]? = some x) : decide (v ∈ l.drop k) = (decide (x = v) || decide (v ∈ l.drop (k + 1))) := by
  rw [drop_at h, Bool.eq_iff_iff]
  simp only [List.mem_cons, decide_eq_true_eq, Bool.or_eq_true]
  exact ⟨fun h => h.imp Eq.symm id, fun h => h.imp Eq.symm id⟩
end Go.Wt
namespace Go.Wt
end Go.Wt
namespace Go.Wt
def fitsS (n : Nod) (u : Vote) (long : Nat) : Bool :=
  decide (u.by_ = leadS n.epoch) && decide (lastEp u.chain = n.epoch) && decide (u.chain.length = long + 1) && sureS n.seen (u.chain.take (u.chain.length - 1))
theorem fitsS_alt {n : Nod} {u : Vote} {long : Nat} (hu : 0 < u.chain.length) : fitsS n u long =
    (decide (u.by_ = leadS n.epoch) && decide (lastEp u.chain = n.epoch) && decide ((u.chain.length : Int) - 1 = (long : Int)) && sureS n.seen (u.chain.take ((u.chain.length : Int) - 1).toNat)) := by
  have e : ((u.chain.length : Int) - 1).toNat = u.chain.length - 1 := by omega
  rw [e]
  unfold fitsS
  congr 2
  rw [decide_eq_decide]
  omega
end Go.Wt
namespace Go.Wt
def allStepS (l : List Vote) (out : List (List Itm)) (v : Vote) : List (List Itm) := if !decide (v.chain ∈ out) && sureS l v.chain then out ++ [v.chain] else out
def allOfS (l : List Vote) : List (List Itm) := l.foldl (allStepS l) [[]]
theorem allStepS_len (l : List Vote) : ∀ (r : List Vote) (o : List (List Itm)), (r.foldl (allStepS l) o).length ≤ o.length + r.length
  | [], o => by simp
  | v :: r, o => by
    have := allStepS_len l r (allStepS l o v)
    have h2 : (allStepS l o v).length ≤ o.length + 1 := by unfold allStepS; split <;> simp
    simp only [List.foldl_cons, List.length_cons]; omega
theorem mem_take_c {l : List (List Itm)} {k : Nat} {x v : List Itm} (h : l[k]? = some x) : decide (v ∈ l.take (k + 1)) = (decide (v ∈ l.take k) || decide (x = v)) := by
  rw [take_at h, Bool.eq_iff_iff]
  simp only [List.mem_append, List.mem_singleton, decide_eq_true_eq, Bool.or_eq_true]
  exact ⟨fun h => h.imp id Eq.symm, fun h => h.imp id Eq.symm⟩
end Go.Wt
namespace Go.Wt
open Go
/-- What stands here ends in one state. -/
theorem awp_to {P : Program} {S : Nat → Prop} {st s' : St} {x y : Code} {Q Q' : Exit → St → Prop} (h1 : awp P S x (athen (fun s => Le S s s') Q) st) (h2 : awp P S y Q' s') : awp P S x (athen (awp P S y Q') Q) st :=
  awp_mono h1 fun e s q => by
    cases e with
    | normal => exact awp_le q h2
    | exit id => exact q
    | goto l => exact q
    | ret => exact q
    | panic ch => exact q
    | outgrown => exact q
end Go.Wt
namespace Go.Wt
open Go
theorem awp_toB {P : Program} {S : Nat → Prop} {st s' : St} {id : Nat} {x y : Code} {Q Q' : Exit → St → Prop} (h1 : awp P S x (ablock id (athen (fun s => Le S s s') Q)) st) (h2 : awp P S y Q' s') : awp P S x (ablock id (athen (awp P S y Q') Q)) st :=
  awp_mono h1 fun e s q => by
    cases e with
    | normal => exact awp_le q h2
    | exit j =>
      simp only [ablock] at q ⊢
      split at q
      · rw [if_pos (by assumption)]; exact awp_le q h2
      · rw [if_neg (by assumption)]; exact q
    | goto l => exact q
    | ret => exact q
    | panic ch => exact q
    | outgrown => exact q
end Go.Wt
namespace Go.Wt
theorem allStepS_pos (l : List Vote) : ∀ (r : List Vote) (o : List (List Itm)) (x : List Itm), o[0]? = some x → (r.foldl (allStepS l) o)[0]? = some x
  | [], _, _, h => h
  | v :: r, o, x, h => by
    refine allStepS_pos l r _ x ?_
    unfold allStepS
    split
    · have := (List.getElem?_eq_some_iff.1 h).1
      rw [List.getElem?_append_left this]; exact h
    · exact h
theorem allOfS_0 (l : List Vote) : (allOfS l)[0]? = some [] := allStepS_pos l l [[]] [] rfl
def tipOfS (l : List Vote) : List Itm := (allOfS l).foldl tipStep []
end Go.Wt
namespace Go.Wt
def proposeS (n : Nod) (p : Pay) : Nod × Vote × Bool :=
  if decide (n.epoch = 0) || decide (n.voted = n.epoch) || !decide (leadS n.epoch = n.id) then (n, .zero, false)
  else if chainOk (tipOfS n.seen ++ [⟨n.epoch, p⟩]) then voteF n (tipOfS n.seen ++ [⟨n.epoch, p⟩]) else (n, .zero, false)
theorem allStepS_mem (l : List Vote) : ∀ (r : List Vote) (o : List (List Itm)) (c : List Itm), c ∈ r.foldl (allStepS l) o → c ∈ o ∨ ∃ v ∈ r, v.chain = c
  | [], o, c, h => .inl h
  | v :: r, o, c, h => by
    rcases allStepS_mem l r (allStepS l o v) c h with h | ⟨u, h1, h2⟩
    · unfold allStepS at h
      split at h
      · rcases List.mem_append.1 h with h | h
        · exact .inl h
        · simp at h; exact .inr ⟨v, by simp, h.symm⟩
      · exact .inl h
    · exact .inr ⟨u, by simp [h1], h2⟩
theorem Gd.tipS {l : List Vote} (h : Gd l) : (tipOfS l).length ≤ 16 := by
  rcases tip_mem (allOfS l) [] with e | e
  · unfold tipOfS; rw [e]; simp
  · rcases allStepS_mem l l [[]] _ e with e | ⟨v, h1, h2⟩
    · simp at e; unfold tipOfS; rw [e]; simp
    · unfold tipOfS; rw [← h2]; exact chainOk_len (voteOk_chain (h.ok v h1))
def res3S (x : Nod × Vote × Bool) : AV := .tup [.v (sN x.1), .v x.2.1, .v x.2.2]
end Go.Wt
namespace Go.Wt
open Go
theorem obOkN {p : Nat → Bool} {x : NodS} : obOk p (.cell x) := fun o ho => by
  have : Enc.refs x = [] := rfl
  rw [this] at ho; cases ho
theorem obOkS {p : Nat → Bool} {e : Int} {o : Nat} {l : OList Vote} {b : Int} (h : p o = true) : obOk p (.cell (WrldS.mk e (.ref o) l b)) := fun o' ho => by
  have : Enc.refs (WrldS.mk e (.ref o) l b) = [o] := rfl
  rw [this] at ho
  simp at ho; subst ho; exact h
end Go.Wt
namespace Go.Wt
def sW (w : Wrld) : WrldS := ⟨w.epoch, .ref 1, ⟨w.log, true⟩, w.bad⟩
end Go.Wt
namespace Go.Wt
open Go
theorem obOkNs {p : Nat → Bool} {xs : List NodS} : obOk p (.arr xs) := fun x _ o ho => by
  have : Enc.refs x = [] := rfl
  rw [this] at ho; cases ho
theorem obOkS0 {p : Nat → Bool} : obOk p (.cell WrldS.zero) := fun o ho => by
  have : Enc.refs WrldS.zero = [] := rfl
  rw [this] at ho; cases ho
end Go.Wt
namespace Go.Wt
def fW (w : Wrld) : WrldS := ⟨w.epoch, .ref 1, ⟨w.log, false⟩, w.bad⟩
end Go.Wt
namespace Go.Wt
def tryS (n : Nod) (long : Nat) : List Vote → Nod × Vote × Bool
  | [] => (n, .zero, false)
  | u :: r => if fitsS n u long then voteF n u.chain else tryS n long r
theorem tryS_drop (n : Nod) (long : Nat) {l : List Vote} {k : Nat} {x : Vote} (h : l[k]? = some x) : tryS n long (l.drop k) = if fitsS n x long then voteF n x.chain else tryS n long (l.drop (k + 1)) := by
  rw [drop_at h]; rfl
def tryAllS (n : Nod) : Nod × Vote × Bool := if decide (n.epoch = 0) || decide (n.voted = n.epoch) then (n, .zero, false) else tryS n (tipOfS n.seen).length n.seen
def hearS (n : Nod) (v : Vote) : Nod × Vote × Bool :=
  if voteOk v && !decide (v.by_ = n.id) && decide (n.seen.length < 80) then tryAllS (seeF n v) else (n, .zero, false)
end Go.Wt

/- The reference: payments, chains, votes. -/
set_option linter.unusedVariables false
set_option linter.unusedSimpArgs false
namespace Go.Proofs.YtompnmkpgffhkaaGreat
open Go Go.Wt
theorem l6In_ct (n lo hi : Int) : CtP Tryz.prog 84 [.v n, .v lo, .v hi] (.v (within n lo hi)) := by
  refine Ct.intro Tryz.func84 rfl rfl ?_
  all_goals refine awp_seq (awp_region (id := 0) ?_)
  all_goals refine awpOps_cons (op_as rfl (Conv.of rfl) rfl) ?_
  all_goals refine awpOps_nil ?_
  all_goals refine awp_seq (awp_region (id := 1) ?_)
  all_goals refine awpOps_cons (op_mv rfl (Conv.of rfl) rfl) ?_
  all_goals refine awpOps_cons (op_mv rfl (Conv.of rfl) rfl) ?_
  all_goals refine awpOps_cons (op_geq rfl rfl rfl) ?_
  all_goals refine awpOps_cons (op_mv rfl (Conv.of rfl) rfl) ?_
  all_goals refine g_split (t := 10) rfl (fun h => ?_) (fun h => ?_)
  all_goals first | refine awpOps_cons (g_off rfl rfl rfl rfl rfl) ?_ | refine awpOps_cons (g_on rfl rfl rfl (op_mv rfl (Conv.of rfl) rfl)) ?_
  all_goals first | refine awpOps_cons (g_off rfl rfl rfl rfl rfl) ?_ | refine awpOps_cons (g_on rfl rfl rfl (op_mv rfl (Conv.of rfl) rfl)) ?_
  all_goals first | refine awpOps_cons (g_off rfl rfl rfl rfl rfl) ?_ | refine awpOps_cons (g_on rfl rfl rfl (op_leq rfl rfl rfl)) ?_
  all_goals refine awpOps_cons (op_pick rfl rfl rfl rfl) ?_
  all_goals refine awpOps_cons (op_as rfl (Conv.of rfl) rfl) ?_
  all_goals refine awpOps_nil ?_
  all_goals refine awp_ret ?_
  all_goals refine finP (.v rfl (Conv.of rfl)) rfl ?_
  all_goals (simp only [FV.av, within]; first | (rw [h]; rfl) | simp_all)
theorem sPayOk_ct (p : Pay) : CtP Tryz.prog 127 [.v p] (.v (payOk p)) := by
  refine Ct.intro Tryz.func127 rfl rfl ?_
  all_goals refine awp_seq (awp_region (id := 0) ?_)
  all_goals refine awpOps_cons (op_box (o := 0) ty46 rfl (Conv.of rfl) rfl rfl) ?_
  all_goals refine awpOps_cons (op_as rfl (Conv.of rfl) rfl) ?_
  all_goals refine awpOps_nil ?_
  all_goals refine awp_seq (awp_region (id := 1) ?_)
  all_goals refine awpOps_cons (op_fab f46_0 rfl rfl) ?_
  all_goals refine awpOps_cons (op_ld ty3 rfl rfl rfl) ?_
  all_goals refine awpOps_cons (op_call fb84 (.cons rfl (Conv.of rfl) (.cons rfl (Conv.of rfl) (.cons rfl (Conv.of rfl) (.nil _)))) (l6In_ct _ _ _) (argOk rfl rfl (argOk rfl rfl (argOk rfl rfl argOk0))) rfl rfl) ?_
  all_goals refine awpOps_cons (op_mv rfl (Conv.of rfl) rfl) ?_
  all_goals refine g_split (t := 6) rfl (fun h => ?_) (fun h => ?_)
  all_goals first | refine awpOps_cons (g_off rfl rfl rfl rfl rfl) ?_ | refine awpOps_cons (g_on rfl rfl rfl (op_fab f46_1 rfl rfl)) ?_
  all_goals first | refine awpOps_cons (g_off rfl rfl rfl rfl rfl) ?_ | refine awpOps_cons (g_on rfl rfl rfl (op_ld ty3 rfl rfl rfl)) ?_
  all_goals first | refine awpOps_cons (g_off rfl rfl rfl rfl rfl) ?_ | refine awpOps_cons (g_on rfl rfl rfl (op_call fb84 (.cons rfl (Conv.of rfl) (.cons rfl (Conv.of rfl) (.cons rfl (Conv.of rfl) (.nil _)))) (l6In_ct _ _ _) (argOk rfl rfl (argOk rfl rfl (argOk rfl rfl argOk0))) rfl rfl)) ?_
  all_goals refine awpOps_cons (op_pick rfl rfl rfl rfl) ?_
  all_goals refine awpOps_cons (op_mv rfl (Conv.of rfl) rfl) ?_
  all_goals first | refine g_lit (t := 11) (b := false) rfl ?_ | refine g_split (t := 11) rfl (fun h => ?_) (fun h => ?_)
  all_goals first | refine awpOps_cons (g_off rfl rfl rfl rfl rfl) ?_ | refine awpOps_cons (g_on rfl rfl rfl (op_fab f46_0 rfl rfl)) ?_
  all_goals first | refine awpOps_cons (g_off rfl rfl rfl rfl rfl) ?_ | refine awpOps_cons (g_on rfl rfl rfl (op_ld ty3 rfl rfl rfl)) ?_
  all_goals first | refine awpOps_cons (g_off rfl rfl rfl rfl rfl) ?_ | refine awpOps_cons (g_on rfl rfl rfl (op_fab f46_1 rfl rfl)) ?_
  all_goals first | refine awpOps_cons (g_off rfl rfl rfl rfl rfl) ?_ | refine awpOps_cons (g_on rfl rfl rfl (op_ld ty3 rfl rfl rfl)) ?_
  all_goals first | refine awpOps_cons (g_off rfl rfl rfl rfl rfl) ?_ | refine awpOps_cons (g_on rfl rfl rfl (op_neq rfl rfl rfl)) ?_
  all_goals refine awpOps_cons (op_pick rfl rfl rfl rfl) ?_
  all_goals refine awpOps_cons (op_mv rfl (Conv.of rfl) rfl) ?_
  all_goals first | refine g_lit (t := 18) (b := false) rfl ?_ | refine g_split (t := 18) rfl (fun h => ?_) (fun h => ?_)
  all_goals first | refine awpOps_cons (g_off rfl rfl rfl rfl rfl) ?_ | refine awpOps_cons (g_on rfl rfl rfl (op_fab f46_2 rfl rfl)) ?_
  all_goals first | refine awpOps_cons (g_off rfl rfl rfl rfl rfl) ?_ | refine awpOps_cons (g_on rfl rfl rfl (op_ld ty3 rfl rfl rfl)) ?_
  all_goals first | refine awpOps_cons (g_off rfl rfl rfl rfl rfl) ?_ | refine awpOps_cons (g_on rfl rfl rfl (op_call fb84 (.cons rfl (Conv.of rfl) (.cons rfl (Conv.of rfl) (.cons rfl (Conv.of rfl) (.nil _)))) (l6In_ct _ _ _) (argOk rfl rfl (argOk rfl rfl (argOk rfl rfl argOk0))) rfl rfl)) ?_
  all_goals refine awpOps_cons (op_pick rfl rfl rfl rfl) ?_
  all_goals refine awpOps_cons (op_as rfl (Conv.of rfl) rfl) ?_
  all_goals refine awpOps_nil ?_
  all_goals refine awp_ret ?_
  all_goals refine finP (.v rfl (Conv.of rfl)) rfl ?_
  all_goals simp_all [FV.av, payOk]
set_option maxHeartbeats 1000000 in
theorem sChainOk_ct (c : List Itm) : CtP Tryz.prog 137 [.v c] (.v (chainOk c)) := by
  refine Ct.intro Tryz.func137 rfl rfl ?_
  refine awp_bigL 0 rfl (fun hB => ?_)
  all_goals refine awp_seq (awp_region (id := 0) ?_)
  all_goals refine awpOps_cons (op_as rfl (Conv.of rfl) rfl) ?_
  all_goals refine awpOps_nil ?_
  all_goals refine awp_seq (awp_seq (awp_region (id := 1) ?_))
  all_goals refine awpOps_cons (op_as rfl (Conv.of rfl) rfl) ?_
  all_goals refine awpOps_nil ?_
  refine awp_block ?_
  refine awp_loop' (fun n s => ∃ (k : Nat), ∃ (hn : n + k = c.length), ∃ (hall : ∀ (j : Nat) (x : Itm), j < k → c[j]? = some x → itemOk c j x = true), s = mkSt 47 [(0, .v c), (3, .v (k : Int))] []) (c.length) ⟨0, by omega, fun j x h => by omega, rfl⟩ (Le.mk rfl (tle rfl (rfl) rfl (tle rfl (rfl) rfl tln)) oln noS) ?_
  rintro n s ⟨k, hn, hall, rfl⟩
  all_goals refine awp_seq (awp_seq (awp_region (id := 2) ?_))
  all_goals refine awpOps_cons (op_mv rfl (Conv.of rfl) rfl) ?_
  all_goals refine awpOps_cons (op_mv rfl (Conv.of rfl) rfl) ?_
  all_goals refine awpOps_cons (op_len sl35 rfl rfl) ?_
  all_goals refine awpOps_cons (op_lss rfl rfl rfl) ?_
  all_goals refine awpOps_nil ?_
  refine awp_cond rfl (fun h => ?_) (fun h => ?_)
  · have hlt : k < c.length := by simpa using h
    have hx : c[k]? = some c[k] := List.getElem?_eq_getElem hlt
    refine awp_skip ?_
    refine awp_seq (awp_block ?_)
    have hprev : decide ((0 : Int) < k) = true → 0 ≤ (k : Int) - 1 ∧ c[((k : Int) - 1).toNat]? = some (c[k - 1]'(by omega)) := by
      intro h0
      have h1 : 0 < k := by simpa using h0
      have e : ((k : Int) - 1).toNat = k - 1 := by omega
      exact ⟨by omega, by rw [e]; exact List.getElem?_eq_getElem (by omega)⟩
    refine awp_seq_to (s' := mkSt 47 [(0, .v c), (3, .v (k : Int)), (43, .v (!itemOk c k c[k]))] []) ?_ ?_
    · all_goals refine dr_start (id := 4) ?_
      all_goals refine dr_cons (op_mv rfl (Conv.of rfl) rfl) ?_
      all_goals refine dr_cons (op_mv rfl (Conv.of rfl) rfl) ?_
      all_goals refine dr_cons (op_ix sl35 rfl rfl rfl (by omega) hx) ?_
      all_goals refine dr_cons (op_far f67_0 rfl rfl) ?_
      all_goals refine dr_cons (op_ldr ty3 rfl rfl) ?_
      all_goals refine dr_cons (op_call fb84 (.cons rfl (Conv.of rfl) (.cons rfl (Conv.of rfl) (.cons rfl (Conv.of rfl) (.nil _)))) (l6In_ct _ _ _) (argOk rfl rfl (argOk rfl rfl (argOk rfl rfl argOk0))) rfl rfl) ?_
      all_goals refine dr_cons (op_not rfl rfl) ?_
      all_goals refine dr_cons (op_mv rfl (Conv.of rfl) rfl) ?_
      all_goals refine dr_split (t := 17) rfl (fun h => ?_) (fun h => ?_)
      all_goals first | refine dr_cons (g_off rfl rfl rfl rfl rfl) ?_ | refine dr_cons (g_on rfl rfl rfl (op_mv rfl (Conv.of rfl) rfl)) ?_
      all_goals first | refine dr_cons (g_off rfl rfl rfl rfl rfl) ?_ | refine dr_cons (g_on rfl rfl rfl (op_mv rfl (Conv.of rfl) rfl)) ?_
      all_goals first | refine dr_cons (g_off rfl rfl rfl rfl rfl) ?_ | refine dr_cons (g_on rfl rfl rfl (op_ix sl35 rfl rfl rfl (by omega) hx)) ?_
      all_goals first | refine dr_cons (g_off rfl rfl rfl rfl rfl) ?_ | refine dr_cons (g_on rfl rfl rfl (op_far f67_1 rfl rfl)) ?_
      all_goals first | refine dr_cons (g_off rfl rfl rfl rfl rfl) ?_ | refine dr_cons (g_on rfl rfl rfl (op_ldr ty46 rfl rfl)) ?_
      all_goals first | refine dr_cons (g_off rfl rfl rfl rfl rfl) ?_ | refine dr_cons (g_on rfl rfl rfl (op_call fb127 (.cons rfl (Conv.of rfl) (.nil _)) (sPayOk_ct _) (argOk rfl rfl argOk0) rfl rfl)) ?_
      all_goals first | refine dr_cons (g_off rfl rfl rfl rfl rfl) ?_ | refine dr_cons (g_on rfl rfl rfl (op_not rfl rfl)) ?_
      all_goals refine dr_cons (op_pick rfl rfl rfl rfl) ?_
      all_goals refine dr_cons (op_mv rfl (Conv.of rfl) rfl) ?_
      all_goals first | refine dr_lit (t := 26) (b := true) rfl ?_ | refine dr_split (t := 26) rfl (fun h => ?_) (fun h => ?_)
      all_goals first | refine dr_cons (g_off rfl rfl rfl rfl rfl) ?_ | refine dr_cons (g_on rfl rfl rfl (op_mv rfl (Conv.of rfl) rfl)) ?_
      all_goals first | refine dr_cons (g_off rfl rfl rfl rfl rfl) ?_ | refine dr_cons (g_on rfl rfl rfl (op_gtr rfl rfl rfl)) ?_
      all_goals first | refine dr_cons (g_off rfl rfl rfl rfl rfl) ?_ | refine dr_cons (g_on rfl rfl rfl (op_mv rfl (Conv.of rfl) rfl)) ?_
      all_goals first | refine dr_ulit (t := 29) rfl ?_ | refine dr_split (t := 29) rfl (fun h => ?_) (fun h => ?_)
      all_goals first | refine dr_cons (g_off rfl rfl rfl rfl rfl) ?_ | refine dr_cons (g_und rfl rfl rfl) ?_ | refine dr_cons (g_on rfl rfl rfl (op_mv rfl (Conv.of rfl) rfl)) ?_
      all_goals first | refine dr_cons (g_off rfl rfl rfl rfl rfl) ?_ | refine dr_cons (g_und rfl rfl rfl) ?_ | refine dr_cons (g_on rfl rfl rfl (op_mv rfl (Conv.of rfl) rfl)) ?_
      all_goals first | refine dr_cons (g_off rfl rfl rfl rfl rfl) ?_ | refine dr_cons (g_und rfl rfl rfl) ?_ | refine dr_cons (g_on rfl rfl rfl (op_sub rfl rfl rfl (by omega))) ?_
      all_goals first | refine dr_cons (g_off rfl rfl rfl rfl rfl) ?_ | refine dr_cons (g_und rfl rfl rfl) ?_ | refine dr_cons (g_on rfl rfl rfl (op_ix sl35 rfl rfl rfl (hprev h).1 (hprev h).2)) ?_
      all_goals first | refine dr_cons (g_off rfl rfl rfl rfl rfl) ?_ | refine dr_cons (g_und rfl rfl rfl) ?_ | refine dr_cons (g_on rfl rfl rfl (op_far f67_0 rfl rfl)) ?_
      all_goals first | refine dr_cons (g_off rfl rfl rfl rfl rfl) ?_ | refine dr_cons (g_und rfl rfl rfl) ?_ | refine dr_cons (g_on rfl rfl rfl (op_ldr ty3 rfl rfl)) ?_
      all_goals first | refine dr_cons (g_off rfl rfl rfl rfl rfl) ?_ | refine dr_cons (g_und rfl rfl rfl) ?_ | refine dr_cons (g_on rfl rfl rfl (op_mv rfl (Conv.of rfl) rfl)) ?_
      all_goals first | refine dr_cons (g_off rfl rfl rfl rfl rfl) ?_ | refine dr_cons (g_und rfl rfl rfl) ?_ | refine dr_cons (g_on rfl rfl rfl (op_mv rfl (Conv.of rfl) rfl)) ?_
      all_goals first | refine dr_cons (g_off rfl rfl rfl rfl rfl) ?_ | refine dr_cons (g_und rfl rfl rfl) ?_ | refine dr_cons (g_on rfl rfl rfl (op_ix sl35 rfl rfl rfl (by omega) hx)) ?_
      all_goals first | refine dr_cons (g_off rfl rfl rfl rfl rfl) ?_ | refine dr_cons (g_und rfl rfl rfl) ?_ | refine dr_cons (g_on rfl rfl rfl (op_far f67_0 rfl rfl)) ?_
      all_goals first | refine dr_cons (g_off rfl rfl rfl rfl rfl) ?_ | refine dr_cons (g_und rfl rfl rfl) ?_ | refine dr_cons (g_on rfl rfl rfl (op_ldr ty3 rfl rfl)) ?_
      all_goals first | refine dr_cons (g_off rfl rfl rfl rfl rfl) ?_ | refine dr_cons (g_und rfl rfl rfl) ?_ | refine dr_cons (g_on rfl rfl rfl (op_geq rfl rfl rfl)) ?_
      all_goals first | refine dr_cons (g_off rfl rfl rfl rfl rfl) ?_ | refine dr_cons (g_on rfl rfl rfl (op_pick rfl rfl rfl rfl)) ?_
      all_goals refine dr_cons (op_pick rfl rfl rfl rfl) ?_
      all_goals refine dr_nil mixed rfl ?_
      all_goals exact Le.mk rfl (tle rfl (rfl) rfl (tle rfl (rfl) rfl (tle rfl (by (clear hall; simp_all [itemOk_nat, List.getElem?_eq_getElem (show k - 1 < c.length by omega)])) rfl tln))) oln noS
    refine awp_cond rfl (fun h => ?_) (fun h => ?_)
    · all_goals refine awp_seq (awp_region (id := 5) ?_)
      all_goals refine awpOps_cons (op_as rfl (Conv.of rfl) rfl) ?_
      all_goals refine awpOps_nil ?_
      refine awp_ret ?_
      repeat first | refine rt_seq ?_ | refine rt_block ?_
      refine finP (.v rfl (Conv.of rfl)) rfl ?_
      show AV.v false = _
      rw [chainOk_bad hx (not_t h)]
    · refine awp_skip ?_
      all_goals refine awp_region (id := 3) ?_
      all_goals refine awpOps_cons (op_mv rfl (Conv.of rfl) rfl) ?_
      all_goals refine awpOps_cons (op_add rfl rfl rfl (by omega)) ?_
      all_goals refine awpOps_cons (op_as rfl (Conv.of rfl) rfl) ?_
      all_goals refine awpOps_nil ?_
      repeat first | refine nx_seq ?_ | refine nx_block ?_
      exact ⟨n - 1, _, by omega, ⟨k + 1, by omega, fun j x hj hjx => chainOk_more hx hall (not_f h) hj hjx, rfl⟩, Le.mk rfl (tle rfl (rfl) rfl (tle rfl (rfl) rfl tln)) oln noS⟩
  · refine awp_exit ?_
    repeat refine ex_seq ?_
    refine ex_block ?_
    all_goals refine awp_seq (awp_region (id := 6) ?_)
    all_goals refine awpOps_cons (op_mv rfl (Conv.of rfl) rfl) ?_
    all_goals refine awpOps_cons (op_len sl35 rfl rfl) ?_
    all_goals refine awpOps_cons (op_leq rfl rfl rfl) ?_
    all_goals refine awpOps_cons (op_as rfl (Conv.of rfl) rfl) ?_
    all_goals refine awpOps_nil ?_
    refine awp_ret ?_
    repeat first | refine rt_seq ?_ | refine rt_block ?_
    refine finP (.v rfl (Conv.of rfl)) rfl ?_
    show AV.v _ = _
    rw [chainOk_good (k := k) (by simpa using h) hall]
theorem l3Leader_ct (n : Int) (hn : -1000 ≤ n ∧ n ≤ 1000000) : CtP Tryz.prog 83 [.v n] (.v (leadS n)) := by
  have ht1 := Int.tmod_lt_of_pos (n - 1) (show (0 : Int) < 4 by omega)
  have ht2 : -4 < (n - 1).tmod 4 := Int.lt_tmod_of_pos (n - 1) (show (0 : Int) < 4 by omega)
  refine Ct.intro Tryz.func83 rfl rfl ?_
  all_goals refine awp_seq (awp_region (id := 0) ?_)
  all_goals refine awpOps_cons (op_as rfl (Conv.of rfl) rfl) ?_
  all_goals refine awpOps_nil ?_
  all_goals refine awp_seq (awp_region (id := 1) ?_)
  all_goals refine awpOps_cons (op_mv rfl (Conv.of rfl) rfl) ?_
  all_goals refine awpOps_cons (op_sub rfl rfl rfl (by omega)) ?_
  all_goals refine awpOps_cons (op_rem rfl rfl rfl (by decide)) ?_
  all_goals refine awpOps_cons (op_add rfl rfl rfl (by omega)) ?_
  all_goals refine awpOps_cons (op_as rfl (Conv.of rfl) rfl) ?_
  all_goals refine awpOps_nil ?_
  refine awp_ret ?_
  repeat first | refine rt_seq ?_ | refine rt_block ?_
  exact finP (.v rfl (Conv.of rfl)) rfl rfl
theorem l1In_ct (a b : List Itm) : CtP Tryz.prog 172 [.v a, .v b] (.v (inS a b)) := by
  refine Ct.intro Tryz.func172 rfl rfl ?_
  refine awp_bigL 0 rfl (fun hB => ?_)
  all_goals refine awp_seq (awp_region (id := 0) ?_)
  all_goals refine awpOps_cons (op_as rfl (Conv.of rfl) rfl) ?_
  all_goals refine awpOps_nil ?_
  all_goals refine awp_seq (awp_seq (awp_region (id := 1) ?_))
  all_goals refine awpOps_cons (op_mv rfl (Conv.of rfl) rfl) ?_
  all_goals refine awpOps_cons (op_len sl35 rfl rfl) ?_
  all_goals refine awpOps_cons (op_mv rfl (Conv.of rfl) rfl) ?_
  all_goals refine awpOps_cons (op_len sl35 rfl rfl) ?_
  all_goals refine awpOps_cons (op_gtr rfl rfl rfl) ?_
  all_goals refine awpOps_nil ?_
  refine awp_cond rfl (fun h => ?_) (fun h => ?_)
  · all_goals refine awp_seq (awp_region (id := 2) ?_)
    all_goals refine awpOps_cons (op_as rfl (Conv.of rfl) rfl) ?_
    all_goals refine awpOps_nil ?_
    refine awp_ret ?_
    repeat first | refine rt_seq ?_ | refine rt_block ?_
    refine finP (.v rfl (Conv.of rfl)) rfl ?_
    have : ¬ a.length ≤ b.length := by simp at h; omega
    simp [FV.av, inS, this]
  · have hlen : a.length ≤ b.length := by simp at h; omega
    refine awp_skip ?_
    all_goals refine awp_seq (awp_seq (awp_region (id := 3) ?_))
    all_goals refine awpOps_cons (op_as rfl (Conv.of rfl) rfl) ?_
    all_goals refine awpOps_nil ?_
    refine awp_block ?_
    refine awp_loop' (fun n s => ∃ (k : Nat), ∃ (hn : n + k = a.length), ∃ (hall : decide (a.take k = b.take k) = true), s = mkSt 26 [(0, .v a), (1, .v b), (5, .v (k : Int))] []) (a.length) ⟨0, by omega, rfl, rfl⟩ (Le.mk rfl (tle rfl (rfl) rfl (tle rfl (rfl) rfl (tle rfl (rfl) rfl tln))) oln noS) ?_
    rintro n s ⟨k, hn, hall, rfl⟩
    all_goals refine awp_seq (awp_seq (awp_region (id := 4) ?_))
    all_goals refine awpOps_cons (op_mv rfl (Conv.of rfl) rfl) ?_
    all_goals refine awpOps_cons (op_mv rfl (Conv.of rfl) rfl) ?_
    all_goals refine awpOps_cons (op_len sl35 rfl rfl) ?_
    all_goals refine awpOps_cons (op_lss rfl rfl rfl) ?_
    all_goals refine awpOps_nil ?_
    refine awp_cond rfl (fun h => ?_) (fun h => ?_)
    · have hlt : k < a.length := by simpa using h
      have hx : a[k]? = some a[k] := List.getElem?_eq_getElem hlt
      have hy : b[k]? = some (b[k]'(by omega)) := List.getElem?_eq_getElem (by omega)
      have hs := take_eq_at hx hy
      refine awp_skip ?_
      refine awp_seq (awp_block ?_)
      all_goals refine awp_seq (dr_start (id := 6) ?_)
      all_goals refine dr_cons (op_mv rfl (Conv.of rfl) rfl) ?_
      all_goals refine dr_cons (op_mv rfl (Conv.of rfl) rfl) ?_
      all_goals refine dr_cons (op_ix sl35 rfl rfl rfl (by omega) hx) ?_
      all_goals refine dr_cons (op_ldr ty67 rfl rfl) ?_
      all_goals refine dr_cons (op_mv rfl (Conv.of rfl) rfl) ?_
      all_goals refine dr_cons (op_mv rfl (Conv.of rfl) rfl) ?_
      all_goals refine dr_cons (op_ix sl35 rfl rfl rfl (by omega) hy) ?_
      all_goals refine dr_cons (op_ldr ty67 rfl rfl) ?_
      all_goals refine dr_cons (op_nea weq67 rfl rfl rfl) ?_
      all_goals refine dr_nil mixed rfl ?_
      refine awp_cond rfl (fun h => ?_) (fun h => ?_)
      · all_goals refine awp_seq (awp_region (id := 7) ?_)
        all_goals refine awpOps_cons (op_as rfl (Conv.of rfl) rfl) ?_
        all_goals refine awpOps_nil ?_
        refine awp_ret ?_
        repeat first | refine rt_seq ?_ | refine rt_block ?_
        refine finP (.v rfl (Conv.of rfl)) rfl ?_
        have h' : ¬ a[k] = b[k] := by simpa using h
        have : ¬ a = b.take a.length := by
          intro e
          have e2 : a[k]? = (b.take a.length)[k]? := congrArg (fun l : List Itm => l[k]?) e
          rw [List.getElem?_take, if_pos hlt, hy, hx] at e2
          exact h' (Option.some.inj e2)
        simp [FV.av, inS, this]
      · refine awp_skip ?_
        have h' : decide (a[k] = b[k]) = true := by simpa using h
        all_goals refine awp_region (id := 5) ?_
        all_goals refine awpOps_cons (op_mv rfl (Conv.of rfl) rfl) ?_
        all_goals refine awpOps_cons (op_add rfl rfl rfl (by omega)) ?_
        all_goals refine awpOps_cons (op_as rfl (Conv.of rfl) rfl) ?_
        all_goals refine awpOps_nil ?_
        repeat first | refine nx_seq ?_ | refine nx_block ?_
        exact ⟨n - 1, _, by omega, ⟨k + 1, by omega, by rw [hs, hall, h']; rfl, rfl⟩, Le.mk rfl (tle rfl (rfl) rfl (tle rfl (rfl) rfl (tle rfl (rfl) rfl tln))) oln noS⟩
    · refine awp_exit ?_
      repeat refine ex_seq ?_
      refine ex_block ?_
      have hk : k = a.length := by simp at h; omega
      subst hk
      all_goals refine awp_seq (awp_region (id := 8) ?_)
      all_goals refine awpOps_cons (op_as rfl (Conv.of rfl) rfl) ?_
      all_goals refine awpOps_nil ?_
      refine awp_ret ?_
      repeat first | refine rt_seq ?_ | refine rt_block ?_
      refine finP (.v rfl (Conv.of rfl)) rfl ?_
      rw [List.take_length] at hall
      have : a = b.take a.length := by simpa using hall
      simp [FV.av, inS, hlen, ← this]
theorem inS_same {a b : List Itm} (h : a.length = b.length) : inS a b = decide (a = b) := by
  unfold inS
  rw [show b.take a.length = b by rw [h, List.take_length]]
  simp [h]
theorem l3Same_ct (a b : List Itm) : CtP Tryz.prog 161 [.v a, .v b] (.v (decide (a = b))) := by
  refine Ct.intro Tryz.func161 rfl rfl ?_
  all_goals refine awp_seq (awp_region (id := 0) ?_)
  all_goals refine awpOps_cons (op_as rfl (Conv.of rfl) rfl) ?_
  all_goals refine awpOps_nil ?_
  all_goals refine awp_seq (awp_region (id := 1) ?_)
  all_goals refine awpOps_cons (op_mv rfl (Conv.of rfl) rfl) ?_
  all_goals refine awpOps_cons (op_len sl35 rfl rfl) ?_
  all_goals refine awpOps_cons (op_mv rfl (Conv.of rfl) rfl) ?_
  all_goals refine awpOps_cons (op_len sl35 rfl rfl) ?_
  all_goals refine awpOps_cons (op_eql rfl rfl rfl) ?_
  all_goals refine awpOps_cons (op_mv rfl (Conv.of rfl) rfl) ?_
  all_goals refine g_split (t := 10) rfl (fun h => ?_) (fun h => ?_)
  all_goals first | refine awpOps_cons (g_off rfl rfl rfl rfl rfl) ?_ | refine awpOps_cons (g_on rfl rfl rfl (op_mv rfl (Conv.of rfl) rfl)) ?_
  all_goals first | refine awpOps_cons (g_off rfl rfl rfl rfl rfl) ?_ | refine awpOps_cons (g_on rfl rfl rfl (op_mv rfl (Conv.of rfl) rfl)) ?_
  all_goals first | refine awpOps_cons (g_off rfl rfl rfl rfl rfl) ?_ | refine awpOps_cons (g_on rfl rfl rfl (op_call fb172 (.cons rfl (Conv.of rfl) (.cons rfl (Conv.of rfl) (.nil _))) (l1In_ct _ _) (argOk rfl rfl (argOk rfl rfl argOk0)) rfl rfl)) ?_
  all_goals refine awpOps_cons (op_pick rfl rfl rfl rfl) ?_
  all_goals refine awpOps_cons (op_as rfl (Conv.of rfl) rfl) ?_
  all_goals refine awpOps_nil ?_
  all_goals refine awp_ret ?_
  all_goals refine finP (.v rfl (Conv.of rfl)) rfl ?_
  · have hl : a.length = b.length := by simp at h; omega
    simp only [FV.av]; congr 1
    exact inS_same hl
  · have hl : ¬ a.length = b.length := by simp at h; omega
    have : ¬ a = b := fun e => hl (by rw [e])
    simp [FV.av, this]
theorem l1Copy_ct (c : List Itm) (hc : c.length ≤ 1000000) : CtP Tryz.prog 139 [.v c] (.v (OList.mk c true)) := by
  refine Ct.intro Tryz.func139 rfl rfl ?_
  all_goals refine awp_seq (awp_region (id := 0) ?_)
  all_goals refine awpOps_cons (op_as rfl (Conv.of rfl) rfl) ?_
  all_goals refine awpOps_nil ?_
  all_goals refine awp_seq (awp_region (id := 1) ?_)
  all_goals refine awpOps_cons (op_bsl sl35 z67 (.nil _) rfl (by decide) rfl) ?_
  all_goals refine awpOps_cons (op_mv rfl (Conv.of rfl) rfl) ?_
  all_goals refine awpOps_cons (op_app sl35 z67 ul35 rfl rfl rfl (by (simp; omega)) (by (simp; omega)) rfl rfl) ?_
  all_goals refine awpOps_cons (op_asl rfl rfl rfl rfl) ?_
  all_goals refine awpOps_nil ?_
  refine awp_ret ?_
  repeat first | refine rt_seq ?_ | refine rt_block ?_
  exact finM rfl rfl (by simp)
theorem l3VoteCopy_ct (v : Vote) (hv : v.chain.length ≤ 1000000) : CtP Tryz.prog 158 [.v v] (.v v) := by
  refine Ct.intro Tryz.func158 rfl rfl ?_
  all_goals refine awp_seq (awp_region (id := 0) ?_)
  all_goals refine awpOps_cons (op_box (o := 0) ty48 rfl (Conv.of rfl) rfl rfl) ?_
  all_goals refine awpOps_cons (op_alloc (o := 1) z48 rfl rfl) ?_
  all_goals refine awpOps_nil ?_
  all_goals refine awp_seq (awp_region (id := 1) ?_)
  all_goals refine awpOps_cons (op_fab f48_1 rfl rfl) ?_
  all_goals refine awpOps_cons (op_ld ty35 rfl rfl rfl) ?_
  all_goals refine awpOps_cons (op_call fb139 (.cons rfl (Conv.of rfl) (.nil _)) (l1Copy_ct _ hv) (argOk rfl rfl argOk0) rfl rfl) ?_
  all_goals refine awpOps_cons (op_fab f48_1 rfl rfl) ?_
  all_goals refine awpOps_cons (op_st ty35 rfl rfl (Conv.ol) rfl) ?_
  all_goals refine awpOps_nil ?_
  all_goals refine awp_seq (awp_region (id := 2) ?_)
  all_goals refine awpOps_cons (op_ld ty48 rfl rfl rfl) ?_
  all_goals refine awpOps_cons (op_st ty48 rfl rfl (Conv.of rfl) rfl) ?_
  all_goals refine awpOps_nil ?_
  refine awp_ret ?_
  repeat first | refine rt_seq ?_ | refine rt_block ?_
  exact finP (.rc ty48 rfl rfl) rfl rfl
theorem l3Vote_ct (v : Vote) : CtP Tryz.prog 107 [.v v] (.v (voteOk v)) := by
  refine Ct.intro Tryz.func107 rfl rfl ?_
  all_goals refine awp_seq (awp_region (id := 0) ?_)
  all_goals refine awpOps_cons (op_box (o := 0) ty48 rfl (Conv.of rfl) rfl rfl) ?_
  all_goals refine awpOps_cons (op_as rfl (Conv.of rfl) rfl) ?_
  all_goals refine awpOps_nil ?_
  all_goals refine awp_seq (awp_region (id := 1) ?_)
  all_goals refine awpOps_cons (op_fab f48_0 rfl rfl) ?_
  all_goals refine awpOps_cons (op_ld ty3 rfl rfl rfl) ?_
  all_goals refine awpOps_cons (op_call fb84 (.cons rfl (Conv.of rfl) (.cons rfl (Conv.of rfl) (.cons rfl (Conv.of rfl) (.nil _)))) (l6In_ct _ _ _) (argOk rfl rfl (argOk rfl rfl (argOk rfl rfl argOk0))) rfl rfl) ?_
  all_goals refine awpOps_cons (op_mv rfl (Conv.of rfl) rfl) ?_
  all_goals refine g_split (t := 6) rfl (fun h => ?_) (fun h => ?_)
  all_goals first | refine awpOps_cons (g_off rfl rfl rfl rfl rfl) ?_ | refine awpOps_cons (g_on rfl rfl rfl (op_fab f48_1 rfl rfl)) ?_
  all_goals first | refine awpOps_cons (g_off rfl rfl rfl rfl rfl) ?_ | refine awpOps_cons (g_on rfl rfl rfl (op_ld ty35 rfl rfl rfl)) ?_
  all_goals first | refine awpOps_cons (g_off rfl rfl rfl rfl rfl) ?_ | refine awpOps_cons (g_on rfl rfl rfl (op_call fb137 (.cons rfl (Conv.of rfl) (.nil _)) (sChainOk_ct _) (argOk rfl rfl argOk0) rfl rfl)) ?_
  all_goals refine awpOps_cons (op_pick rfl rfl rfl rfl) ?_
  all_goals refine awpOps_cons (op_mv rfl (Conv.of rfl) rfl) ?_
  all_goals first | refine g_lit (t := 11) (b := false) rfl ?_ | refine g_split (t := 11) rfl (fun h => ?_) (fun h => ?_)
  all_goals first | refine awpOps_cons (g_off rfl rfl rfl rfl rfl) ?_ | refine awpOps_cons (g_on rfl rfl rfl (op_fab f48_1 rfl rfl)) ?_
  all_goals first | refine awpOps_cons (g_off rfl rfl rfl rfl rfl) ?_ | refine awpOps_cons (g_on rfl rfl rfl (op_ld ty35 rfl rfl rfl)) ?_
  all_goals first | refine awpOps_cons (g_off rfl rfl rfl rfl rfl) ?_ | refine awpOps_cons (g_on rfl rfl rfl (op_len sl35 rfl rfl)) ?_
  all_goals first | refine awpOps_cons (g_off rfl rfl rfl rfl rfl) ?_ | refine awpOps_cons (g_on rfl rfl rfl (op_gtr rfl rfl rfl)) ?_
  all_goals refine awpOps_cons (op_pick rfl rfl rfl rfl) ?_
  all_goals refine awpOps_cons (op_as rfl (Conv.of rfl) rfl) ?_
  all_goals refine awpOps_nil ?_
  all_goals refine awp_ret ?_
  all_goals refine finP (.v rfl (Conv.of rfl)) rfl ?_
  all_goals (simp_all [FV.av, voteOk])
theorem l3Has_ct (l : List Vote) (v : Vote) : CtP Tryz.prog 130 [.v l, .v v] (.v (decide (v ∈ l))) := by
  refine Ct.intro Tryz.func130 rfl rfl ?_
  refine awp_bigL 0 rfl (fun hB => ?_)
  all_goals refine awp_seq (awp_region (id := 0) ?_)
  all_goals refine awpOps_cons (op_box (o := 0) ty48 rfl (Conv.of rfl) rfl rfl) ?_
  all_goals refine awpOps_cons (op_as rfl (Conv.of rfl) rfl) ?_
  all_goals refine awpOps_nil ?_
  all_goals refine awp_seq (awp_seq (awp_region (id := 1) ?_))
  all_goals refine awpOps_cons (op_as rfl (Conv.of rfl) rfl) ?_
  all_goals refine awpOps_nil ?_
  refine awp_block ?_
  refine awp_loop' (fun n s => ∃ (k : Nat), ∃ (hn : n + k = l.length), ∃ (hall : decide (v ∈ l) = decide (v ∈ l.drop k)), s = mkSt 30 [(0, .v l), (3, .box 0 (IsLens.whole Vote)), (5, .v (k : Int))] [(0, .cell v)]) (l.length) ⟨0, by omega, rfl, rfl⟩ (Le.mk rfl (tle rfl (rfl) rfl (tlb rfl rfl rfl (tle rfl (rfl) rfl tln))) (olk rfl (by exact obOk_cell) oln) noS) ?_
  rintro n s ⟨k, hn, hall, rfl⟩
  all_goals refine awp_seq (awp_seq (awp_region (id := 2) ?_))
  all_goals refine awpOps_cons (op_mv rfl (Conv.of rfl) rfl) ?_
  all_goals refine awpOps_cons (op_mv rfl (Conv.of rfl) rfl) ?_
  all_goals refine awpOps_cons (op_len sl27 rfl rfl) ?_
  all_goals refine awpOps_cons (op_lss rfl rfl rfl) ?_
  all_goals refine awpOps_nil ?_
  refine awp_cond rfl (fun h => ?_) (fun h => ?_)
  · have hlt : k < l.length := by simpa using h
    have hx : l[k]? = some l[k] := List.getElem?_eq_getElem hlt
    have hs := mem_take_at (v := v) hx
    refine awp_skip ?_
    refine awp_seq (awp_block ?_)
    refine awp_seq_to (s' := mkSt 30 [(0, .v l), (3, .box 0 (IsLens.whole Vote)), (5, .v (k : Int)), (29, .v (decide (l[k] = v)))] [(0, .cell v)]) ?_ ?_
    · all_goals refine dr_start (id := 4) ?_
      all_goals refine dr_cons (op_mv rfl (Conv.of rfl) rfl) ?_
      all_goals refine dr_cons (op_mv rfl (Conv.of rfl) rfl) ?_
      all_goals refine dr_cons (op_ix sl27 rfl rfl rfl (by omega) hx) ?_
      all_goals refine dr_cons (op_far f48_0 rfl rfl) ?_
      all_goals refine dr_cons (op_ldr ty3 rfl rfl) ?_
      all_goals refine dr_cons (op_fab f48_0 rfl rfl) ?_
      all_goals refine dr_cons (op_ld ty3 rfl rfl rfl) ?_
      all_goals refine dr_cons (op_eql rfl rfl rfl) ?_
      all_goals refine dr_cons (op_mv rfl (Conv.of rfl) rfl) ?_
      all_goals refine dr_split (t := 20) rfl (fun h => ?_) (fun h => ?_)
      all_goals first | refine dr_cons (g_off rfl rfl rfl rfl rfl) ?_ | refine dr_cons (g_on rfl rfl rfl (op_mv rfl (Conv.of rfl) rfl)) ?_
      all_goals first | refine dr_cons (g_off rfl rfl rfl rfl rfl) ?_ | refine dr_cons (g_on rfl rfl rfl (op_mv rfl (Conv.of rfl) rfl)) ?_
      all_goals first | refine dr_cons (g_off rfl rfl rfl rfl rfl) ?_ | refine dr_cons (g_on rfl rfl rfl (op_ix sl27 rfl rfl rfl (by omega) hx)) ?_
      all_goals first | refine dr_cons (g_off rfl rfl rfl rfl rfl) ?_ | refine dr_cons (g_on rfl rfl rfl (op_far f48_1 rfl rfl)) ?_
      all_goals first | refine dr_cons (g_off rfl rfl rfl rfl rfl) ?_ | refine dr_cons (g_on rfl rfl rfl (op_ldr ty35 rfl rfl)) ?_
      all_goals first | refine dr_cons (g_off rfl rfl rfl rfl rfl) ?_ | refine dr_cons (g_on rfl rfl rfl (op_fab f48_1 rfl rfl)) ?_
      all_goals first | refine dr_cons (g_off rfl rfl rfl rfl rfl) ?_ | refine dr_cons (g_on rfl rfl rfl (op_ld ty35 rfl rfl rfl)) ?_
      all_goals first | refine dr_cons (g_off rfl rfl rfl rfl rfl) ?_ | refine dr_cons (g_on rfl rfl rfl (op_call fb161 (.cons rfl (Conv.of rfl) (.cons rfl (Conv.of rfl) (.nil _))) (l3Same_ct _ _) (argOk rfl rfl (argOk rfl rfl argOk0)) rfl rfl)) ?_
      all_goals refine dr_cons (op_pick rfl rfl rfl rfl) ?_
      all_goals refine dr_nil mixed rfl ?_
      all_goals exact Le.mk rfl (tle rfl (rfl) rfl (tlb rfl rfl rfl (tle rfl (rfl) rfl (tle rfl (by (show AV.v _ = AV.v _; congr 1; clear hall hs; generalize l[k] = u at *; obtain ⟨u1, u2⟩ := u; obtain ⟨v1, v2⟩ := v; simp_all)) rfl tln)))) (olk rfl (by exact obOk_cell) oln) noS
    refine awp_cond rfl (fun h => ?_) (fun h => ?_)
    · all_goals refine awp_seq (awp_region (id := 5) ?_)
      all_goals refine awpOps_cons (op_as rfl (Conv.of rfl) rfl) ?_
      all_goals refine awpOps_nil ?_
      refine awp_ret ?_
      repeat first | refine rt_seq ?_ | refine rt_block ?_
      refine finP (.v rfl (Conv.of rfl)) rfl ?_
      show AV.v true = _
      rw [hall, hs, h, Bool.true_or]
    · refine awp_skip ?_
      all_goals refine awp_region (id := 3) ?_
      all_goals refine awpOps_cons (op_mv rfl (Conv.of rfl) rfl) ?_
      all_goals refine awpOps_cons (op_add rfl rfl rfl (by omega)) ?_
      all_goals refine awpOps_cons (op_as rfl (Conv.of rfl) rfl) ?_
      all_goals refine awpOps_nil ?_
      repeat first | refine nx_seq ?_ | refine nx_block ?_
      exact ⟨n - 1, _, by omega, ⟨k + 1, by omega, by rw [hall, hs, h, Bool.false_or], rfl⟩, Le.mk rfl (tle rfl (rfl) rfl (tlb rfl rfl rfl (tle rfl (rfl) rfl tln))) (olk rfl (by exact obOk_cell) oln) noS⟩
  · refine awp_exit ?_
    repeat refine ex_seq ?_
    refine ex_block ?_
    have hk : l.length ≤ k := by simpa using h
    all_goals refine awp_seq (awp_region (id := 6) ?_)
    all_goals refine awpOps_cons (op_as rfl (Conv.of rfl) rfl) ?_
    all_goals refine awpOps_nil ?_
    refine awp_ret ?_
    repeat first | refine rt_seq ?_ | refine rt_block ?_
    refine finP (.v rfl (Conv.of rfl)) rfl ?_
    show AV.v false = _
    rw [hall, drop_end hk]; simp
theorem l3Many_ct (l : List Vote) (c : List Itm) : CtP Tryz.prog 173 [.v l, .v c] (.v (many l c)) := by
  refine Ct.intro Tryz.func173 rfl rfl ?_
  refine awp_bigL 0 rfl (fun hB => ?_)
  all_goals refine awp_seq (awp_region (id := 0) ?_)
  all_goals refine awpOps_cons (op_as rfl (Conv.of rfl) rfl) ?_
  all_goals refine awpOps_nil ?_
  all_goals refine awp_seq (awp_region (id := 1) ?_)
  all_goals refine awpOps_cons (op_as rfl (Conv.of rfl) rfl) ?_
  all_goals refine awpOps_nil ?_
  all_goals refine awp_seq (awp_seq (awp_region (id := 2) ?_))
  all_goals refine awpOps_cons (op_as rfl (Conv.of rfl) rfl) ?_
  all_goals refine awpOps_nil ?_
  refine awp_block ?_
  refine awp_loop' (fun n s => ∃ (k : Nat), ∃ (m : Int), ∃ (hn : n + k = l.length), ∃ (hm : 0 ≤ m ∧ m ≤ k), ∃ (hall : many l c = manyFrom c (l.drop k) m), s = mkSt 23 [(0, .v l), (1, .v c), (5, .v m), (6, .v (k : Int))] []) (l.length) ⟨0, (0 : Int), by omega, by omega, rfl, rfl⟩ (Le.mk rfl (tle rfl (rfl) rfl (tle rfl (rfl) rfl (tle rfl (rfl) rfl (tle rfl (rfl) rfl tln)))) oln noS) ?_
  rintro n s ⟨k, m, hn, hm, hall, rfl⟩
  all_goals refine awp_seq (awp_seq (awp_region (id := 3) ?_))
  all_goals refine awpOps_cons (op_mv rfl (Conv.of rfl) rfl) ?_
  all_goals refine awpOps_cons (op_mv rfl (Conv.of rfl) rfl) ?_
  all_goals refine awpOps_cons (op_len sl27 rfl rfl) ?_
  all_goals refine awpOps_cons (op_lss rfl rfl rfl) ?_
  all_goals refine awpOps_nil ?_
  refine awp_cond rfl (fun h => ?_) (fun h => ?_)
  · have hlt : k < l.length := by simpa using h
    have hx : l[k]? = some l[k] := List.getElem?_eq_getElem hlt
    have hs := many_drop (c := c) hx m
    refine awp_skip ?_
    refine awp_seq (awp_block ?_)
    all_goals refine awp_seq (awp_region (id := 5) ?_)
    all_goals refine awpOps_cons (op_mv rfl (Conv.of rfl) rfl) ?_
    all_goals refine awpOps_cons (op_mv rfl (Conv.of rfl) rfl) ?_
    all_goals refine awpOps_cons (op_ix sl27 rfl rfl rfl (by omega) hx) ?_
    all_goals refine awpOps_cons (op_far f48_1 rfl rfl) ?_
    all_goals refine awpOps_cons (op_ldr ty35 rfl rfl) ?_
    all_goals refine awpOps_cons (op_mv rfl (Conv.of rfl) rfl) ?_
    all_goals refine awpOps_cons (op_call fb161 (.cons rfl (Conv.of rfl) (.cons rfl (Conv.of rfl) (.nil _))) (l3Same_ct _ _) (argOk rfl rfl (argOk rfl rfl argOk0)) rfl rfl) ?_
    all_goals refine awpOps_nil ?_
    refine awp_cond rfl (fun h => ?_) (fun h => ?_)
    · all_goals refine awp_region (id := 6) ?_
      all_goals refine awpOps_cons (op_mv rfl (Conv.of rfl) rfl) ?_
      all_goals refine awpOps_cons (op_add rfl rfl rfl (by omega)) ?_
      all_goals refine awpOps_cons (op_as rfl (Conv.of rfl) rfl) ?_
      all_goals refine awpOps_nil ?_
      all_goals refine awp_region (id := 4) ?_
      all_goals refine awpOps_cons (op_mv rfl (Conv.of rfl) rfl) ?_
      all_goals refine awpOps_cons (op_add rfl rfl rfl (by omega)) ?_
      all_goals refine awpOps_cons (op_as rfl (Conv.of rfl) rfl) ?_
      all_goals refine awpOps_nil ?_
      repeat first | refine nx_seq ?_ | refine nx_block ?_
      exact ⟨n - 1, _, by omega, ⟨k + 1, m + 1, by omega, by omega, by rw [hall, hs, h]; rfl, rfl⟩, Le.mk rfl (tle rfl (rfl) rfl (tle rfl (rfl) rfl (tle rfl (rfl) rfl (tle rfl (rfl) rfl tln)))) oln noS⟩
    · refine awp_skip ?_
      all_goals refine awp_region (id := 4) ?_
      all_goals refine awpOps_cons (op_mv rfl (Conv.of rfl) rfl) ?_
      all_goals refine awpOps_cons (op_add rfl rfl rfl (by omega)) ?_
      all_goals refine awpOps_cons (op_as rfl (Conv.of rfl) rfl) ?_
      all_goals refine awpOps_nil ?_
      repeat first | refine nx_seq ?_ | refine nx_block ?_
      exact ⟨n - 1, _, by omega, ⟨k + 1, m, by omega, by omega, by rw [hall, hs, h]; rfl, rfl⟩, Le.mk rfl (tle rfl (rfl) rfl (tle rfl (rfl) rfl (tle rfl (rfl) rfl (tle rfl (rfl) rfl tln)))) oln noS⟩
  · refine awp_exit ?_
    repeat refine ex_seq ?_
    refine ex_block ?_
    have hk : l.length ≤ k := by simpa using h
    all_goals refine awp_seq (awp_region (id := 7) ?_)
    all_goals refine awpOps_cons (op_mv rfl (Conv.of rfl) rfl) ?_
    all_goals refine awpOps_cons (op_as rfl (Conv.of rfl) rfl) ?_
    all_goals refine awpOps_nil ?_
    refine awp_ret ?_
    repeat first | refine rt_seq ?_ | refine rt_block ?_
    refine finP (.v rfl (Conv.of rfl)) rfl ?_
    show AV.v _ = _
    rw [hall, drop_end hk]; rfl
theorem l11Sure_ct (l : List Vote) (c : List Itm) : CtP Tryz.prog 162 [.v l, .v c] (.v (sureS l c)) := by
  refine Ct.intro Tryz.func162 rfl rfl ?_
  refine awp_bigL 1 rfl (fun hB => ?_)
  all_goals refine awp_seq (awp_region (id := 0) ?_)
  all_goals refine awpOps_cons (op_as rfl (Conv.of rfl) rfl) ?_
  all_goals refine awpOps_nil ?_
  all_goals refine awp_seq (awp_seq (awp_region (id := 1) ?_))
  all_goals refine awpOps_cons (op_as rfl (Conv.of rfl) rfl) ?_
  all_goals refine awpOps_nil ?_
  refine awp_block ?_
  refine awp_loop' (fun n s => ∃ (k : Nat), ∃ (hn : n + k = c.length), ∃ (hall : sureS l c = sureSFrom l c k n), s = mkSt 18 [(0, .v l), (1, .v c), (5, .v ((k : Int) + 1))] []) (c.length) ⟨0, by omega, rfl, rfl⟩ (Le.mk rfl (tle rfl (rfl) rfl (tle rfl (rfl) rfl (tle rfl (rfl) rfl tln))) oln noS) ?_
  rintro n s ⟨k, hn, hall, rfl⟩
  all_goals refine awp_seq (awp_seq (awp_region (id := 2) ?_))
  all_goals refine awpOps_cons (op_mv rfl (Conv.of rfl) rfl) ?_
  all_goals refine awpOps_cons (op_mv rfl (Conv.of rfl) rfl) ?_
  all_goals refine awpOps_cons (op_len sl35 rfl rfl) ?_
  all_goals refine awpOps_cons (op_leq rfl rfl rfl) ?_
  all_goals refine awpOps_nil ?_
  refine awp_cond rfl (fun h => ?_) (fun h => ?_)
  · have hlt : k < c.length := by simp at h; omega
    obtain ⟨n', rfl⟩ : ∃ n', n = n' + 1 := ⟨n - 1, by omega⟩
    refine awp_skip ?_
    refine awp_seq (awp_block ?_)
    all_goals refine awp_seq (awp_region (id := 4) ?_)
    all_goals refine awpOps_cons (op_mv rfl (Conv.of rfl) rfl) ?_
    all_goals refine awpOps_cons (op_mv rfl (Conv.of rfl) rfl) ?_
    all_goals refine awpOps_cons (op_mv rfl (Conv.of rfl) rfl) ?_
    all_goals refine awpOps_cons (op_slh sl35 rfl rfl rfl (by omega)) ?_
    all_goals refine awpOps_cons (op_call fb173 (.cons rfl (Conv.of rfl) (.cons rfl (Conv.of rfl) (.nil _))) (l3Many_ct _ _) (argOk rfl rfl (argOk rfl rfl argOk0)) rfl rfl) ?_
    all_goals refine awpOps_cons (op_lss rfl rfl rfl) ?_
    all_goals refine awpOps_nil ?_
    refine awp_cond rfl (fun hb => ?_) (fun hb => ?_)
    · all_goals refine awp_seq (awp_region (id := 5) ?_)
      all_goals refine awpOps_cons (op_as rfl (Conv.of rfl) rfl) ?_
      all_goals refine awpOps_nil ?_
      refine awp_ret ?_
      repeat first | refine rt_seq ?_ | refine rt_block ?_
      refine finP (.v rfl (Conv.of rfl)) rfl ?_
      show AV.v false = _
      have hb' : many l (c.take ((k : Int) + 1).toNat) < 3 := by simpa using hb
      rw [hall, sureS_step, decide_eq_false (by rw [show ((k : Int) + 1).toNat = k + 1 by omega] at hb'; omega), Bool.false_and]
    · refine awp_skip ?_
      all_goals refine awp_region (id := 3) ?_
      all_goals refine awpOps_cons (op_mv rfl (Conv.of rfl) rfl) ?_
      all_goals refine awpOps_cons (op_add rfl rfl rfl (by omega)) ?_
      all_goals refine awpOps_cons (op_as rfl (Conv.of rfl) rfl) ?_
      all_goals refine awpOps_nil ?_
      have hb' : 3 ≤ many l (c.take ((k : Int) + 1).toNat) := by simpa using hb
      repeat first | refine nx_seq ?_ | refine nx_block ?_
      exact ⟨n', _, by omega, ⟨k + 1, by omega, by rw [hall, sureS_step, decide_eq_true (by rw [show ((k : Int) + 1).toNat = k + 1 by omega] at hb'; omega), Bool.true_and], rfl⟩, Le.mk rfl (tle rfl (rfl) rfl (tle rfl (rfl) rfl (tle rfl (rfl) rfl tln))) oln noS⟩
  · refine awp_exit ?_
    repeat refine ex_seq ?_
    refine ex_block ?_
    have hk : n = 0 := by simp at h; omega
    subst hk
    all_goals refine awp_seq (awp_region (id := 6) ?_)
    all_goals refine awpOps_cons (op_as rfl (Conv.of rfl) rfl) ?_
    all_goals refine awpOps_nil ?_
    refine awp_ret ?_
    repeat first | refine rt_seq ?_ | refine rt_block ?_
    refine finP (.v rfl (Conv.of rfl)) rfl ?_
    show AV.v true = _
    rw [hall]; rfl
end Go.Proofs.YtompnmkpgffhkaaGreat

/- The reference: nodes. -/
set_option linter.unusedVariables false
set_option linter.unusedSimpArgs false
namespace Go.Proofs.YtompnmkpgffhkaaGreat
open Go Go.Wt
theorem l12Enter_ct (n : Nod) (e : Int) (hn : 0 ≤ n.epoch ∧ n.epoch ≤ 30) : CtP Tryz.prog 126 [.v (sN n), .v e] (.v (sN (enterF n e))) := by
  unfold sN
  refine Ct.intro Tryz.func126 rfl rfl ?_
  all_goals refine awp_seq (awp_region (id := 0) ?_)
  all_goals refine awpOps_cons (op_boxm (o := 0) ty39_NodS rfl rfl rfl rfl) ?_
  all_goals refine awpOps_cons (op_alloc (o := 1) z39_NodS rfl rfl) ?_
  all_goals refine awpOps_nil ?_
  all_goals refine awp_seq (awp_seq (awp_region (id := 1) ?_))
  all_goals refine awpOps_cons (op_mv rfl (Conv.of rfl) rfl) ?_
  all_goals refine awpOps_cons (op_fab f39_1_NodS rfl rfl) ?_
  all_goals refine awpOps_cons (op_ld ty3 rfl rfl rfl) ?_
  all_goals refine awpOps_cons (op_add rfl rfl rfl (by ((try simp only [sN]); omega))) ?_
  all_goals refine awpOps_cons (op_call fb84 (.cons rfl (Conv.of rfl) (.cons rfl (Conv.of rfl) (.cons rfl (Conv.of rfl) (.nil _)))) (l6In_ct _ _ _) (argOk rfl rfl (argOk rfl rfl (argOk rfl rfl argOk0))) rfl rfl) ?_
  all_goals refine awpOps_nil ?_
  refine awp_cond rfl (fun h => ?_) (fun h => ?_)
  · all_goals refine awp_region (id := 2) ?_
    all_goals refine awpOps_cons (op_mv rfl (Conv.of rfl) rfl) ?_
    all_goals refine awpOps_cons (op_fab f39_1_NodS rfl rfl) ?_
    all_goals refine awpOps_cons (op_st ty3 rfl rfl (Conv.of rfl) rfl) ?_
    all_goals refine awpOps_nil ?_
    all_goals refine awp_seq (awp_region (id := 3) ?_)
    all_goals refine awpOps_cons (op_ldm ty39_NodS rfl rfl rfl) ?_
    all_goals refine awpOps_cons (op_stm ty39_NodS rfl rfl rfl) ?_
    all_goals refine awpOps_nil ?_
    refine awp_ret ?_
    repeat first | refine rt_seq ?_ | refine rt_block ?_
    refine ⟨_, _, res1C (ol := []) ty39_NodS rfl rfl (fun o ho => absurd (show o ∈ ([] : List Nat) from ho) (by simp)) oln noS, ?_, rfl⟩
    have h' : within e (n.epoch + 1) 30 = true := h
    show AV.v _ = AV.v _
    simp [enterF, h']
  · refine awp_skip ?_
    all_goals refine awp_seq (awp_region (id := 3) ?_)
    all_goals refine awpOps_cons (op_ldm ty39_NodS rfl rfl rfl) ?_
    all_goals refine awpOps_cons (op_stm ty39_NodS rfl rfl rfl) ?_
    all_goals refine awpOps_nil ?_
    refine awp_ret ?_
    repeat first | refine rt_seq ?_ | refine rt_block ?_
    refine ⟨_, _, res1C (ol := []) ty39_NodS rfl rfl (fun o ho => absurd (show o ∈ ([] : List Nat) from ho) (by simp)) oln noS, ?_, rfl⟩
    have h' : within e (n.epoch + 1) 30 = false := h
    show AV.v _ = AV.v _
    simp [enterF, h']
theorem l3Add_ct (l : List Vote) (v : Vote) (hl : l.length ≤ 1000000) (hv : v.chain.length ≤ 1000000) : CtP Tryz.prog 149 [.v (OList.mk l true), .v v] (.tup [.v (OList.mk (if decide (v ∈ l) then l else l ++ [v]) true), .v (!decide (v ∈ l))]) := by
  refine Ct.intro Tryz.func149 rfl rfl ?_
  all_goals refine awp_seq (awp_region (id := 0) ?_)
  all_goals refine awpOps_cons (op_box (o := 0) ty48 rfl (Conv.of rfl) rfl rfl) ?_
  all_goals refine awpOps_cons (op_as rfl (Conv.of rfl) rfl) ?_
  all_goals refine awpOps_cons (op_as rfl (Conv.of rfl) rfl) ?_
  all_goals refine awpOps_nil ?_
  all_goals refine awp_seq (awp_seq (awp_region (id := 1) ?_))
  all_goals refine awpOps_cons (op_mv rfl Conv.ol rfl) ?_
  all_goals refine awpOps_cons (op_ld ty48 rfl rfl rfl) ?_
  all_goals refine awpOps_cons (op_call fb130 (.cons rfl (Conv.of rfl) (.cons rfl (Conv.of rfl) (.nil _))) (l3Has_ct _ _) (argOk rfl rfl (argOk rfl rfl argOk0)) rfl rfl) ?_
  all_goals refine awpOps_nil ?_
  refine awp_cond rfl (fun h => ?_) (fun h => ?_)
  · all_goals refine awp_seq (awp_region (id := 2) ?_)
    all_goals refine awpOps_cons (op_mvl rfl rfl rfl rfl) ?_
    all_goals refine awpOps_cons (op_asl rfl rfl rfl rfl) ?_
    all_goals refine awpOps_cons (op_as rfl (Conv.of rfl) rfl) ?_
    all_goals refine awpOps_nil ?_
    refine awp_ret ?_
    repeat first | refine rt_seq ?_ | refine rt_block ?_
    refine ⟨_, _, resNM (ol := []) (.tmp rfl (.keep (.v rfl (Conv.of rfl)) (.nil _))) rfl (fun o ho => absurd (show o ∈ ([] : List Nat) from ho) (by simp)) oln noS, ?_, rfl⟩
    simp only [h, if_true]
    try rfl
  · refine awp_skip ?_
    all_goals refine awp_seq (awp_region (id := 3) ?_)
    all_goals refine awpOps_cons (op_mvl rfl rfl rfl rfl) ?_
    all_goals refine awpOps_cons (op_ld ty48 rfl rfl rfl) ?_
    all_goals refine awpOps_cons (op_call fb158 (.cons rfl (Conv.of rfl) (.nil _)) (l3VoteCopy_ct _ hv) (argOk rfl rfl argOk0) rfl rfl) ?_
    all_goals refine awpOps_cons (op_bsl sl27 z48 (.cons rfl (Conv.of rfl) (.nil _)) rfl (by decide) rfl) ?_
    all_goals refine awpOps_cons (op_app sl27 z48 ul27 rfl rfl rfl (by (simp; omega)) (by (simp; omega)) rfl rfl) ?_
    all_goals refine awpOps_cons (op_asl rfl rfl rfl rfl) ?_
    all_goals refine awpOps_cons (op_as rfl (Conv.of rfl) rfl) ?_
    all_goals refine awpOps_nil ?_
    refine awp_ret ?_
    repeat first | refine rt_seq ?_ | refine rt_block ?_
    refine ⟨_, _, resNM (ol := []) (.tmp rfl (.keep (.v rfl (Conv.of rfl)) (.nil _))) rfl (fun o ho => absurd (show o ∈ ([] : List Nat) from ho) (by simp)) oln noS, ?_, rfl⟩
    simp only [h]
    try rfl
theorem l12Vote_ct (n : Nod) (c : List Itm) (hn : Gd n.seen) (hc : c.length ≤ 1000000) : CtP Tryz.prog 160 [.v (sN n), .v c] (.tup [.v (sN (voteF n c).1), .v (voteF n c).2.1, .v (voteF n c).2.2]) := by
  have hl := hn.len
  unfold sN
  refine Ct.intro Tryz.func160 rfl rfl ?_
  all_goals refine awp_seq (awp_region (id := 0) ?_)
  all_goals refine awpOps_cons (op_boxm (o := 0) ty39_NodS rfl rfl rfl rfl) ?_
  all_goals refine awpOps_cons (op_alloc (o := 1) z39_NodS rfl rfl) ?_
  all_goals refine awpOps_cons (op_alloc (o := 2) z48 rfl rfl) ?_
  all_goals refine awpOps_cons (op_as rfl (Conv.of rfl) rfl) ?_
  all_goals refine awpOps_nil ?_
  all_goals refine awp_seq (dr_start (id := 1) ?_)
  all_goals refine dr_cons (op_fab f39_0_NodS rfl rfl) ?_
  all_goals refine dr_cons (op_ld ty3 rfl rfl rfl) ?_
  all_goals refine dr_cons (op_mv rfl (Conv.of rfl) rfl) ?_
  all_goals refine dr_cons (op_call fb139 (.cons rfl (Conv.of rfl) (.nil _)) (l1Copy_ct _ hc) (argOk rfl rfl argOk0) rfl rfl) ?_
  all_goals refine dr_cons (op_build (.cons f48_0 rfl (Conv.of rfl) (.cons f48_1 rfl (Conv.ol) (.nil _))) z48 rfl pl48 rfl) ?_
  all_goals refine dr_cons (op_alloc (o := 3) z48 rfl rfl) ?_
  all_goals refine dr_cons (op_st ty48 rfl rfl (Conv.of rfl) rfl) ?_
  all_goals refine dr_nil mixed rfl ?_
  all_goals refine awp_seq (awp_seq (awp_region (id := 2) ?_))
  all_goals refine awpOps_cons (op_fab f39_3_NodS rfl rfl) ?_
  all_goals refine awpOps_cons (op_ldl ty27_OListVote rfl rfl rfl) ?_
  all_goals refine awpOps_cons (op_len sl27 rfl rfl) ?_
  all_goals refine awpOps_cons (op_geq rfl rfl rfl) ?_
  all_goals refine awpOps_nil ?_
  refine awp_cond rfl (fun h => ?_) (fun h => ?_)
  · have h' : decide (80 ≤ n.seen.length) = true := by simp at h ⊢; omega
    all_goals refine awp_seq (awp_region (id := 3) ?_)
    all_goals refine awpOps_cons (op_ldm ty39_NodS rfl rfl rfl) ?_
    all_goals refine awpOps_cons (op_build (.nil _) z48 rfl pl48 rfl) ?_
    all_goals refine awpOps_cons (op_stm ty39_NodS rfl rfl rfl) ?_
    all_goals refine awpOps_cons (op_st ty48 rfl rfl (Conv.of rfl) rfl) ?_
    all_goals refine awpOps_cons (op_as rfl (Conv.of rfl) rfl) ?_
    all_goals refine awpOps_nil ?_
    refine awp_ret ?_
    repeat first | refine rt_seq ?_ | refine rt_block ?_
    refine ⟨_, _, resNM (ol := []) (.cell ty39_NodS rfl rfl (.keep (.rc ty48 rfl rfl) (.keep (.v rfl (Conv.of rfl)) (.nil _)))) rfl (fun o ho => absurd (show o ∈ ([] : List Nat) from ho) (by simp)) oln noS, ?_, rfl⟩
    simp only [voteF, h', if_true]
    try rfl
  · have h' : decide (80 ≤ n.seen.length) = false := by simp at h ⊢; omega
    refine awp_skip ?_
    all_goals refine awp_seq (awp_region (id := 4) ?_)
    all_goals refine awpOps_cons (op_fab f39_1_NodS rfl rfl) ?_
    all_goals refine awpOps_cons (op_ld ty3 rfl rfl rfl) ?_
    all_goals refine awpOps_cons (op_fab f39_2_NodS rfl rfl) ?_
    all_goals refine awpOps_cons (op_st ty3 rfl rfl (Conv.of rfl) rfl) ?_
    all_goals refine awpOps_nil ?_
    all_goals refine awp_seq (dr_start (id := 5) ?_)
    all_goals refine dr_cons (op_fab f39_3_NodS rfl rfl) ?_
    all_goals refine dr_cons (op_ldm ty27_OListVote rfl rfl rfl) ?_
    all_goals refine dr_cons (op_ld ty48 rfl rfl rfl) ?_
    all_goals refine dr_cons (op_call fb158 (.cons rfl (Conv.of rfl) (.nil _)) (l3VoteCopy_ct ⟨n.id, c⟩ hc) (argOk rfl rfl argOk0) rfl rfl) ?_
    all_goals refine dr_cons (op_bsl sl27 z48 (.cons rfl (Conv.of rfl) (.nil _)) rfl (by decide) rfl) ?_
    all_goals refine dr_cons (op_app sl27 z48 ul27 rfl rfl rfl (by (simp; omega)) (by (simp; omega)) rfl rfl) ?_
    all_goals refine dr_cons (op_fab f39_3_NodS rfl rfl) ?_
    all_goals refine dr_cons (op_stm ty27_OListVote rfl rfl rfl) ?_
    all_goals refine dr_nil mixed rfl ?_
    all_goals refine awp_seq (dr_start (id := 6) ?_)
    all_goals refine dr_cons (op_ldm ty39_NodS rfl rfl rfl) ?_
    all_goals refine dr_cons (op_ld ty48 rfl rfl rfl) ?_
    all_goals refine dr_cons (op_stm ty39_NodS rfl rfl rfl) ?_
    all_goals refine dr_cons (op_st ty48 rfl rfl (Conv.of rfl) rfl) ?_
    all_goals refine dr_cons (op_as rfl (Conv.of rfl) rfl) ?_
    all_goals refine dr_nil mixed rfl ?_
    refine awp_ret ?_
    repeat first | refine rt_seq ?_ | refine rt_block ?_
    refine ⟨_, _, resNM (ol := []) (.cell ty39_NodS rfl rfl (.keep (.rc ty48 rfl rfl) (.keep (.v rfl (Conv.of rfl)) (.nil _)))) rfl (fun o ho => absurd (show o ∈ ([] : List Nat) from ho) (by simp)) oln noS, ?_, rfl⟩
    simp only [voteF, h']
    try rfl
theorem l12Fits_ct (n : Nod) (u : Vote) (long : Nat) (hu : 0 < u.chain.length) (hn : 0 ≤ n.epoch ∧ n.epoch ≤ 30) : CtP Tryz.prog 174 [.v (fN n), .v u, .v (long : Int)] (.v (fitsS n u long)) := by
  have hx : u.chain[u.chain.length - 1]? = some (u.chain[u.chain.length - 1]'(by omega)) := List.getElem?_eq_getElem (by omega)
  have hx' : u.chain[((u.chain.length : Int) - 1).toNat]? = some (u.chain[u.chain.length - 1]'(by omega)) := by
    rw [show ((u.chain.length : Int) - 1).toNat = u.chain.length - 1 by omega]; exact hx
  unfold fN
  refine Ct.intro Tryz.func174 rfl rfl ?_
  all_goals refine awp_seq (awp_region (id := 0) ?_)
  all_goals refine awpOps_cons (op_box (o := 0) ty39_NodS rfl (Conv.of rfl) rfl rfl) ?_
  all_goals refine awpOps_cons (op_box (o := 1) ty48 rfl (Conv.of rfl) rfl rfl) ?_
  all_goals refine awpOps_cons (op_as rfl (Conv.of rfl) rfl) ?_
  all_goals refine awpOps_nil ?_
  all_goals refine awp_seq (awp_region (id := 1) ?_)
  all_goals refine awpOps_cons (op_fab f48_1 rfl rfl) ?_
  all_goals refine awpOps_cons (op_ld ty35 rfl rfl rfl) ?_
  refine awpOps_bigL 9 rfl (fun hb => ?_)
  all_goals refine awpOps_cons (op_len sl35 rfl rfl) ?_
  all_goals refine awpOps_cons (op_sub rfl rfl rfl (by omega)) ?_
  all_goals refine awpOps_cons (op_as rfl (Conv.of rfl) rfl) ?_
  all_goals refine awpOps_nil ?_
  all_goals refine awp_seq (dr_start (id := 2) ?_)
  all_goals refine dr_cons (op_fab f48_0 rfl rfl) ?_
  all_goals refine dr_cons (op_ld ty3 rfl rfl rfl) ?_
  all_goals refine dr_cons (op_fab f39_1_NodS rfl rfl) ?_
  all_goals refine dr_cons (op_ld ty3 rfl rfl rfl) ?_
  all_goals refine dr_cons (op_call fb83 (.cons rfl (Conv.of rfl) (.nil _)) (l3Leader_ct _ (by show -1000 ≤ n.epoch ∧ n.epoch ≤ 1000000; omega)) (argOk rfl rfl argOk0) rfl rfl) ?_
  all_goals refine dr_cons (op_eql rfl rfl rfl) ?_
  all_goals refine dr_cons (op_mv rfl (Conv.of rfl) rfl) ?_
  all_goals refine dr_split (t := 18) rfl (fun h => ?_) (fun h => ?_)
  all_goals first | refine dr_cons (g_off rfl rfl rfl rfl rfl) ?_ | refine dr_cons (g_on rfl rfl rfl (op_fab f48_1 rfl rfl)) ?_
  all_goals first | refine dr_cons (g_off rfl rfl rfl rfl rfl) ?_ | refine dr_cons (g_on rfl rfl rfl (op_ld ty35 rfl rfl rfl)) ?_
  all_goals first | refine dr_cons (g_off rfl rfl rfl rfl rfl) ?_ | refine dr_cons (g_on rfl rfl rfl (op_mv rfl (Conv.of rfl) rfl)) ?_
  all_goals first | refine dr_cons (g_off rfl rfl rfl rfl rfl) ?_ | refine dr_cons (g_on rfl rfl rfl (op_ix sl35 rfl rfl rfl (by omega) hx')) ?_
  all_goals first | refine dr_cons (g_off rfl rfl rfl rfl rfl) ?_ | refine dr_cons (g_on rfl rfl rfl (op_far f67_0 rfl rfl)) ?_
  all_goals first | refine dr_cons (g_off rfl rfl rfl rfl rfl) ?_ | refine dr_cons (g_on rfl rfl rfl (op_ldr ty3 rfl rfl)) ?_
  all_goals first | refine dr_cons (g_off rfl rfl rfl rfl rfl) ?_ | refine dr_cons (g_on rfl rfl rfl (op_fab f39_1_NodS rfl rfl)) ?_
  all_goals first | refine dr_cons (g_off rfl rfl rfl rfl rfl) ?_ | refine dr_cons (g_on rfl rfl rfl (op_ld ty3 rfl rfl rfl)) ?_
  all_goals first | refine dr_cons (g_off rfl rfl rfl rfl rfl) ?_ | refine dr_cons (g_on rfl rfl rfl (op_eql rfl rfl rfl)) ?_
  all_goals refine dr_cons (op_pick rfl rfl rfl rfl) ?_
  all_goals refine dr_cons (op_mv rfl (Conv.of rfl) rfl) ?_
  all_goals first | refine dr_lit (t := 29) (b := false) rfl ?_ | refine dr_split (t := 29) rfl (fun h => ?_) (fun h => ?_)
  all_goals first | refine dr_cons (g_off rfl rfl rfl rfl rfl) ?_ | refine dr_cons (g_on rfl rfl rfl (op_mv rfl (Conv.of rfl) rfl)) ?_
  all_goals first | refine dr_cons (g_off rfl rfl rfl rfl rfl) ?_ | refine dr_cons (g_on rfl rfl rfl (op_mv rfl (Conv.of rfl) rfl)) ?_
  all_goals first | refine dr_cons (g_off rfl rfl rfl rfl rfl) ?_ | refine dr_cons (g_on rfl rfl rfl (op_eql rfl rfl rfl)) ?_
  all_goals refine dr_cons (op_pick rfl rfl rfl rfl) ?_
  all_goals refine dr_cons (op_mv rfl (Conv.of rfl) rfl) ?_
  all_goals first | refine dr_lit (t := 34) (b := false) rfl ?_ | refine dr_split (t := 34) rfl (fun h => ?_) (fun h => ?_)
  all_goals first | refine dr_cons (g_off rfl rfl rfl rfl rfl) ?_ | refine dr_cons (g_on rfl rfl rfl (op_fab f39_3_NodS rfl rfl)) ?_
  all_goals first | refine dr_cons (g_off rfl rfl rfl rfl rfl) ?_ | refine dr_cons (g_on rfl rfl rfl (op_ldl ty27_OListVote rfl rfl rfl)) ?_
  all_goals first | refine dr_cons (g_off rfl rfl rfl rfl rfl) ?_ | refine dr_cons (g_on rfl rfl rfl (op_fab f48_1 rfl rfl)) ?_
  all_goals first | refine dr_cons (g_off rfl rfl rfl rfl rfl) ?_ | refine dr_cons (g_on rfl rfl rfl (op_ld ty35 rfl rfl rfl)) ?_
  all_goals first | refine dr_cons (g_off rfl rfl rfl rfl rfl) ?_ | refine dr_cons (g_on rfl rfl rfl (op_mv rfl (Conv.of rfl) rfl)) ?_
  all_goals first | refine dr_cons (g_off rfl rfl rfl rfl rfl) ?_ | refine dr_cons (g_on rfl rfl rfl (op_slh sl35 rfl rfl rfl ⟨by omega, by omega⟩)) ?_
  all_goals first | refine dr_cons (g_off rfl rfl rfl rfl rfl) ?_ | refine dr_cons (g_on rfl rfl rfl (op_call fb162 (.cons rfl (Conv.of rfl) (.cons rfl (Conv.of rfl) (.nil _))) (l11Sure_ct _ _) (argOk rfl rfl (argOk rfl rfl argOk0)) rfl rfl)) ?_
  all_goals refine dr_cons (op_pick rfl rfl rfl rfl) ?_
  all_goals refine dr_cons (op_as rfl (Conv.of rfl) rfl) ?_
  all_goals refine dr_nil mixed rfl ?_
  all_goals refine awp_ret ?_
  all_goals refine finP (.v rfl (Conv.of rfl)) rfl ?_
  all_goals (simp only [FV.av]; congr 1; rw [fitsS_alt hu, lastEp_get hx]; simp_all)
end Go.Proofs.YtompnmkpgffhkaaGreat

/- The reference: sure chains. -/
set_option linter.unusedVariables false
set_option linter.unusedSimpArgs false
namespace Go.Proofs.YtompnmkpgffhkaaGreat
open Go Go.Wt
set_option maxHeartbeats 1000000 in
theorem l11All_ct (l : List Vote) (hl : l.length ≤ 100000) (hv : ∀ v ∈ l, v.chain.length ≤ 1000000) : CtP Tryz.prog 131 [.v l] (.v (OList.mk (allOfS l) true)) := by
  refine Ct.intro Tryz.func131 rfl rfl ?_
  all_goals refine awp_seq (awp_region (id := 0) ?_)
  all_goals refine awpOps_cons (op_as rfl (Conv.of rfl) rfl) ?_
  all_goals refine awpOps_nil ?_
  all_goals refine awp_seq (awp_region (id := 1) ?_)
  all_goals refine awpOps_cons (op_bsl sl35 z67 (.nil _) rfl (by decide) rfl) ?_
  all_goals refine awpOps_cons (op_bsl sl54 z35 (.cons rfl (Conv.ol) (.nil _)) rfl (by decide) rfl) ?_
  all_goals refine awpOps_cons (op_asl rfl rfl rfl rfl) ?_
  all_goals refine awpOps_nil ?_
  all_goals refine awp_seq (awp_seq (awp_region (id := 2) ?_))
  all_goals refine awpOps_cons (op_as rfl (Conv.of rfl) rfl) ?_
  all_goals refine awpOps_nil ?_
  refine awp_block ?_
  refine awp_loop' (fun n s => ∃ (k : Nat), ∃ (hn : n + k = l.length), s = mkSt 55 [(0, .v l), (3, .v (OList.mk ((l.take k).foldl (allStepS l) [[]]) true)), (4, .v (k : Int))] []) (l.length) ⟨0, by omega, rfl⟩ (Le.mk rfl (tle rfl (rfl) rfl (tle rfl (by rfl) rfl (tle rfl (rfl) rfl tln))) oln noS) ?_
  rintro n s ⟨k, hn, rfl⟩
  generalize hO : (l.take k).foldl (allStepS l) [[]] = out
  have hout : out.length ≤ 100001 := by
    have := allStepS_len l (l.take k) [[]]
    rw [hO] at this
    simp at this; omega
  all_goals refine awp_seq (awp_seq (awp_region (id := 3) ?_))
  all_goals refine awpOps_cons (op_mv rfl (Conv.of rfl) rfl) ?_
  all_goals refine awpOps_cons (op_mv rfl (Conv.of rfl) rfl) ?_
  all_goals refine awpOps_cons (op_len sl27 rfl rfl) ?_
  all_goals refine awpOps_cons (op_lss rfl rfl rfl) ?_
  all_goals refine awpOps_nil ?_
  refine awp_cond rfl (fun h => ?_) (fun h => ?_)
  · have hlt : k < l.length := by simpa using h
    have hx : l[k]? = some l[k] := List.getElem?_eq_getElem hlt
    refine awp_skip ?_
    refine awp_seq (awp_block ?_)
    all_goals refine awp_seq (awp_region (id := 5) ?_)
    all_goals refine awpOps_cons (op_as rfl (Conv.of rfl) rfl) ?_
    all_goals refine awpOps_nil ?_
    all_goals refine awp_seq (awp_seq (awp_region (id := 6) ?_))
    all_goals refine awpOps_cons (op_as rfl (Conv.of rfl) rfl) ?_
    all_goals refine awpOps_nil ?_
    refine awp_to (s' := mkSt 55 [(0, .v l), (3, .v (OList.mk out true)), (4, .v (k : Int)), (5, .v (decide (l[k].chain ∈ out)))] []) ?_ ?_
    · refine awp_block ?_
      refine awp_loop' (fun n_ s => ∃ (m : Nat), ∃ (hn2 : n_ + m = out.length), s = mkSt 55 [(0, .v l), (3, .v (OList.mk out true)), (4, .v (k : Int)), (5, .v (decide (l[k].chain ∈ out.take m))), (6, .v (m : Int))] []) (out.length) ⟨0, by omega, rfl⟩ (Le.mk rfl (tle rfl (rfl) rfl (tle rfl (rfl) rfl (tle rfl (rfl) rfl (tle rfl (by rfl) rfl (tle rfl (rfl) rfl tln))))) oln noS) ?_
      rintro n_ s ⟨m, hn2, rfl⟩
      all_goals refine awp_seq (awp_seq (awp_region (id := 7) ?_))
      all_goals refine awpOps_cons (op_mv rfl (Conv.of rfl) rfl) ?_
      all_goals refine awpOps_cons (op_mv rfl Conv.ol rfl) ?_
      all_goals refine awpOps_cons (op_len sl54 rfl rfl) ?_
      all_goals refine awpOps_cons (op_lss rfl rfl rfl) ?_
      all_goals refine awpOps_nil ?_
      refine awp_cond rfl (fun h2 => ?_) (fun h2 => ?_)
      · have hlt2 : m < out.length := by simpa using h2
        have hy : out[m]? = some out[m] := List.getElem?_eq_getElem hlt2
        have hs2 := mem_take_c (v := l[k].chain) hy
        refine awp_skip ?_
        refine awp_seq (awp_block ?_)
        refine awp_toB (s' := mkSt 55 [(0, .v l), (3, .v (OList.mk out true)), (4, .v (k : Int)), (5, .v (decide (l[k].chain ∈ out.take (m + 1)))), (6, .v (m : Int))] []) ?_ ?_
        · all_goals refine dr_start (id := 9) ?_
          all_goals refine dr_cons (op_mv rfl (Conv.of rfl) rfl) ?_
          all_goals refine dr_cons (op_mv rfl (Conv.of rfl) rfl) ?_
          all_goals refine dr_split (t := 22) rfl (fun h => ?_) (fun h => ?_)
          all_goals first | refine dr_cons (g_off rfl rfl rfl rfl rfl) ?_ | refine dr_cons (g_on rfl rfl rfl (op_mv rfl Conv.ol rfl)) ?_
          all_goals first | refine dr_cons (g_off rfl rfl rfl rfl rfl) ?_ | refine dr_cons (g_on rfl rfl rfl (op_mv rfl (Conv.of rfl) rfl)) ?_
          all_goals first | refine dr_cons (g_off rfl rfl rfl rfl rfl) ?_ | refine dr_cons (g_on rfl rfl rfl (op_ix sl54 rfl rfl rfl (by omega) hy)) ?_
          all_goals first | refine dr_cons (g_off rfl rfl rfl rfl rfl) ?_ | refine dr_cons (g_on rfl rfl rfl (op_ldr ty35 rfl rfl)) ?_
          all_goals first | refine dr_cons (g_off rfl rfl rfl rfl rfl) ?_ | refine dr_cons (g_on rfl rfl rfl (op_mv rfl (Conv.of rfl) rfl)) ?_
          all_goals first | refine dr_cons (g_off rfl rfl rfl rfl rfl) ?_ | refine dr_cons (g_on rfl rfl rfl (op_mv rfl (Conv.of rfl) rfl)) ?_
          all_goals first | refine dr_cons (g_off rfl rfl rfl rfl rfl) ?_ | refine dr_cons (g_on rfl rfl rfl (op_ix sl27 rfl rfl rfl (by omega) hx)) ?_
          all_goals first | refine dr_cons (g_off rfl rfl rfl rfl rfl) ?_ | refine dr_cons (g_on rfl rfl rfl (op_far f48_1 rfl rfl)) ?_
          all_goals first | refine dr_cons (g_off rfl rfl rfl rfl rfl) ?_ | refine dr_cons (g_on rfl rfl rfl (op_ldr ty35 rfl rfl)) ?_
          all_goals first | refine dr_cons (g_off rfl rfl rfl rfl rfl) ?_ | refine dr_cons (g_on rfl rfl rfl (op_call fb161 (.cons rfl (Conv.of rfl) (.cons rfl (Conv.of rfl) (.nil _))) (l3Same_ct _ _) (argOk rfl rfl (argOk rfl rfl argOk0)) rfl rfl)) ?_
          all_goals refine dr_cons (op_pick rfl rfl rfl rfl) ?_
          all_goals refine dr_cons (op_as rfl (Conv.of rfl) rfl) ?_
          all_goals refine dr_nil mixed rfl ?_
          all_goals exact Le.mk rfl (tle rfl (rfl) rfl (tle rfl (rfl) rfl (tle rfl (rfl) rfl (tle rfl (by (rw [hs2]; clear hs2; simp_all)) rfl (tle rfl (rfl) rfl tln))))) oln noS
        all_goals refine awp_region (id := 8) ?_
        all_goals refine awpOps_cons (op_mv rfl (Conv.of rfl) rfl) ?_
        all_goals refine awpOps_cons (op_add rfl rfl rfl (by omega)) ?_
        all_goals refine awpOps_cons (op_as rfl (Conv.of rfl) rfl) ?_
        all_goals refine awpOps_nil ?_
        repeat first | refine nx_seq ?_ | refine nx_block ?_
        exact ⟨n_ - 1, _, by omega, ⟨m + 1, by omega, rfl⟩, Le.mk rfl (tle rfl (rfl) rfl (tle rfl (rfl) rfl (tle rfl (rfl) rfl (tle rfl (by rfl) rfl (tle rfl (rfl) rfl tln))))) oln noS⟩
      · refine awp_exit ?_
        repeat refine ex_seq ?_
        refine ex_block ?_
        have hm : out.length ≤ m := by simpa using h2
        all_goals exact Le.mk rfl (tle rfl (rfl) rfl (tle rfl (rfl) rfl (tle rfl (rfl) rfl (tle rfl (by (simp only [take_end hm])) rfl tln)))) oln noS
    · refine awp_seq_to (s' := mkSt 55 [(0, .v l), (3, .v (OList.mk out true)), (4, .v (k : Int)), (44, .v (!decide (l[k].chain ∈ out) && sureS l l[k].chain))] []) ?_ ?_
      · all_goals refine awp_region (id := 10) ?_
        all_goals refine awpOps_cons (op_mv rfl (Conv.of rfl) rfl) ?_
        all_goals refine awpOps_cons (op_not rfl rfl) ?_
        all_goals refine awpOps_cons (op_mv rfl (Conv.of rfl) rfl) ?_
        all_goals refine g_split (t := 36) rfl (fun h => ?_) (fun h => ?_)
        all_goals first | refine awpOps_cons (g_off rfl rfl rfl rfl rfl) ?_ | refine awpOps_cons (g_on rfl rfl rfl (op_mv rfl (Conv.of rfl) rfl)) ?_
        all_goals first | refine awpOps_cons (g_off rfl rfl rfl rfl rfl) ?_ | refine awpOps_cons (g_on rfl rfl rfl (op_mv rfl (Conv.of rfl) rfl)) ?_
        all_goals first | refine awpOps_cons (g_off rfl rfl rfl rfl rfl) ?_ | refine awpOps_cons (g_on rfl rfl rfl (op_mv rfl (Conv.of rfl) rfl)) ?_
        all_goals first | refine awpOps_cons (g_off rfl rfl rfl rfl rfl) ?_ | refine awpOps_cons (g_on rfl rfl rfl (op_ix sl27 rfl rfl rfl (by omega) hx)) ?_
        all_goals first | refine awpOps_cons (g_off rfl rfl rfl rfl rfl) ?_ | refine awpOps_cons (g_on rfl rfl rfl (op_far f48_1 rfl rfl)) ?_
        all_goals first | refine awpOps_cons (g_off rfl rfl rfl rfl rfl) ?_ | refine awpOps_cons (g_on rfl rfl rfl (op_ldr ty35 rfl rfl)) ?_
        all_goals first | refine awpOps_cons (g_off rfl rfl rfl rfl rfl) ?_ | refine awpOps_cons (g_on rfl rfl rfl (op_call fb162 (.cons rfl (Conv.of rfl) (.cons rfl (Conv.of rfl) (.nil _))) (l11Sure_ct _ _) (argOk rfl rfl (argOk rfl rfl argOk0)) rfl rfl)) ?_
        all_goals refine awpOps_cons (op_pick rfl rfl rfl rfl) ?_
        all_goals refine awpOps_nil ?_
        all_goals exact Le.mk rfl (tle rfl (rfl) rfl (tle rfl (rfl) rfl (tle rfl (rfl) rfl (tle rfl (by simp_all) rfl tln)))) oln noS
      refine awp_cond rfl (fun hb => ?_) (fun hb => ?_)
      · all_goals refine awp_region (id := 11) ?_
        all_goals refine awpOps_cons (op_mvl rfl rfl rfl rfl) ?_
        all_goals refine awpOps_cons (op_mv rfl (Conv.of rfl) rfl) ?_
        all_goals refine awpOps_cons (op_mv rfl (Conv.of rfl) rfl) ?_
        all_goals refine awpOps_cons (op_ix sl27 rfl rfl rfl (by omega) hx) ?_
        all_goals refine awpOps_cons (op_far f48_1 rfl rfl) ?_
        all_goals refine awpOps_cons (op_ldr ty35 rfl rfl) ?_
        all_goals refine awpOps_cons (op_call fb139 (.cons rfl (Conv.of rfl) (.nil _)) (l1Copy_ct _ (hv _ (List.getElem_mem hlt))) (argOk rfl rfl argOk0) rfl rfl) ?_
        all_goals refine awpOps_cons (op_bsl sl54 z35 (.cons rfl (Conv.ol) (.nil _)) rfl (by decide) rfl) ?_
        all_goals refine awpOps_cons (op_app sl54 z35 ul54 rfl rfl rfl (by (simp; omega)) (by (simp; omega)) rfl rfl) ?_
        all_goals refine awpOps_cons (op_asl rfl rfl rfl rfl) ?_
        all_goals refine awpOps_nil ?_
        all_goals refine awp_region (id := 4) ?_
        all_goals refine awpOps_cons (op_mv rfl (Conv.of rfl) rfl) ?_
        all_goals refine awpOps_cons (op_add rfl rfl rfl (by omega)) ?_
        all_goals refine awpOps_cons (op_as rfl (Conv.of rfl) rfl) ?_
        all_goals refine awpOps_nil ?_
        repeat first | refine nx_seq ?_ | refine nx_block ?_
        exact ⟨n - 1, _, by omega, ⟨k + 1, by omega, rfl⟩, Le.mk rfl (tle rfl (rfl) rfl (tle rfl (by (rw [foldl_at _ _ hx, hO]; simp only [allStepS, hb]; try rfl)) rfl (tle rfl (rfl) rfl tln))) oln noS⟩
      · refine awp_skip ?_
        all_goals refine awp_region (id := 4) ?_
        all_goals refine awpOps_cons (op_mv rfl (Conv.of rfl) rfl) ?_
        all_goals refine awpOps_cons (op_add rfl rfl rfl (by omega)) ?_
        all_goals refine awpOps_cons (op_as rfl (Conv.of rfl) rfl) ?_
        all_goals refine awpOps_nil ?_
        repeat first | refine nx_seq ?_ | refine nx_block ?_
        exact ⟨n - 1, _, by omega, ⟨k + 1, by omega, rfl⟩, Le.mk rfl (tle rfl (rfl) rfl (tle rfl (by (rw [foldl_at _ _ hx, hO]; simp only [allStepS, hb]; try rfl)) rfl (tle rfl (rfl) rfl tln))) oln noS⟩
  · refine awp_exit ?_
    repeat refine ex_seq ?_
    refine ex_block ?_
    have hk : l.length ≤ k := by simpa using h
    all_goals refine awp_seq (awp_region (id := 12) ?_)
    all_goals refine awpOps_cons (op_mvl rfl rfl rfl rfl) ?_
    all_goals refine awpOps_cons (op_asl rfl rfl rfl rfl) ?_
    all_goals refine awpOps_nil ?_
    refine awp_ret ?_
    repeat first | refine rt_seq ?_ | refine rt_block ?_
    exact finM rfl rfl (by rw [← hO, take_end hk]; rfl)
theorem l11Tip_ct (l : List Vote) (hl : l.length ≤ 100000) (hv : ∀ v ∈ l, v.chain.length ≤ 1000000) : CtP Tryz.prog 159 [.v l] (.v (tipOfS l)) := by
  have h0 := allOfS_0 l
  have hall : (allOfS l).length ≤ 100001 := by
    have := allStepS_len l l [[]]
    simp at this; unfold allOfS; omega
  have hpos : 0 < (allOfS l).length := (List.getElem?_eq_some_iff.1 h0).1
  refine Ct.intro Tryz.func159 rfl rfl ?_
  all_goals refine awp_seq (awp_region (id := 0) ?_)
  all_goals refine awpOps_cons (op_as rfl (Conv.of rfl) rfl) ?_
  all_goals refine awpOps_nil ?_
  all_goals refine awp_seq (awp_region (id := 1) ?_)
  all_goals refine awpOps_cons (op_mv rfl (Conv.of rfl) rfl) ?_
  all_goals refine awpOps_cons (op_call fb131 (.cons rfl (Conv.of rfl) (.nil _)) (l11All_ct l hl hv) (argOk rfl rfl argOk0) rfl rfl) ?_
  all_goals refine awpOps_cons (op_as rfl Conv.ol rfl) ?_
  all_goals refine awpOps_nil ?_
  all_goals refine awp_seq (awp_region (id := 2) ?_)
  all_goals refine awpOps_cons (op_mv rfl (Conv.of rfl) rfl) ?_
  all_goals refine awpOps_cons (op_ix sl54 rfl rfl rfl (by omega) h0) ?_
  all_goals refine awpOps_cons (op_ldr ty35 rfl rfl) ?_
  all_goals refine awpOps_cons (op_as rfl (Conv.of rfl) rfl) ?_
  all_goals refine awpOps_nil ?_
  all_goals refine awp_seq (awp_seq (awp_region (id := 3) ?_))
  all_goals refine awpOps_cons (op_as rfl (Conv.of rfl) rfl) ?_
  all_goals refine awpOps_nil ?_
  refine awp_block ?_
  refine awp_loop' (fun n s => ∃ (k : Nat), ∃ (hn : n + k = (allOfS l).length), ∃ (hk1 : 1 ≤ k), s = mkSt 30 [(3, .v (allOfS l)), (4, .v (((allOfS l).take k).foldl tipStep [])), (5, .v (k : Int))] []) ((allOfS l).length - 1) ⟨1, by omega, Nat.le_refl _, rfl⟩ (Le.mk rfl (tle rfl (rfl) rfl (tle rfl (by (first | (show AV.v _ = AV.v _; rw [show (allOfS l).take 1 = [[]] from by rw [take_at h0]; rfl]; rfl) | rw [foldl_at _ _ hx]; simp only [tipStep, hb'']; try rfl)) rfl (tle rfl (rfl) rfl tln))) oln noS) ?_
  rintro n s ⟨k, hn, hk1, rfl⟩
  all_goals refine awp_seq (awp_seq (awp_region (id := 4) ?_))
  all_goals refine awpOps_cons (op_mv rfl (Conv.of rfl) rfl) ?_
  all_goals refine awpOps_cons (op_mv rfl (Conv.of rfl) rfl) ?_
  all_goals refine awpOps_cons (op_len sl54 rfl rfl) ?_
  all_goals refine awpOps_cons (op_lss rfl rfl rfl) ?_
  all_goals refine awpOps_nil ?_
  refine awp_cond rfl (fun h => ?_) (fun h => ?_)
  · have hlt : k < (allOfS l).length := by simpa using h
    have hx : (allOfS l)[k]? = some (allOfS l)[k] := List.getElem?_eq_getElem hlt
    refine awp_skip ?_
    refine awp_seq (awp_block ?_)
    all_goals refine awp_seq (awp_region (id := 6) ?_)
    all_goals refine awpOps_cons (op_mv rfl (Conv.of rfl) rfl) ?_
    all_goals refine awpOps_cons (op_mv rfl (Conv.of rfl) rfl) ?_
    all_goals refine awpOps_cons (op_ix sl54 rfl rfl rfl (by omega) hx) ?_
    all_goals refine awpOps_cons (op_ldr ty35 rfl rfl) ?_
    all_goals refine awpOps_cons (op_len sl35 rfl rfl) ?_
    all_goals refine awpOps_cons (op_mv rfl (Conv.of rfl) rfl) ?_
    all_goals refine awpOps_cons (op_len sl35 rfl rfl) ?_
    all_goals refine awpOps_cons (op_gtr rfl rfl rfl) ?_
    all_goals refine awpOps_nil ?_
    refine awp_cond rfl (fun hb => ?_) (fun hb => ?_)
    · have hb'' : decide ((((allOfS l).take k).foldl tipStep []).length < ((allOfS l)[k]).length) = true := by simp at hb ⊢; omega
      all_goals refine awp_region (id := 7) ?_
      all_goals refine awpOps_cons (op_mv rfl (Conv.of rfl) rfl) ?_
      all_goals refine awpOps_cons (op_mv rfl (Conv.of rfl) rfl) ?_
      all_goals refine awpOps_cons (op_ix sl54 rfl rfl rfl (by omega) hx) ?_
      all_goals refine awpOps_cons (op_ldr ty35 rfl rfl) ?_
      all_goals refine awpOps_cons (op_as rfl (Conv.of rfl) rfl) ?_
      all_goals refine awpOps_nil ?_
      all_goals refine awp_region (id := 5) ?_
      all_goals refine awpOps_cons (op_mv rfl (Conv.of rfl) rfl) ?_
      all_goals refine awpOps_cons (op_add rfl rfl rfl (by omega)) ?_
      all_goals refine awpOps_cons (op_as rfl (Conv.of rfl) rfl) ?_
      all_goals refine awpOps_nil ?_
      repeat first | refine nx_seq ?_ | refine nx_block ?_
      exact ⟨n - 1, _, by omega, ⟨k + 1, by omega, by omega, rfl⟩, Le.mk rfl (tle rfl (rfl) rfl (tle rfl (by (first | (show AV.v _ = AV.v _; rw [show (allOfS l).take 1 = [[]] from by rw [take_at h0]; rfl]; rfl) | rw [foldl_at _ _ hx]; simp only [tipStep, hb'']; try rfl)) rfl (tle rfl (rfl) rfl tln))) oln noS⟩
    · have hb'' : decide ((((allOfS l).take k).foldl tipStep []).length < ((allOfS l)[k]).length) = false := by simp at hb ⊢; omega
      refine awp_skip ?_
      all_goals refine awp_region (id := 5) ?_
      all_goals refine awpOps_cons (op_mv rfl (Conv.of rfl) rfl) ?_
      all_goals refine awpOps_cons (op_add rfl rfl rfl (by omega)) ?_
      all_goals refine awpOps_cons (op_as rfl (Conv.of rfl) rfl) ?_
      all_goals refine awpOps_nil ?_
      repeat first | refine nx_seq ?_ | refine nx_block ?_
      exact ⟨n - 1, _, by omega, ⟨k + 1, by omega, by omega, rfl⟩, Le.mk rfl (tle rfl (rfl) rfl (tle rfl (by (first | (show AV.v _ = AV.v _; rw [show (allOfS l).take 1 = [[]] from by rw [take_at h0]; rfl]; rfl) | rw [foldl_at _ _ hx]; simp only [tipStep, hb'']; try rfl)) rfl (tle rfl (rfl) rfl tln))) oln noS⟩
  · refine awp_exit ?_
    repeat refine ex_seq ?_
    refine ex_block ?_
    have hk : (allOfS l).length ≤ k := by simpa using h
    all_goals refine awp_seq (awp_region (id := 8) ?_)
    all_goals refine awpOps_cons (op_mv rfl (Conv.of rfl) rfl) ?_
    all_goals refine awpOps_cons (op_as rfl (Conv.of rfl) rfl) ?_
    all_goals refine awpOps_nil ?_
    refine awp_ret ?_
    repeat first | refine rt_seq ?_ | refine rt_block ?_
    refine finP (.v rfl (Conv.of rfl)) rfl ?_
    simp only [take_end hk]; rfl
end Go.Proofs.YtompnmkpgffhkaaGreat

/- The reference: a node proposes. -/
set_option linter.unusedVariables false
set_option linter.unusedSimpArgs false
namespace Go.Proofs.YtompnmkpgffhkaaGreat
open Go Go.Wt
set_option maxHeartbeats 1000000 in
theorem l12Propose_ct (n : Nod) (p : Pay) (hn : Gd n.seen) (he : 0 ≤ n.epoch ∧ n.epoch ≤ 30) : CtP Tryz.prog 129 [.v (sN n), .v p] (res3S (proposeS n p)) := by
  have htip := hn.tipS
  unfold sN
  refine Ct.intro Tryz.func129 rfl rfl ?_
  all_goals refine awp_seq (awp_region (id := 0) ?_)
  all_goals refine awpOps_cons (op_boxm (o := 0) ty39_NodS rfl rfl rfl rfl) ?_
  all_goals refine awpOps_cons (op_box (o := 1) ty46 rfl (Conv.of rfl) rfl rfl) ?_
  all_goals refine awpOps_cons (op_alloc (o := 2) z39_NodS rfl rfl) ?_
  all_goals refine awpOps_cons (op_alloc (o := 3) z48 rfl rfl) ?_
  all_goals refine awpOps_cons (op_as rfl (Conv.of rfl) rfl) ?_
  all_goals refine awpOps_nil ?_
  refine awp_seq (awp_seq_to (s' := mkSt 49 [(2, .box 0 (IsLens.whole NodS)), (3, .box 1 (IsLens.whole Pay)), (4, .box 2 (IsLens.whole NodS)), (5, .box 3 (IsLens.whole Vote)), (6, .v false), (25, .v (decide (n.epoch = 0) || decide (n.voted = n.epoch) || !decide (leadS n.epoch = n.id)))] [(0, .cell (sN n)), (1, .cell p), (2, .cell NodS.zero), (3, .cell Vote.zero)]) ?_ ?_)
  · all_goals refine dr_start (id := 1) ?_
    all_goals refine dr_cons (op_fab f39_1_NodS rfl rfl) ?_
    all_goals refine dr_cons (op_ld ty3 rfl rfl rfl) ?_
    all_goals refine dr_cons (op_eql rfl rfl rfl) ?_
    all_goals refine dr_cons (op_mv rfl (Conv.of rfl) rfl) ?_
    all_goals refine dr_split (t := 11) rfl (fun h => ?_) (fun h => ?_)
    all_goals first | refine dr_cons (g_off rfl rfl rfl rfl rfl) ?_ | refine dr_cons (g_on rfl rfl rfl (op_fab f39_2_NodS rfl rfl)) ?_
    all_goals first | refine dr_cons (g_off rfl rfl rfl rfl rfl) ?_ | refine dr_cons (g_on rfl rfl rfl (op_ld ty3 rfl rfl rfl)) ?_
    all_goals first | refine dr_cons (g_off rfl rfl rfl rfl rfl) ?_ | refine dr_cons (g_on rfl rfl rfl (op_fab f39_1_NodS rfl rfl)) ?_
    all_goals first | refine dr_cons (g_off rfl rfl rfl rfl rfl) ?_ | refine dr_cons (g_on rfl rfl rfl (op_ld ty3 rfl rfl rfl)) ?_
    all_goals first | refine dr_cons (g_off rfl rfl rfl rfl rfl) ?_ | refine dr_cons (g_on rfl rfl rfl (op_eql rfl rfl rfl)) ?_
    all_goals refine dr_cons (op_pick rfl rfl rfl rfl) ?_
    all_goals refine dr_cons (op_mv rfl (Conv.of rfl) rfl) ?_
    all_goals first | refine dr_lit (t := 18) (b := true) rfl ?_ | refine dr_split (t := 18) rfl (fun h => ?_) (fun h => ?_)
    all_goals first | refine dr_cons (g_off rfl rfl rfl rfl rfl) ?_ | refine dr_cons (g_on rfl rfl rfl (op_fab f39_1_NodS rfl rfl)) ?_
    all_goals first | refine dr_cons (g_off rfl rfl rfl rfl rfl) ?_ | refine dr_cons (g_on rfl rfl rfl (op_ld ty3 rfl rfl rfl)) ?_
    all_goals first | refine dr_cons (g_off rfl rfl rfl rfl rfl) ?_ | refine dr_cons (g_on rfl rfl rfl (op_call fb83 (.cons rfl (Conv.of rfl) (.nil _)) (l3Leader_ct _ (by show -1000 ≤ n.epoch ∧ n.epoch ≤ 1000000; omega)) (argOk rfl rfl argOk0) rfl rfl)) ?_
    all_goals first | refine dr_cons (g_off rfl rfl rfl rfl rfl) ?_ | refine dr_cons (g_on rfl rfl rfl (op_fab f39_0_NodS rfl rfl)) ?_
    all_goals first | refine dr_cons (g_off rfl rfl rfl rfl rfl) ?_ | refine dr_cons (g_on rfl rfl rfl (op_ld ty3 rfl rfl rfl)) ?_
    all_goals first | refine dr_cons (g_off rfl rfl rfl rfl rfl) ?_ | refine dr_cons (g_on rfl rfl rfl (op_neq rfl rfl rfl)) ?_
    all_goals refine dr_cons (op_pick rfl rfl rfl rfl) ?_
    all_goals refine dr_nil mixed rfl ?_
    all_goals exact Le.mk rfl (tlb rfl rfl rfl (tlb rfl rfl rfl (tlb rfl rfl rfl (tlb rfl rfl rfl (tle rfl (rfl) rfl (tle rfl (by (clear htip; simp_all [sN]; try (rw [Bool.eq_iff_iff]; simp))) rfl tln)))))) (olk rfl (by exact obOkN) (olk rfl (by exact obOk_cell) (olk rfl (by exact obOkN) (olk rfl (by exact obOk_cell) oln)))) noS
  refine awp_cond rfl (fun h => ?_) (fun h => ?_)
  · all_goals refine awp_seq (awp_region (id := 2) ?_)
    all_goals refine awpOps_cons (op_ldm ty39_NodS rfl rfl rfl) ?_
    all_goals refine awpOps_cons (op_build (.nil _) z48 rfl pl48 rfl) ?_
    all_goals refine awpOps_cons (op_stm ty39_NodS rfl rfl rfl) ?_
    all_goals refine awpOps_cons (op_st ty48 rfl rfl (Conv.of rfl) rfl) ?_
    all_goals refine awpOps_cons (op_as rfl (Conv.of rfl) rfl) ?_
    all_goals refine awpOps_nil ?_
    refine awp_ret ?_
    repeat first | refine rt_seq ?_ | refine rt_block ?_
    refine ⟨_, _, resNM (ol := []) (.cell ty39_NodS rfl rfl (.keep (.rc ty48 rfl rfl) (.keep (.v rfl (Conv.of rfl)) (.nil _)))) rfl (fun o ho => absurd (show o ∈ ([] : List Nat) from ho) (by simp)) oln noS, ?_, rfl⟩
    rw [proposeS, h, if_pos rfl]; rfl
  · refine awp_skip ?_
    all_goals refine awp_seq (dr_start (id := 3) ?_)
    all_goals refine dr_cons (op_fab f39_3_NodS rfl rfl) ?_
    all_goals refine dr_cons (op_ldl ty27_OListVote rfl rfl rfl) ?_
    all_goals refine dr_cons (op_call fb159 (.cons rfl (Conv.of rfl) (.nil _)) (l11Tip_ct _ hn.l hn.v) (argOk rfl rfl argOk0) rfl rfl) ?_
    all_goals refine dr_cons (op_call fb139 (.cons rfl (Conv.of rfl) (.nil _)) (l1Copy_ct _ (by show (tipOfS n.seen).length ≤ 1000000; omega)) (argOk rfl rfl argOk0) rfl rfl) ?_
    all_goals refine dr_cons (op_fab f39_1_NodS rfl rfl) ?_
    all_goals refine dr_cons (op_ld ty3 rfl rfl rfl) ?_
    all_goals refine dr_cons (op_ld ty46 rfl rfl rfl) ?_
    all_goals refine dr_cons (op_build (.cons f67_0 rfl (Conv.of rfl) (.cons f67_1 rfl (Conv.of rfl) (.nil _))) z67 rfl pl67 rfl) ?_
    all_goals refine dr_cons (op_bsl sl35 z67 (.cons rfl (Conv.of rfl) (.nil _)) rfl (by decide) rfl) ?_
    all_goals refine dr_cons (op_app sl35 z67 ul35 rfl rfl rfl (by (simp [sN]; omega)) (by (simp [sN]; omega)) rfl rfl) ?_
    all_goals refine dr_cons (op_asl rfl rfl rfl rfl) ?_
    all_goals refine dr_nil mixed rfl ?_
    all_goals refine awp_seq (awp_seq (awp_region (id := 4) ?_))
    all_goals refine awpOps_cons (op_mv rfl Conv.ol rfl) ?_
    all_goals refine awpOps_cons (op_call fb137 (.cons rfl (Conv.of rfl) (.nil _)) (sChainOk_ct _) (argOk rfl rfl argOk0) rfl rfl) ?_
    all_goals refine awpOps_cons (op_not rfl rfl) ?_
    all_goals refine awpOps_nil ?_
    refine awp_cond rfl (fun h2 => ?_) (fun h2 => ?_)
    · all_goals refine awp_seq (awp_region (id := 5) ?_)
      all_goals refine awpOps_cons (op_ldm ty39_NodS rfl rfl rfl) ?_
      all_goals refine awpOps_cons (op_build (.nil _) z48 rfl pl48 rfl) ?_
      all_goals refine awpOps_cons (op_stm ty39_NodS rfl rfl rfl) ?_
      all_goals refine awpOps_cons (op_st ty48 rfl rfl (Conv.of rfl) rfl) ?_
      all_goals refine awpOps_cons (op_as rfl (Conv.of rfl) rfl) ?_
      all_goals refine awpOps_nil ?_
      refine awp_ret ?_
      repeat first | refine rt_seq ?_ | refine rt_block ?_
      refine ⟨_, _, resNM (ol := []) (.cell ty39_NodS rfl rfl (.keep (.rc ty48 rfl rfl) (.keep (.v rfl (Conv.of rfl)) (.nil _)))) rfl (fun o ho => absurd (show o ∈ ([] : List Nat) from ho) (by simp)) oln noS, ?_, rfl⟩
      have h2' := not_t h2
      rw [proposeS, h, if_neg (by decide), if_neg (by rw [show chainOk (tipOfS n.seen ++ [⟨n.epoch, p⟩]) = false from h2']; decide)]; rfl
    · have h2' := not_f h2
      refine awp_skip ?_
      all_goals refine awp_seq (awp_region (id := 6) ?_)
      all_goals refine awpOps_cons (op_ldm ty39_NodS rfl rfl rfl) ?_
      all_goals refine awpOps_cons (op_mv rfl Conv.ol rfl) ?_
      all_goals refine awpOps_cons (op_callM (s := 43) (ol := []) (ol' := []) (pre := []) fb160 (.nil _) rfl (.cons rfl (Conv.of rfl) (.nil _)) (l12Vote_ct n _ hn (by simp [sN]; omega)) ols0 oks0 oks0 rfl argO0 (argOk' rfl rfl argO0) (fun o ho => absurd (show o ∈ ([] : List Nat) from ho) (by simp)) (fun o ho => absurd (show o ∈ ([] : List Nat) from ho) (by simp)) rfl) ?_
      all_goals refine awpOps_cons (op_extm rfl rfl rfl rfl) ?_
      all_goals refine awpOps_cons (op_ext rfl rfl rfl) ?_
      all_goals refine awpOps_cons (op_ext rfl rfl rfl) ?_
      all_goals refine awpOps_cons (op_stm ty39_NodS rfl rfl rfl) ?_
      all_goals refine awpOps_cons (op_st ty48 rfl rfl (Conv.of rfl) rfl) ?_
      all_goals refine awpOps_cons (op_as rfl (Conv.of rfl) rfl) ?_
      all_goals refine awpOps_nil ?_
      refine awp_ret ?_
      repeat first | refine rt_seq ?_ | refine rt_block ?_
      refine ⟨_, _, resNM (ol := []) (.cell ty39_NodS rfl rfl (.keep (.rc ty48 rfl rfl) (.keep (.v rfl (Conv.of rfl)) (.nil _)))) rfl (fun o ho => absurd (show o ∈ ([] : List Nat) from ho) (by simp)) oln noS, ?_, rfl⟩
      rw [proposeS, h, if_neg (by decide), if_pos (show chainOk (tipOfS n.seen ++ [⟨n.epoch, p⟩]) = true from h2')]
      show AV.tup _ = AV.tup _
      rfl
end Go.Proofs.YtompnmkpgffhkaaGreat

/- The reference: new nodes; room for votes. -/
set_option linter.unusedVariables false
set_option linter.unusedSimpArgs false
namespace Go.Proofs.YtompnmkpgffhkaaGreat
open Go Go.Wt
theorem sNodeNew_ct (i : Int) (hi : within i 1 4 = true) : CtP Tryz.prog 105 [.v i] (.tup [.v (NodC.mk i 0 0 ⟨[]⟩), .v true]) := by
  refine Ct.intro Tryz.func105 rfl rfl ?_
  all_goals refine awp_seq (awp_region (id := 0) ?_)
  all_goals refine awpOps_cons (op_alloc (o := 0) z39_NodC rfl rfl) ?_
  all_goals refine awpOps_cons (op_as rfl (Conv.of rfl) rfl) ?_
  all_goals refine awpOps_nil ?_
  all_goals refine awp_seq (awp_seq (awp_region (id := 1) ?_))
  all_goals refine awpOps_cons (op_mv rfl (Conv.of rfl) rfl) ?_
  all_goals refine awpOps_cons (op_call fb84 (.cons rfl (Conv.of rfl) (.cons rfl (Conv.of rfl) (.cons rfl (Conv.of rfl) (.nil _)))) (l6In_ct _ _ _) (argOk rfl rfl (argOk rfl rfl (argOk rfl rfl argOk0))) rfl rfl) ?_
  all_goals refine awpOps_cons (op_not rfl rfl) ?_
  all_goals refine awpOps_nil ?_
  refine awp_cond rfl (fun h => absurd (not_t h) (by rw [hi]; decide)) (fun h => ?_)
  refine awp_skip ?_
  all_goals refine awp_seq (awp_region (id := 3) ?_)
  all_goals refine awpOps_cons (op_mv rfl (Conv.of rfl) rfl) ?_
  all_goals refine awpOps_cons (op_bsc sl27 z48 (.nil _) rfl (by decide) rfl) ?_
  all_goals refine awpOps_cons (op_build (.cons f39_0_NodC rfl (Conv.of rfl) (.cons f39_3_NodC rfl (Conv.of rfl) (.nil _))) z39_NodC rfl pl39 rfl) ?_
  all_goals refine awpOps_cons (op_st ty39_NodC rfl rfl (Conv.of rfl) rfl) ?_
  all_goals refine awpOps_cons (op_as rfl (Conv.of rfl) rfl) ?_
  all_goals refine awpOps_nil ?_
  refine awp_ret ?_
  repeat first | refine rt_seq ?_ | refine rt_block ?_
  exact finN (.cons (.rc ty39_NodC rfl rfl) (.cons (.v rfl (Conv.of rfl)) .nil)) rfl rfl rfl
theorem l21Send_ct (w : Wrld) (v : Vote) (ok : Bool) (ns : List NodS) (hl : Gd w.log) (hv : v.chain.length ≤ 1000000) : CtO Tryz.prog 108 [.v (sW w), .v v, .v ok] [(1, .arr ns)] (.v (sW (if ok then sendF w v else w))) [(1, .arr ns)] := by
  have hlen := hl.len
  unfold sW
  refine Ct.intro Tryz.func108 rfl rfl ?_
  all_goals refine awp_seq (awp_region (id := 0) ?_)
  all_goals refine awpOps_cons (op_boxm (o := 5) ty29_WrldS rfl rfl rfl rfl) ?_
  all_goals refine awpOps_cons (op_box (o := 6) ty48 rfl (Conv.of rfl) rfl rfl) ?_
  all_goals refine awpOps_cons (op_alloc (o := 7) z29_WrldS rfl rfl) ?_
  all_goals refine awpOps_nil ?_
  refine awp_seq (awp_seq_to (s' := mkSt 26 [(3, .box 5 (IsLens.whole WrldS)), (4, .box 6 (IsLens.whole Vote)), (6, .box 7 (IsLens.whole WrldS)), (15, .v (ok && decide (w.log.length < 80)))] [(1, .arr ns), (5, .cell (sW w)), (6, .cell v), (7, .cell WrldS.zero)]) ?_ ?_)
  · all_goals refine awp_region (id := 1) ?_
    all_goals refine awpOps_cons (op_mv rfl (Conv.of rfl) rfl) ?_
    all_goals refine awpOps_cons (op_mv rfl (Conv.of rfl) rfl) ?_
    all_goals refine g_split (t := 10) rfl (fun h => ?_) (fun h => ?_)
    all_goals first | refine awpOps_cons (g_off rfl rfl rfl rfl rfl) ?_ | refine awpOps_cons (g_on rfl rfl rfl (op_fab f29_2_WrldS rfl rfl)) ?_
    all_goals first | refine awpOps_cons (g_off rfl rfl rfl rfl rfl) ?_ | refine awpOps_cons (g_on rfl rfl rfl (op_ldl ty27_OListVote rfl rfl rfl)) ?_
    all_goals first | refine awpOps_cons (g_off rfl rfl rfl rfl rfl) ?_ | refine awpOps_cons (g_on rfl rfl rfl (op_len sl27 rfl rfl)) ?_
    all_goals first | refine awpOps_cons (g_off rfl rfl rfl rfl rfl) ?_ | refine awpOps_cons (g_on rfl rfl rfl (op_lss rfl rfl rfl)) ?_
    all_goals refine awpOps_cons (op_pick rfl rfl rfl rfl) ?_
    all_goals refine awpOps_nil ?_
    all_goals exact Le.mk rfl (tlb rfl rfl rfl (tlb rfl rfl rfl (tlb rfl rfl rfl (tle rfl (by (simp_all; try omega)) rfl tln)))) (olk rfl (by exact obOkNs) (olk rfl (by exact obOkS rfl) (olk rfl (by exact obOk_cell) (olk rfl (by exact obOkS0) oln)))) (hS_sub (a := [(1, .arr ns)]) rfl)
  refine awp_cond rfl (fun h => ?_) (fun h => ?_)
  · all_goals refine awp_seq (awp_region (id := 2) ?_)
    all_goals refine awpOps_cons (op_fab f29_2_WrldS rfl rfl) ?_
    all_goals refine awpOps_cons (op_ldm ty27_OListVote rfl rfl rfl) ?_
    all_goals refine awpOps_cons (op_ld ty48 rfl rfl rfl) ?_
    all_goals refine awpOps_cons (op_callM (s := 18) (ol := []) (ol' := []) (pre := []) fb149 (.nil _) rfl (.cons rfl (Conv.of rfl) (.nil _)) (l3Add_ct w.log v hl.l' hv) ols0 oks0 oks0 rfl argO0 (argOk' rfl rfl argO0) (fun o ho => absurd (show o ∈ ([] : List Nat) from ho) (by simp)) (fun o ho => absurd (show o ∈ ([] : List Nat) from ho) (by simp)) rfl) ?_
    all_goals refine awpOps_cons (op_mvo rfl rfl rfl rfl) ?_
    all_goals refine awpOps_cons (op_extm rfl rfl rfl rfl) ?_
    all_goals refine awpOps_cons (op_ext rfl rfl rfl) ?_
    all_goals refine awpOps_cons (op_asl rfl rfl rfl rfl) ?_
    all_goals refine awpOps_cons (op_as rfl (Conv.of rfl) rfl) ?_
    all_goals refine awpOps_nil ?_
    all_goals refine awp_region (id := 3) ?_
    all_goals refine awpOps_cons (op_mvl rfl rfl rfl rfl) ?_
    all_goals refine awpOps_cons (op_fab f29_2_WrldS rfl rfl) ?_
    all_goals refine awpOps_cons (op_stm ty27_OListVote rfl rfl rfl) ?_
    all_goals refine awpOps_nil ?_
    all_goals refine awp_seq (awp_region (id := 4) ?_)
    all_goals refine awpOps_cons (op_ldm ty29_WrldS rfl rfl rfl) ?_
    all_goals refine awpOps_cons (op_stm ty29_WrldS rfl rfl rfl) ?_
    all_goals refine awpOps_nil ?_
    refine awp_ret ?_
    repeat first | refine rt_seq ?_ | refine rt_block ?_
    refine ⟨_, _, res1C (ol := [(1, .arr ns)]) ty29_WrldS rfl rfl (fun o ho => ?_) (olk rfl obOkNs oln) (hS_sub rfl), ?_, rfl⟩
    · have : o = 1 := by simpa using (show o ∈ [1] from ho)
      subst this; rfl
    · simp only [Bool.and_eq_true, decide_eq_true_eq] at h
      obtain ⟨rfl, h2⟩ := h
      show AV.v (WrldS.mk w.epoch (.ref 1) ⟨if decide (v ∈ w.log) then w.log else w.log ++ [v], true⟩ w.bad) = _
      by_cases hm : v ∈ w.log <;> simp [sendF, hm, h2, sW]
  · refine awp_skip ?_
    all_goals refine awp_seq (awp_region (id := 4) ?_)
    all_goals refine awpOps_cons (op_ldm ty29_WrldS rfl rfl rfl) ?_
    all_goals refine awpOps_cons (op_stm ty29_WrldS rfl rfl rfl) ?_
    all_goals refine awpOps_nil ?_
    refine awp_ret ?_
    repeat first | refine rt_seq ?_ | refine rt_block ?_
    refine ⟨_, _, res1C (ol := [(1, .arr ns)]) ty29_WrldS rfl rfl (fun o ho => ?_) (olk rfl obOkNs oln) (hS_sub rfl), ?_, rfl⟩
    · have : o = 1 := by simpa using (show o ∈ [1] from ho)
      subst this; rfl
    · show AV.v (sW w) = _
      cases ok with
      | false => rfl
      | true =>
        have h2 : ¬ w.log.length < 80 := by simpa using h
        simp [sendF, h2]
        rfl
end Go.Proofs.YtompnmkpgffhkaaGreat

/- The reference: room for votes. -/
set_option linter.unusedVariables false
set_option linter.unusedSimpArgs false
namespace Go.Proofs.YtompnmkpgffhkaaGreat
open Go Go.Wt
theorem l21Room_ct (w : Wrld) (ns : List NodS) : CtO Tryz.prog 128 [.v (fW w)] [(1, .arr ns)] (.v (decide (w.log.length < 80))) [(1, .arr ns)] := by
  unfold fW
  refine Ct.intro Tryz.func128 rfl rfl ?_
  all_goals refine awp_seq (awp_region (id := 0) ?_)
  all_goals refine awpOps_cons (op_box (o := 5) ty29_WrldS rfl (Conv.of rfl) rfl rfl) ?_
  all_goals refine awpOps_cons (op_as rfl (Conv.of rfl) rfl) ?_
  all_goals refine awpOps_nil ?_
  all_goals refine awp_seq (awp_region (id := 1) ?_)
  all_goals refine awpOps_cons (op_fab f29_2_WrldS rfl rfl) ?_
  all_goals refine awpOps_cons (op_ldl ty27_OListVote rfl rfl rfl) ?_
  all_goals refine awpOps_cons (op_len sl27 rfl rfl) ?_
  all_goals refine awpOps_cons (op_lss rfl rfl rfl) ?_
  all_goals refine awpOps_cons (op_as rfl (Conv.of rfl) rfl) ?_
  all_goals refine awpOps_nil ?_
  refine awp_ret ?_
  repeat first | refine rt_seq ?_ | refine rt_block ?_
  refine finO1 [(1, .arr ns)] (.v rfl (Conv.of rfl)) (fun o ho => by cases ho) (olk rfl obOkNs oln) (hS_keys rfl) ?_
  show AV.v _ = AV.v _
  congr 1
  rw [decide_eq_decide]
  show (w.log.length : Int) < 80 ↔ _
  omega
end Go.Proofs.YtompnmkpgffhkaaGreat

/- The reference: a new world. -/
set_option linter.unusedVariables false
set_option linter.unusedSimpArgs false
namespace Go.Proofs.YtompnmkpgffhkaaGreat
open Go Go.Wt
def newC (i : Int) : NodC := ⟨i, 0, 0, ⟨[]⟩⟩
theorem sWorldNew_ct (bad : Int) (hb : within bad 0 4 = true) : Ct Tryz.prog 50 [.v bad] noObj (fun r1 h1 => r1 = .tup [.v (sW (newW bad)), .v true] ∧ h1 = obs [(1, .arr ([newC 1, newC 2, newC 3, newC 4] : List NodC))]) := by
  refine Ct.intro Tryz.func50 rfl rfl ?_
  all_goals refine awp_seq (awp_region (id := 0) ?_)
  all_goals refine awpOps_cons (op_alloc (o := 5) z29_WrldS rfl rfl) ?_
  all_goals refine awpOps_cons (op_as rfl (Conv.of rfl) rfl) ?_
  all_goals refine awpOps_nil ?_
  all_goals refine awp_seq (awp_seq (awp_region (id := 1) ?_))
  all_goals refine awpOps_cons (op_mv rfl (Conv.of rfl) rfl) ?_
  all_goals refine awpOps_cons (op_call fb84 (.cons rfl (Conv.of rfl) (.cons rfl (Conv.of rfl) (.cons rfl (Conv.of rfl) (.nil _)))) (l6In_ct _ _ _) (argOk rfl rfl (argOk rfl rfl (argOk rfl rfl argOk0))) rfl rfl) ?_
  all_goals refine awpOps_cons (op_not rfl rfl) ?_
  all_goals refine awpOps_nil ?_
  refine awp_cond rfl (fun h => absurd (not_t h) (by rw [hb]; decide)) (fun h => ?_)
  refine awp_skip ?_
  all_goals refine awp_seq (awp_region (id := 3) ?_)
  all_goals refine awpOps_cons (op_mv rfl (Conv.of rfl) rfl) ?_
  all_goals refine awpOps_cons (op_bsc sl27 z48 (.nil _) rfl (by decide) rfl) ?_
  all_goals refine awpOps_cons (op_build (.cons f29_3_WrldS rfl (Conv.of rfl) (.cons f29_2_WrldS rfl (Conv.co) (.nil _))) z29_WrldS rfl pl29 rfl) ?_
  all_goals refine awpOps_cons (op_alloc (o := 0) z29_WrldS rfl rfl) ?_
  all_goals refine awpOps_cons (op_stm ty29_WrldS rfl rfl rfl) ?_
  all_goals refine awpOps_nil ?_
  all_goals refine awp_seq (awp_seq (awp_region (id := 4) ?_))
  all_goals refine awpOps_cons (op_as rfl (Conv.of rfl) rfl) ?_
  all_goals refine awpOps_nil ?_
  refine awp_block ?_
  refine awp_loop' (fun n s => (n = 4 ∧ s = mkSt 31 [(2, .box 5 (IsLens.whole WrldS)), (4, .box 0 (IsLens.whole WrldS)), (5, .v (1 : Int))] [(0, .cell (WrldS.mk 0 .nil ⟨[], true⟩ bad)), (5, .cell WrldS.zero)]) ∨ (n = 3 ∧ s = mkSt 31 [(2, .box 5 (IsLens.whole WrldS)), (4, .box 0 (IsLens.whole WrldS)), (5, .v (2 : Int))] [(0, .cell (WrldS.mk 0 (.ref 11) ⟨[], true⟩ bad)), (5, .cell WrldS.zero), (11, .arr ([newC 1] : List NodC))]) ∨ (n = 2 ∧ s = mkSt 31 [(2, .box 5 (IsLens.whole WrldS)), (4, .box 0 (IsLens.whole WrldS)), (5, .v (3 : Int))] [(0, .cell (WrldS.mk 0 (.ref 12) ⟨[], true⟩ bad)), (5, .cell WrldS.zero), (12, .arr ([newC 1, newC 2] : List NodC))]) ∨ (n = 1 ∧ s = mkSt 31 [(2, .box 5 (IsLens.whole WrldS)), (4, .box 0 (IsLens.whole WrldS)), (5, .v (4 : Int))] [(0, .cell (WrldS.mk 0 (.ref 13) ⟨[], true⟩ bad)), (5, .cell WrldS.zero), (13, .arr ([newC 1, newC 2, newC 3] : List NodC))]) ∨ (n = 0 ∧ s = mkSt 31 [(2, .box 5 (IsLens.whole WrldS)), (4, .box 0 (IsLens.whole WrldS)), (5, .v (5 : Int))] [(0, .cell (WrldS.mk 0 (.ref 1) ⟨[], true⟩ bad)), (5, .cell WrldS.zero), (1, .arr ([newC 1, newC 2, newC 3, newC 4] : List NodC))])) 4 (.inl ⟨rfl, rfl⟩) (Le.mk rfl (tlb rfl rfl rfl (tlb rfl rfl rfl (tle rfl (rfl) rfl tln))) (olk rfl (by exact obOkS0) (olk rfl (by exact obOkS0) oln)) noS) ?_
  rintro n s (⟨rfl, rfl⟩|⟨rfl, rfl⟩|⟨rfl, rfl⟩|⟨rfl, rfl⟩|⟨rfl, rfl⟩)
  · all_goals refine awp_seq (awp_seq (awp_region (id := 5) ?_))
    all_goals refine awpOps_cons (op_mv rfl (Conv.of rfl) rfl) ?_
    all_goals refine awpOps_cons (op_leq rfl rfl rfl) ?_
    all_goals refine awpOps_nil ?_
    refine awp_cond rfl (fun h => ?_) (fun h => absurd h (by decide))
    refine awp_skip ?_
    refine awp_seq (awp_block ?_)
    all_goals refine awp_seq (awp_region (id := 7) ?_)
    all_goals refine awpOps_cons (op_mv rfl (Conv.of rfl) rfl) ?_
    all_goals refine awpOps_cons (op_call fb105 (.cons rfl (Conv.of rfl) (.nil _)) (sNodeNew_ct 1 rfl) (argOk rfl rfl argOk0) rfl rfl) ?_
    all_goals refine awpOps_cons (op_mv rfl (Conv.of rfl) rfl) ?_
    all_goals refine awpOps_cons (op_ext rfl rfl rfl) ?_
    all_goals refine awpOps_cons (op_ext rfl rfl rfl) ?_
    all_goals refine awpOps_cons (op_alloc (o := 6) z39_NodC rfl rfl) ?_
    all_goals refine awpOps_cons (op_st ty39_NodC rfl rfl (Conv.of rfl) rfl) ?_
    all_goals refine awpOps_cons (op_as rfl (Conv.of rfl) rfl) ?_
    all_goals refine awpOps_nil ?_
    all_goals refine awp_region (id := 8) ?_
    all_goals refine awpOps_cons (op_fab f29_1_WrldS rfl rfl) ?_
    all_goals refine awpOps_cons (op_ld ty26_NRef rfl rfl rfl) ?_
    all_goals refine awpOps_cons (op_ld ty39_NodC rfl rfl rfl) ?_
    all_goals refine awpOps_cons (op_bsl sl26_NodC z39_NodC (.cons rfl (Conv.of rfl) (.nil _)) rfl (by decide) rfl) ?_
    all_goals refine awpOps_cons (op_apN (o' := 11) sl26_NodC z39_NodC ul26 rfl rfl rfl (by simp) (by simp) (by simp) rfl) ?_
    all_goals refine awpOps_cons (op_fab f29_1_WrldS rfl rfl) ?_
    all_goals refine awpOps_cons (op_st ty26_NRef rfl rfl (Conv.of rfl) rfl) ?_
    all_goals refine awpOps_nil ?_
    all_goals refine awp_region (id := 6) ?_
    all_goals refine awpOps_cons (op_mv rfl (Conv.of rfl) rfl) ?_
    all_goals refine awpOps_cons (op_add rfl rfl rfl (by omega)) ?_
    all_goals refine awpOps_cons (op_as rfl (Conv.of rfl) rfl) ?_
    all_goals refine awpOps_nil ?_
    repeat first | refine nx_seq ?_ | refine nx_block ?_
    exact ⟨3, _, by decide, .inr (.inl ⟨rfl, rfl⟩), Le.mk rfl (tlb rfl rfl rfl (tlb rfl rfl rfl (tle rfl (rfl) rfl tln))) (olk rfl (by exact obOkS rfl) (olk rfl (by exact obOkS0) (olk rfl (by exact obOk_arr) oln))) noS⟩
  · all_goals refine awp_seq (awp_seq (awp_region (id := 5) ?_))
    all_goals refine awpOps_cons (op_mv rfl (Conv.of rfl) rfl) ?_
    all_goals refine awpOps_cons (op_leq rfl rfl rfl) ?_
    all_goals refine awpOps_nil ?_
    refine awp_cond rfl (fun h => ?_) (fun h => absurd h (by decide))
    refine awp_skip ?_
    refine awp_seq (awp_block ?_)
    all_goals refine awp_seq (awp_region (id := 7) ?_)
    all_goals refine awpOps_cons (op_mv rfl (Conv.of rfl) rfl) ?_
    all_goals refine awpOps_cons (op_call fb105 (.cons rfl (Conv.of rfl) (.nil _)) (sNodeNew_ct 2 rfl) (argOk rfl rfl argOk0) rfl rfl) ?_
    all_goals refine awpOps_cons (op_mv rfl (Conv.of rfl) rfl) ?_
    all_goals refine awpOps_cons (op_ext rfl rfl rfl) ?_
    all_goals refine awpOps_cons (op_ext rfl rfl rfl) ?_
    all_goals refine awpOps_cons (op_alloc (o := 6) z39_NodC rfl rfl) ?_
    all_goals refine awpOps_cons (op_st ty39_NodC rfl rfl (Conv.of rfl) rfl) ?_
    all_goals refine awpOps_cons (op_as rfl (Conv.of rfl) rfl) ?_
    all_goals refine awpOps_nil ?_
    all_goals refine awp_region (id := 8) ?_
    all_goals refine awpOps_cons (op_fab f29_1_WrldS rfl rfl) ?_
    all_goals refine awpOps_cons (op_ld ty26_NRef rfl rfl rfl) ?_
    all_goals refine awpOps_cons (op_ld ty39_NodC rfl rfl rfl) ?_
    all_goals refine awpOps_cons (op_bsl sl26_NodC z39_NodC (.cons rfl (Conv.of rfl) (.nil _)) rfl (by decide) rfl) ?_
    all_goals refine awpOps_cons (op_apA (o' := 12) sl26_NodC z39_NodC ul26 rfl rfl rfl rfl (by simp) (by simp) (by simp) rfl) ?_
    all_goals refine awpOps_cons (op_fab f29_1_WrldS rfl rfl) ?_
    all_goals refine awpOps_cons (op_st ty26_NRef rfl rfl (Conv.of rfl) rfl) ?_
    all_goals refine awpOps_nil ?_
    all_goals refine awp_region (id := 6) ?_
    all_goals refine awpOps_cons (op_mv rfl (Conv.of rfl) rfl) ?_
    all_goals refine awpOps_cons (op_add rfl rfl rfl (by omega)) ?_
    all_goals refine awpOps_cons (op_as rfl (Conv.of rfl) rfl) ?_
    all_goals refine awpOps_nil ?_
    repeat first | refine nx_seq ?_ | refine nx_block ?_
    exact ⟨2, _, by decide, .inr (.inr (.inl ⟨rfl, rfl⟩)), Le.mk rfl (tlb rfl rfl rfl (tlb rfl rfl rfl (tle rfl (rfl) rfl tln))) (olk rfl (by exact obOkS rfl) (olk rfl (by exact obOkS0) (olk rfl (by exact obOk_arr) oln))) noS⟩
  · all_goals refine awp_seq (awp_seq (awp_region (id := 5) ?_))
    all_goals refine awpOps_cons (op_mv rfl (Conv.of rfl) rfl) ?_
    all_goals refine awpOps_cons (op_leq rfl rfl rfl) ?_
    all_goals refine awpOps_nil ?_
    refine awp_cond rfl (fun h => ?_) (fun h => absurd h (by decide))
    refine awp_skip ?_
    refine awp_seq (awp_block ?_)
    all_goals refine awp_seq (awp_region (id := 7) ?_)
    all_goals refine awpOps_cons (op_mv rfl (Conv.of rfl) rfl) ?_
    all_goals refine awpOps_cons (op_call fb105 (.cons rfl (Conv.of rfl) (.nil _)) (sNodeNew_ct 3 rfl) (argOk rfl rfl argOk0) rfl rfl) ?_
    all_goals refine awpOps_cons (op_mv rfl (Conv.of rfl) rfl) ?_
    all_goals refine awpOps_cons (op_ext rfl rfl rfl) ?_
    all_goals refine awpOps_cons (op_ext rfl rfl rfl) ?_
    all_goals refine awpOps_cons (op_alloc (o := 6) z39_NodC rfl rfl) ?_
    all_goals refine awpOps_cons (op_st ty39_NodC rfl rfl (Conv.of rfl) rfl) ?_
    all_goals refine awpOps_cons (op_as rfl (Conv.of rfl) rfl) ?_
    all_goals refine awpOps_nil ?_
    all_goals refine awp_region (id := 8) ?_
    all_goals refine awpOps_cons (op_fab f29_1_WrldS rfl rfl) ?_
    all_goals refine awpOps_cons (op_ld ty26_NRef rfl rfl rfl) ?_
    all_goals refine awpOps_cons (op_ld ty39_NodC rfl rfl rfl) ?_
    all_goals refine awpOps_cons (op_bsl sl26_NodC z39_NodC (.cons rfl (Conv.of rfl) (.nil _)) rfl (by decide) rfl) ?_
    all_goals refine awpOps_cons (op_apA (o' := 13) sl26_NodC z39_NodC ul26 rfl rfl rfl rfl (by simp) (by simp) (by simp) rfl) ?_
    all_goals refine awpOps_cons (op_fab f29_1_WrldS rfl rfl) ?_
    all_goals refine awpOps_cons (op_st ty26_NRef rfl rfl (Conv.of rfl) rfl) ?_
    all_goals refine awpOps_nil ?_
    all_goals refine awp_region (id := 6) ?_
    all_goals refine awpOps_cons (op_mv rfl (Conv.of rfl) rfl) ?_
    all_goals refine awpOps_cons (op_add rfl rfl rfl (by omega)) ?_
    all_goals refine awpOps_cons (op_as rfl (Conv.of rfl) rfl) ?_
    all_goals refine awpOps_nil ?_
    repeat first | refine nx_seq ?_ | refine nx_block ?_
    exact ⟨1, _, by decide, .inr (.inr (.inr (.inl ⟨rfl, rfl⟩))), Le.mk rfl (tlb rfl rfl rfl (tlb rfl rfl rfl (tle rfl (rfl) rfl tln))) (olk rfl (by exact obOkS rfl) (olk rfl (by exact obOkS0) (olk rfl (by exact obOk_arr) oln))) noS⟩
  · all_goals refine awp_seq (awp_seq (awp_region (id := 5) ?_))
    all_goals refine awpOps_cons (op_mv rfl (Conv.of rfl) rfl) ?_
    all_goals refine awpOps_cons (op_leq rfl rfl rfl) ?_
    all_goals refine awpOps_nil ?_
    refine awp_cond rfl (fun h => ?_) (fun h => absurd h (by decide))
    refine awp_skip ?_
    refine awp_seq (awp_block ?_)
    all_goals refine awp_seq (awp_region (id := 7) ?_)
    all_goals refine awpOps_cons (op_mv rfl (Conv.of rfl) rfl) ?_
    all_goals refine awpOps_cons (op_call fb105 (.cons rfl (Conv.of rfl) (.nil _)) (sNodeNew_ct 4 rfl) (argOk rfl rfl argOk0) rfl rfl) ?_
    all_goals refine awpOps_cons (op_mv rfl (Conv.of rfl) rfl) ?_
    all_goals refine awpOps_cons (op_ext rfl rfl rfl) ?_
    all_goals refine awpOps_cons (op_ext rfl rfl rfl) ?_
    all_goals refine awpOps_cons (op_alloc (o := 6) z39_NodC rfl rfl) ?_
    all_goals refine awpOps_cons (op_st ty39_NodC rfl rfl (Conv.of rfl) rfl) ?_
    all_goals refine awpOps_cons (op_as rfl (Conv.of rfl) rfl) ?_
    all_goals refine awpOps_nil ?_
    all_goals refine awp_region (id := 8) ?_
    all_goals refine awpOps_cons (op_fab f29_1_WrldS rfl rfl) ?_
    all_goals refine awpOps_cons (op_ld ty26_NRef rfl rfl rfl) ?_
    all_goals refine awpOps_cons (op_ld ty39_NodC rfl rfl rfl) ?_
    all_goals refine awpOps_cons (op_bsl sl26_NodC z39_NodC (.cons rfl (Conv.of rfl) (.nil _)) rfl (by decide) rfl) ?_
    all_goals refine awpOps_cons (op_apA (o' := 1) sl26_NodC z39_NodC ul26 rfl rfl rfl rfl (by simp) (by simp) (by simp) rfl) ?_
    all_goals refine awpOps_cons (op_fab f29_1_WrldS rfl rfl) ?_
    all_goals refine awpOps_cons (op_st ty26_NRef rfl rfl (Conv.of rfl) rfl) ?_
    all_goals refine awpOps_nil ?_
    all_goals refine awp_region (id := 6) ?_
    all_goals refine awpOps_cons (op_mv rfl (Conv.of rfl) rfl) ?_
    all_goals refine awpOps_cons (op_add rfl rfl rfl (by omega)) ?_
    all_goals refine awpOps_cons (op_as rfl (Conv.of rfl) rfl) ?_
    all_goals refine awpOps_nil ?_
    repeat first | refine nx_seq ?_ | refine nx_block ?_
    exact ⟨0, _, by decide, .inr (.inr (.inr (.inr (⟨rfl, rfl⟩)))), Le.mk rfl (tlb rfl rfl rfl (tlb rfl rfl rfl (tle rfl (rfl) rfl tln))) (olk rfl (by exact obOkS rfl) (olk rfl (by exact obOkS0) (olk rfl (by exact obOk_arr) oln))) noS⟩
  · all_goals refine awp_seq (awp_seq (awp_region (id := 5) ?_))
    all_goals refine awpOps_cons (op_mv rfl (Conv.of rfl) rfl) ?_
    all_goals refine awpOps_cons (op_leq rfl rfl rfl) ?_
    all_goals refine awpOps_nil ?_
    refine awp_cond rfl (fun h => absurd h (by decide)) (fun h => ?_)
    refine awp_exit ?_
    repeat refine ex_seq ?_
    refine ex_block ?_
    all_goals refine awp_seq (awp_region (id := 9) ?_)
    all_goals refine awpOps_cons (op_ldm ty29_WrldS rfl rfl rfl) ?_
    all_goals refine awpOps_cons (op_stm ty29_WrldS rfl rfl rfl) ?_
    all_goals refine awpOps_cons (op_as rfl (Conv.of rfl) rfl) ?_
    all_goals refine awpOps_nil ?_
    refine awp_ret ?_
    repeat first | refine rt_seq ?_ | refine rt_block ?_
    refine ⟨_, _, resNM (ol := [(1, .arr ([newC 1, newC 2, newC 3, newC 4] : List NodC))]) (.cell ty29_WrldS rfl rfl (.keep (.v rfl (Conv.of rfl)) (.nil _))) rfl (fun o ho => ?_) (olk rfl obOk_arr oln) noS, rfl, rfl⟩
    have : o = 1 := by simpa using (show o ∈ [1] from ho)
    subst this; rfl
end Go.Proofs.YtompnmkpgffhkaaGreat
