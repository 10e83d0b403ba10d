/- The law FnLinesRun returns true at every input, and leaves its arguments as they were; the listed tables of the library are tied to the text. No other condition. -/
import Derived.Test.YtgfoeiieopnlaaaGreatDoorM5
import Derived.Test.YtgfoeiieopnlaaaGreatDoorRows
import Derived.Test.YtgfoeiieopnlaaaGreatDoorCards
import Derived.Test.YtgfoeiieopnlaaaGreatDoorTie
import Derived.WalkKit
import Derived.ProofKit
import Derived.OpenShut
import Derived.ShutString
import Derived.ChangeOld
import Derived.ChangeMaps5
import Derived.Below
import Derived.SizedLaws
import Derived.KernelRfl
import Derived.LaidMore
import Derived.Lay
import Derived.SevenTiedAt
import Derived.Stop.Joined
/- Lines are done, and what all hold for final is told. -/
set_option linter.unusedVariables false
set_option linter.unusedSimpArgs false
namespace Go.Proofs.YtgfoeiieopnlaaaGreatDoor
open Go Go.Wt
set_option maxHeartbeats 2000000 in
theorem FnLinesRun_ct (code : List UInt8) : CtP Tryz.prog 13 [.v code] (.v true) := by
  refine Ct.intro Tryz.func13 rfl rfl ?_
  all_goals refine aS (aR ?_)
  all_goals refine oC (oA rfl (Conv.of rfl) rfl) ?_
  all_goals refine oN ?_
  all_goals refine aS (aS (aR ?_))
  all_goals refine oC (oM rfl (Conv.of rfl) rfl) ?_
  all_goals refine oC (oE sl22 rfl rfl) ?_
  all_goals refine oC (op_gtr rfl rfl rfl) ?_
  all_goals refine oN ?_
  refine aC rfl (fun h => ?_) (fun h => ?_)
  · all_goals refine aS (aR ?_)
    all_goals refine oC (oA rfl (Conv.of rfl) rfl) ?_
    all_goals refine oN ?_
    refine aT ?_
    repeat first | refine rS ?_ | refine rB ?_
    exact finP (.v rfl (Conv.of rfl)) rfl rfl
  refine aW ?_
  all_goals refine aS (aR ?_)
  all_goals refine oC (oM rfl (Conv.of rfl) rfl) ?_
  refine awpOps_callE (ι := Int × List UInt8) [] (fun i => .tup [.v i.1, .v (bs i.2)]) (fun i => []) (fun i => TextOk i.2 ∧ i.2.length ≤ 10000) rfl fb14 (.cons rfl (Conv.of rfl) (.nil _)) (drawLines_ct code) (fun r h' ⟨v, t, e1, e2, e3, e4⟩ => ⟨(v, t), e1, e2, e3, e4⟩) ols0 k0 (argOk' rfl rfl argO0) rfl (fun i => rfl) (fun i => k0) (fun i o ho => by cases ho) ?_
  rintro ⟨bad, text⟩ ⟨ht, hlen⟩
  simp only at ht hlen ⊢
  all_goals refine oC (oM rfl (Conv.of rfl) rfl) ?_
  all_goals refine oC (op_ext rfl rfl rfl) ?_
  all_goals refine oC (op_ext rfl rfl rfl) ?_
  all_goals refine oC (oA rfl (Conv.of rfl) rfl) ?_
  all_goals refine oC (oA rfl (Conv.of rfl) rfl) ?_
  all_goals refine oN ?_
  all_goals refine aS (aR ?_)
  all_goals refine oC (oM rfl (Conv.of rfl) rfl) ?_
  all_goals refine oC (oM rfl (Conv.of rfl) rfl) ?_
  all_goals refine oC (oL fb15 (.cons rfl (Conv.of rfl) (.cons rfl (Conv.of rfl) (.nil _))) (iLinesRun_ct bad text) (aK rfl rfl (aK rfl rfl aK0)) rfl rfl) ?_
  all_goals refine oC (oA rfl (Conv.of rfl) rfl) ?_
  all_goals refine oN ?_
  all_goals refine aS (aS (aR ?_))
  all_goals refine oC (oM rfl (Conv.of rfl) rfl) ?_
  all_goals refine oC (oM rfl (Conv.of rfl) rfl) ?_
  all_goals refine oC (oM rfl (Conv.of rfl) rfl) ?_
  all_goals refine oC (oL fb16 (.cons rfl (Conv.of rfl) (.cons rfl (Conv.of rfl) (.nil _))) (sLinesRun_ct bad text) (aK rfl rfl (aK rfl rfl aK0)) rfl rfl) ?_
  all_goals refine oC (op_neqs rfl rfl rfl) ?_
  all_goals refine oN ?_
  refine aC rfl (fun h => ?_) (fun h => ?_)
  · exact absurd h (ne_self _)
  refine aW ?_
  have hone := lines_one (bad := bad) (text := text)
  have hleast := lines_least (bad := bad) (text := text)
  have hlast := lines_last (bad := bad) (text := text)
  have hbig : (linesF bad text).length ≤ 100000 := lines_len bad text
  generalize linesF bad text = out at hone hleast hlast hbig ⊢
  all_goals refine aS (aR ?_)
  all_goals refine oC (oA rfl (Conv.of rfl) rfl) ?_
  all_goals refine oN ?_
  all_goals refine aS (aS (aR ?_))
  all_goals refine oC (oA rfl (Conv.of rfl) rfl) ?_
  all_goals refine oN ?_
  refine awp_to (s' := mkSt 65 [(3, .v bad), (4, .v (bs text)), (5, .v (bs out)), (6, .v ((nlF out : Nat) : Int))] []) ?_ ?_
  · refine aB ?_
    refine awp_loop' (fun n_ s => ∃ (k : Nat), ∃ (hk : n_ + k = out.length), s = mkSt 65 [(3, .v bad), (4, .v (bs text)), (5, .v (bs out)), (6, .v ((nlF (out.take k) : Nat) : Int)), (7, .v (k : Int))] []) (out.length) ⟨0, by omega, rfl⟩ (Le.mk rfl (tle rfl (rfl) rfl (tle rfl (rfl) rfl (tle rfl (rfl) rfl (tle rfl (by rfl) rfl (tle rfl (rfl) rfl tln))))) oln noS) ?_
    rintro n_ s ⟨k, hk, rfl⟩
    have hnb := nl_le out k
    all_goals refine aS (aS (aR ?_))
    all_goals refine oC (oM rfl (Conv.of rfl) rfl) ?_
    all_goals refine oC (oM rfl (Conv.of rfl) rfl) ?_
    all_goals refine oC (op_lens un9 rfl rfl) ?_
    all_goals refine oC (oLt rfl rfl rfl) ?_
    all_goals refine oN ?_
    refine aC rfl (fun h2 => ?_) (fun h2 => ?_)
    · have hlt : k < out.length := by
        have h0 : (k : Int) < (out.length : Int) := of_decide_eq_true h2
        omega
      have hx : out[k]? = some out[k] := List.getElem?_eq_getElem hlt
      generalize out[k] = b at hx
      have hx' : out[(k : Int).toNat]? = some b := hx
      refine aW ?_
      refine aS (aB ?_)
      all_goals refine aS (aR ?_)
      all_goals refine oC (oM rfl (Conv.of rfl) rfl) ?_
      all_goals refine oC (oM rfl (Conv.of rfl) rfl) ?_
      all_goals refine oC (op_idxs un9 rfl rfl rfl (by omega) hx') ?_
      all_goals refine oC (op_eql8 rfl rfl rfl) ?_
      all_goals refine oN ?_
      refine aC rfl (fun h3 => ?_) (fun h3 => ?_)
      · have hd : (if b = 10 then 1 else 0) = 1 := if_pos (of_decide_eq_true h3)
        all_goals refine aR ?_
        all_goals refine oC (oM rfl (Conv.of rfl) rfl) ?_
        all_goals refine oC (oP rfl rfl rfl (by omega)) ?_
        all_goals refine oC (oA rfl (Conv.of rfl) rfl) ?_
        all_goals refine oN ?_
        all_goals refine aR ?_
        all_goals refine oC (oM rfl (Conv.of rfl) rfl) ?_
        all_goals refine oC (oP rfl rfl rfl (by omega)) ?_
        all_goals refine oC (oA rfl (Conv.of rfl) rfl) ?_
        all_goals refine oN ?_
        repeat first | refine nS ?_ | refine nB ?_
        exact ⟨n_ - 1, _, by omega, ⟨k + 1, by omega, rfl⟩, Le.mk rfl (tle rfl (rfl) rfl (tle rfl (rfl) rfl (tle rfl (rfl) rfl (tle rfl (by (rw [nl_at hx, hd]; rfl)) rfl (tle rfl (rfl) rfl tln))))) oln noS⟩
      · have hd : (if b = 10 then 1 else 0) = 0 := if_neg (of_decide_eq_false h3)
        refine aW ?_
        all_goals refine aR ?_
        all_goals refine oC (oM rfl (Conv.of rfl) rfl) ?_
        all_goals refine oC (oP rfl rfl rfl (by omega)) ?_
        all_goals refine oC (oA rfl (Conv.of rfl) rfl) ?_
        all_goals refine oN ?_
        repeat first | refine nS ?_ | refine nB ?_
        exact ⟨n_ - 1, _, by omega, ⟨k + 1, by omega, rfl⟩, Le.mk rfl (tle rfl (rfl) rfl (tle rfl (rfl) rfl (tle rfl (rfl) rfl (tle rfl (by (rw [nl_at hx, hd]; rfl)) rfl (tle rfl (rfl) rfl tln))))) oln noS⟩
    · refine aE ?_
      repeat refine ex_seq ?_
      refine eB ?_
      have hge : out.length ≤ k := by
        have h0 : ¬ (k : Int) < (out.length : Int) := of_decide_eq_false h2
        omega
      all_goals exact Le.mk rfl (tle rfl (rfl) rfl (tle rfl (rfl) rfl (tle rfl (rfl) rfl (tle rfl (by (rw [take_end hge])) rfl tln)))) oln noS
  refine aS (aST (s' := mkSt 65 [(3, .v bad), (4, .v (bs text)), (5, .v (bs out)), (6, .v ((nlF out : Nat) : Int)), (47, .v (!within bad 0 4 || decide (600 < text.length)))] []) ?_ ?_)
  · all_goals refine aR ?_
    all_goals refine oC (oM rfl (Conv.of rfl) rfl) ?_
    all_goals refine oC (oLt rfl rfl rfl) ?_
    all_goals refine oC (oM rfl (Conv.of rfl) rfl) ?_
    all_goals refine g_split (t := 39) rfl (fun h => ?_) (fun h => ?_)
    all_goals first | refine oC (gF rfl rfl rfl rfl rfl) ?_ | refine oC (gN rfl rfl rfl (oM rfl (Conv.of rfl) rfl)) ?_
    all_goals first | refine oC (gF rfl rfl rfl rfl rfl) ?_ | refine oC (gN rfl rfl rfl (op_gtr rfl rfl rfl)) ?_
    all_goals refine oC (oQ rfl rfl rfl rfl) ?_
    all_goals refine oC (oM rfl (Conv.of rfl) rfl) ?_
    all_goals first | refine g_lit (t := 43) (b := true) rfl ?_ | refine g_split (t := 43) rfl (fun h => ?_) (fun h => ?_)
    all_goals first | refine oC (gF rfl rfl rfl rfl rfl) ?_ | refine oC (gN rfl rfl rfl (oM rfl (Conv.of rfl) rfl)) ?_
    all_goals first | refine oC (gF rfl rfl rfl rfl rfl) ?_ | refine oC (gN rfl rfl rfl (op_lens un9 rfl rfl)) ?_
    all_goals first | refine oC (gF rfl rfl rfl rfl rfl) ?_ | refine oC (gN rfl rfl rfl (op_gtr rfl rfl rfl)) ?_
    all_goals refine oC (oQ rfl rfl rfl rfl) ?_
    all_goals refine oN ?_
    all_goals exact Le.mk rfl (tle rfl (rfl) rfl (tle rfl (rfl) rfl (tle rfl (rfl) rfl (tle rfl (rfl) rfl (tle rfl (by (show AV.v _ = AV.v _; simp_all [within]; try omega)) rfl tln))))) oln noS
  refine aC rfl (fun h => ?_) (fun h => ?_)
  · have h1 := hone (by
      simp only [Bool.or_eq_true, Bool.not_eq_true', decide_eq_true_eq] at h
      exact h)
    all_goals refine aS (aR ?_)
    all_goals refine oC (oM rfl (Conv.of rfl) rfl) ?_
    all_goals refine oC (op_eql rfl rfl rfl) ?_
    all_goals refine oC (oA rfl (Conv.of rfl) rfl) ?_
    all_goals refine oN ?_
    refine aT ?_
    repeat first | refine rS ?_ | refine rB ?_
    exact finP (.v rfl (Conv.of rfl)) rfl (by show AV.v _ = AV.v _; rw [h1]; rfl)
  have hb : within bad 0 4 = true ∧ text.length ≤ 600 := by
    simp only [Bool.or_eq_false_iff, Bool.not_eq_false', decide_eq_false_iff_not] at h
    exact ⟨h.1, by omega⟩
  obtain ⟨m, rfl⟩ := hlast hb.1 hb.2
  have hls := hleast hb.1 hb.2
  have hbm : 0 ≤ bad ∧ bad ≤ 4 := by simpa [within] using hb.1
  have hxl : (m ++ [10])[(((m ++ [10]).length : Int) - 1).toNat]? = some (10 : UInt8) := by
    have : (((m ++ [10]).length : Int) - 1).toNat = m.length := by simp
    rw [this]; simp
  have hml : (m ++ [10]).length = m.length + 1 := by simp
  refine aW ?_
  all_goals refine aS (aR ?_)
  all_goals refine oC (oA rfl (Conv.of rfl) rfl) ?_
  all_goals refine oN ?_
  all_goals refine aS (aS (aR ?_))
  all_goals refine oC (oM rfl (Conv.of rfl) rfl) ?_
  all_goals refine oC (op_gtr rfl rfl rfl) ?_
  all_goals refine oN ?_
  refine aC rfl (fun h5 => ?_) (fun h5 => ?_)
  · have hp : 0 < bad := of_decide_eq_true h5
    rw [if_pos hp] at hls
    all_goals refine aR ?_
    all_goals refine oC (oM rfl (Conv.of rfl) rfl) ?_
    all_goals refine oC (op_sub rfl rfl rfl (by decide)) ?_
    all_goals refine oC (oA rfl (Conv.of rfl) rfl) ?_
    all_goals refine oN ?_
    all_goals refine aS (aR ?_)
    all_goals refine oC (oM rfl (Conv.of rfl) rfl) ?_
    all_goals refine oC (oM rfl (Conv.of rfl) rfl) ?_
    all_goals refine oC (op_geq rfl rfl rfl) ?_
    all_goals refine oC (oM rfl (Conv.of rfl) rfl) ?_
    all_goals refine g_split (t := 57) rfl (fun h => ?_) (fun h => ?_)
    all_goals first | refine oC (gF rfl rfl rfl rfl rfl) ?_ | refine oC (gN rfl rfl rfl (oM rfl (Conv.of rfl) rfl)) ?_
    all_goals first | refine oC (gF rfl rfl rfl rfl rfl) ?_ | refine oC (gN rfl rfl rfl (oM rfl (Conv.of rfl) rfl)) ?_
    all_goals first | refine oC (gF rfl rfl rfl rfl rfl) ?_ | refine oC (gN rfl rfl rfl (op_lens un9 rfl rfl)) ?_
    all_goals first | refine oC (gF rfl rfl rfl rfl rfl) ?_ | refine oC (gN rfl rfl rfl (op_sub rfl rfl rfl (by omega))) ?_
    all_goals first | refine oC (gF rfl rfl rfl rfl rfl) ?_ | refine oC (gN rfl rfl rfl (op_idxs un9 rfl rfl rfl (by omega) hxl)) ?_
    all_goals first | refine oC (gF rfl rfl rfl rfl rfl) ?_ | refine oC (gN rfl rfl rfl (op_eql8 rfl rfl rfl)) ?_
    all_goals refine oC (oQ rfl rfl rfl rfl) ?_
    all_goals refine oC (oA rfl (Conv.of rfl) rfl) ?_
    all_goals refine oN ?_
    · refine aT ?_
      repeat first | refine rS ?_ | refine rB ?_
      exact finP (.v rfl (Conv.of rfl)) rfl rfl
    · exfalso
      have h0 := of_decide_eq_false (by assumption)
      omega
  · have hp : ¬ 0 < bad := of_decide_eq_false h5
    rw [if_neg hp] at hls
    refine aW ?_
    all_goals refine aS (aR ?_)
    all_goals refine oC (oM rfl (Conv.of rfl) rfl) ?_
    all_goals refine oC (oM rfl (Conv.of rfl) rfl) ?_
    all_goals refine oC (op_geq rfl rfl rfl) ?_
    all_goals refine oC (oM rfl (Conv.of rfl) rfl) ?_
    all_goals refine g_split (t := 57) rfl (fun h => ?_) (fun h => ?_)
    all_goals first | refine oC (gF rfl rfl rfl rfl rfl) ?_ | refine oC (gN rfl rfl rfl (oM rfl (Conv.of rfl) rfl)) ?_
    all_goals first | refine oC (gF rfl rfl rfl rfl rfl) ?_ | refine oC (gN rfl rfl rfl (oM rfl (Conv.of rfl) rfl)) ?_
    all_goals first | refine oC (gF rfl rfl rfl rfl rfl) ?_ | refine oC (gN rfl rfl rfl (op_lens un9 rfl rfl)) ?_
    all_goals first | refine oC (gF rfl rfl rfl rfl rfl) ?_ | refine oC (gN rfl rfl rfl (op_sub rfl rfl rfl (by omega))) ?_
    all_goals first | refine oC (gF rfl rfl rfl rfl rfl) ?_ | refine oC (gN rfl rfl rfl (op_idxs un9 rfl rfl rfl (by omega) hxl)) ?_
    all_goals first | refine oC (gF rfl rfl rfl rfl rfl) ?_ | refine oC (gN rfl rfl rfl (op_eql8 rfl rfl rfl)) ?_
    all_goals refine oC (oQ rfl rfl rfl rfl) ?_
    all_goals refine oC (oA rfl (Conv.of rfl) rfl) ?_
    all_goals refine oN ?_
    · refine aT ?_
      repeat first | refine rS ?_ | refine rB ?_
      exact finP (.v rfl (Conv.of rfl)) rfl rfl
    · exfalso
      have h0 := of_decide_eq_false (by assumption)
      omega
end Go.Proofs.YtgfoeiieopnlaaaGreatDoor

/- The law FnLinesRun returns true at every input, and leaves its arguments as they were; the listed tables of the library are tied to the text. No other condition. -/
set_option linter.unusedVariables false
namespace Go.Proofs.YtgfoeiieopnlaaaGreatDoor.fnLinesRun
open Go Go.ChangeShapes Go.WideShapes Go.ChangeAt Go.RowKit
theorem own : ownKnob Tryz.prog.godebug = none := by kernel_rfl
theorem laidOut : laidOutB Tryz.prog = true := by kernel_rfl
set_option maxRecDepth 100000 in
theorem lifted (os : Os) (started : os.Started) (H : Type) (enc : TypeId × Value → H) :
    ReturnsInHanded {} Tryz.checked os 13 .any (fun w args => (Rows.fnLinesRunSpec.pre enc Tryz.prog Tryz.f13 Rows.fnLinesRunRow.domain false w args ∧ laidMetH Tryz.prog Rows.fnLinesRunRow.laid w) ∧ sizedMet enc Tryz.prog Tryz.f13 (OpenSpec.ofChange Rows.fnLinesRunSpec) false w args) (Rows.fnLinesRunSpec.post enc Tryz.prog Tryz.f13 false true false false) := by
  refine returnsInHanded_of_change_and (C := Tryz.checked) (X := fun w _ => laidMetH Tryz.prog Rows.fnLinesRunRow.laid w) (fun _ _ _ hh h => h.of_heap hh) own started (by kernel_rfl) Tryz.func13
    (ChangeSpec.witness_shaped (enc := enc) (C := Tryz.checked) (os := os) (X := fun w _ => laidMetH Tryz.prog Rows.fnLinesRunRow.laid w) false (World.laidAll Tryz.prog os Rows.fnLinesRunRow.laid) #[.slice none 0 0] 8 (World.laidAll_os _ _ _)
      (World.shaped_of_ZipB (by kernel_rfl) (by kernel_rfl)) (by kernel_rfl) (by kernel_rfl) (by kernel_rfl)
      (by rw [MakeChecks.laidMetH_plain _ _ _ (by kernel_rfl)]; exact laidMet_laidAll _ (by kernel_rfl) (by kernel_rfl))) ?_
  intro W base args ds gs before hval0 hW hcnd hsz0 hL _
  have hsz : (DataW.weightsEach Tryz.prog (Tryz.f13.params.toList ++ Rows.fnLinesRunSpec.plain.varTypes Tryz.prog) (ds ++ gs)).all (· ≤ reachBytes) = true := hsz0
  have hval : ∀ (j : Nat) t v, Tryz.f13.params[j]? = some t → args[j]? = some v → Value.okWide Tryz.prog W .any base t v := hval0
  have hW' := hW
  obtain ⟨p, q, hA0, hV, rfl, hfz, hnd⟩ := hW
  have hA : DataW.TrodAll enc Tryz.prog W 0 (fun _ => true) true Tryz.f13.params.toList args.toList ds p := hA0
  rw [Tryz.params13] at hA hval hsz
  obtain ⟨v0, vs0, d0, ds0, p0, q0, hargs, rfl, rfl, h0, r0⟩ := trodAll_cons hA
  obtain ⟨rfl, rfl, rfl⟩ := trodAll_nil r0
  obtain rfl : args = #[v0] := by cases args; simp_all
  obtain ⟨rfl, rfl⟩ := trodVars_none hV
  obtain ⟨a0, len0, cap0, rfl⟩ := okWide_slice Tryz.underlying22 (hval 0 22 v0 rfl rfl)
  have k0 := h0
  have lt0 : ∀ x ∈ p0, x.block < W.heap.size := by obtain ⟨m, hm⟩ := k0; exact DataW.trod_lt m _ _ _ hm
  obtain ⟨z0, w0⟩ := Go.Wt.rowOf (fun _ => rfl) Tryz.underlying22 Tryz.underlying5 (by kernel_rfl) h0
  have y0 := Go.Wt.lenOf hsz (j := 0) (t := 22) rfl rfl Tryz.underlying22 Tryz.underlying5 (by kernel_rfl) (by kernel_rfl) h0
  clear hA0 hval0 hsz0 hsz
  refine (Go.Wt.row1 FnLinesRun_ct W w0 y0).mono fun e W' ⟨he, bel⟩ => ?_
  subst he
  exact ⟨_, rfl, _, _, _, [], _, [], hW', trodAll_mk1 (shut_bool Tryz.underlying4 _), (trodAll_cons_mk (Below.trod laidOut (by kernel_rfl) (of_decide_eq_true (by kernel_rfl)) k0 bel lt0) trodAll_mk0), rfl, bel.frame _, fun h => by cases h⟩
theorem over : Rows.fnLinesRunRow.holds Tryz.pinned (OpenSpec.ofChange Rows.fnLinesRunSpec) :=
  OpenClaim.holds_of_wide 13 Tryz.f13 rfl rfl rfl rfl rfl rfl rfl ⟨rfl, rfl, rfl, rfl, rfl⟩ rfl rfl rfl rfl rfl (by kernel_rfl) Tryz.func13 (by kernel_rfl)
    (of_decide_eq_true (by kernel_rfl)) (by unfold Func.isWrapper; first | (rw [if_pos (by decide +kernel)]; kernel_rfl) | (rw [if_neg (by decide +kernel)]; exact ⟨rfl, rfl⟩))
    (fun os started H enc _ => lifted os started H enc)
theorem carded : Claim7.holds Tryz.pinned (.plain (OpenSpec.ofChange Rows.fnLinesRunSpec)) Rows.fnLinesRunCard :=
  Claim7.holds_tied_plain_at .later [] [.data, .data, .data, .data, .pinned] true (true, "3caafbc682674527d5246ae05796ab03dc03f22812cf3ed62f1f6f8091b60743") false over (fun _ h => by cases h) (by kernel_rfl) (fun _ h => by cases h) fnLinesRun_row_tie rfl ⟨rfl, rfl⟩ (by kernel_rfl) rfl
    (fun f fn hf hfn => by
      obtain rfl : f = 13 := Option.some.inj ((show Tryz.prog.funcNamed "loop.example/witan/laws.FnLinesRun" = some 13 by kernel_rfl).symm.trans hf) |>.symm
      obtain rfl : fn = Tryz.f13 := (Option.some.inj (Tryz.func13.symm.trans hfn)).symm
      exact ⟨by kernel_rfl, fun j t ht => by
        rw [Tryz.params13] at ht
        have hm : t ∈ [22] := by simpa using Array.mem_of_getElem? ht
        have hall : ([22].all fun u => !Tryz.prog.wantsStandIn u) = true := by kernel_rfl
        exact (show Tryz.prog.wantsStandIn t = false by simpa using List.all_eq_true.1 hall t hm)⟩)
    (by kernel_rfl)
end Go.Proofs.YtgfoeiieopnlaaaGreatDoor.fnLinesRun
namespace Go.Proofs.YtgfoeiieopnlaaaGreatDoor
theorem fnLinesRun_holds : Rows.FnLinesRunCardSaid := fnLinesRun.carded
#print axioms fnLinesRun_holds
end Go.Proofs.YtgfoeiieopnlaaaGreatDoor
