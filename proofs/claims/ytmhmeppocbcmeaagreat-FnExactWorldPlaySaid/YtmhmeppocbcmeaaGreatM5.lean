/- Part 5 of the proof: texts one behind the other. -/
import Derived.Test.YtmhmeppocbcmeaaGreatM4
import Derived.Lib.Walk
import Derived.WalkKit
import Derived.Laws.IdiomCopy
import Derived.IntWalk
/- Plays, as both have them. -/
set_option linter.unusedVariables false
set_option linter.unusedSimpArgs false
namespace Go.Proofs.YtmhmeppocbcmeaaGreat
open Go Go.Wt
/-- A play, with its answer. -/
def playR (bad : Int) (evs : List Evt) : Wrld × Bool := if within bad 0 4 && decide (evs.length ≤ 70) then (playF bad evs, true) else (Wrld.zero, false)
theorem rd_zA {G : Gh} {w : Go.World} {ω : Owner} {cs : List Value} (h : Enc.rd G w ω WrldA.zero cs) : Enc.rd G w ω Wrld.zero cs := by
  obtain ⟨c1, c2, rfl, r1, ⟨c3, c4, rfl, r3, r4⟩⟩ := h
  exact ⟨c1, _, rfl, r1, c3, _, rfl, ⟨none, 0, r3, Nat.le_refl _, .inl rfl⟩, r4⟩
theorem rd_zS {G : Gh} {w : Go.World} {ω : Owner} {cs : List Value} (h : Enc.rd G w ω WrldS.zero cs) : Enc.rd G w ω Wrld.zero cs := by
  obtain ⟨c1, c2, rfl, r1, ⟨c3, c4, rfl, r3, ⟨c5, c6, rfl, ⟨a, cap, h1, h2, h3, h4⟩, r6⟩⟩⟩ := h
  exact ⟨c1, _, rfl, r1, c3, _, rfl, ⟨none, 0, r3, Nat.le_refl _, .inl rfl⟩, c5, c6, rfl, ⟨a, cap, h1, h2, h3⟩, r6⟩
theorem tup_zA {G : Gh} {w : Go.World} {ω : Owner} {u : Value} {b : Bool} (h : RelV G w ω (.tup [.v WrldA.zero, .v b]) u) : RelV G w ω (.tup [.v Wrld.zero, .v b]) u := by
  obtain ⟨us, e0, u1, r1, e1, ⟨cs, h1, h2⟩, h3⟩ := h
  exact ⟨us, e0, u1, r1, e1, ⟨cs, rd_zA h1, h2⟩, h3⟩
theorem tup_zS {G : Gh} {w : Go.World} {ω : Owner} {u : Value} {b : Bool} (h : RelV G w ω (.tup [.v WrldS.zero, .v b]) u) : RelV G w ω (.tup [.v Wrld.zero, .v b]) u := by
  obtain ⟨us, e0, u1, r1, e1, ⟨cs, h1, h2⟩, h3⟩ := h
  exact ⟨us, e0, u1, r1, e1, ⟨cs, rd_zS h1, h2⟩, h3⟩
theorem big4 {w : Wrld} (h : w.nodes.length = 4) : w.nodes.length ≤ big := by rw [h]; decide
theorem play4 (bad : Int) (evs : List Evt) : (playF bad evs).nodes.length = 4 := (foldl_ok evs (newW_ok bad)).four
theorem iPlay_ct (bad : Int) (evs : List Evt) : CtP Tryz.prog 17 [.v bad, .v evs] (.tup [.v (playR bad evs).1, .v (playR bad evs).2]) := by
  unfold playR
  cases hb : within bad 0 4 with
  | false => exact Ct.res (playBad_ct bad evs hb) fun G w u h => tup_zA h
  | true =>
    by_cases hl : evs.length ≤ 70
    · simp only [hl, decide_true, Bool.and_self, if_true]
      exact Ct.frz (playA_ct bad evs hb hl) (frz_ok (big4 (play4 bad evs)))
    · simp only [hl, decide_false, Bool.and_false]
      exact Ct.res (playLong_ct bad evs hb (by omega)) fun G w u h => tup_zA h
theorem sWorldNewBad_ct (bad : Int) (hb : within bad 0 4 = false) : CtP Tryz.prog 62 [.v bad] (.tup [.v WrldS.zero, .v false]) := by
  refine Ct.intro Tryz.func62 rfl rfl ?_
  refine aS (aR ?_)
  refine oC (oX (o := 5) z26_WrldS rfl rfl) ?_
  refine oC (oA rfl (Conv.of rfl) rfl) ?_
  refine oN ?_
  refine aS (aS (aR ?_))
  refine oC (oM rfl (Conv.of rfl) rfl) ?_
  refine oC (oL fb50 (.cons rfl (Conv.of rfl) (.cons rfl (Conv.of rfl) (.cons rfl (Conv.of rfl) (.nil _)))) (l6In_ct _ _ _) (aK rfl rfl (aK rfl rfl (aK rfl rfl aK0))) rfl rfl) ?_
  refine oC (op_not rfl rfl) ?_
  refine oN ?_
  refine aC rfl (fun h => ?_) (fun h => absurd (not_f h) (by rw [hb]; decide))
  refine aS (aR ?_)
  refine oC (op_build (.nil _) z26_WrldS rfl pl26 rfl) ?_
  refine oC (op_stm ty26_WrldS rfl rfl rfl) ?_
  refine oC (oA rfl (Conv.of rfl) rfl) ?_
  refine oN ?_
  refine aT ?_
  repeat first | refine rS ?_ | refine rB ?_
  exact ⟨_, _, rNM (ol := []) (.cell ty26_WrldS rfl rfl (.keep (.v rfl (Conv.of rfl)) (.nil _))) rfl (fun o ho => absurd (show o ∈ ([] : List Nat) from ho) (by simp)) oln noS, rfl, rfl⟩
theorem sPlayBad_ct (bad : Int) (evs : List Evt) (hb : within bad 0 4 = false) : CtP Tryz.prog 15 [.v bad, .v evs] (.tup [.v WrldS.zero, .v false]) := by
  refine Ct.intro Tryz.func15 rfl rfl ?_
  all_goals refine aS (aR ?_)
  all_goals refine oC (oX (o := 5) z26_WrldS rfl rfl) ?_
  all_goals refine oC (oA rfl (Conv.of rfl) rfl) ?_
  all_goals refine oN ?_
  all_goals refine aS (aR ?_)
  all_goals refine oC (oM rfl (Conv.of rfl) rfl) ?_
  all_goals refine oC (oL fb62 (.cons rfl (Conv.of rfl) (.nil _)) (sWorldNewBad_ct bad hb) (aK rfl rfl aK0) rfl rfl) ?_
  all_goals refine oC (op_mvo rfl rfl rfl rfl) ?_
  all_goals refine oC (op_extm rfl rfl rfl rfl) ?_
  all_goals refine oC (op_ext rfl rfl rfl) ?_
  all_goals refine oC (oX (o := 0) z26_WrldS rfl rfl) ?_
  all_goals refine oC (op_stm ty26_WrldS rfl rfl rfl) ?_
  all_goals refine oC (oA rfl (Conv.of rfl) rfl) ?_
  all_goals refine oN ?_
  all_goals refine aS (aS (aR ?_))
  all_goals refine oC (oM rfl (Conv.of rfl) rfl) ?_
  all_goals refine oC (op_not rfl rfl) ?_
  all_goals refine oC (oM rfl (Conv.of rfl) rfl) ?_
  all_goals refine g_lit (t := 16) (b := true) rfl ?_
  all_goals refine oC (gF rfl rfl rfl rfl rfl) ?_
  all_goals refine oC (gF rfl rfl rfl rfl rfl) ?_
  all_goals refine oC (gF rfl rfl rfl rfl rfl) ?_
  all_goals refine oC (oQ rfl rfl rfl rfl) ?_
  all_goals refine oN ?_
  refine aC rfl (fun h => ?_) (fun h => absurd h (by decide))
  all_goals refine aS (aR ?_)
  all_goals refine oC (op_build (.nil _) z26_WrldS rfl pl26 rfl) ?_
  all_goals refine oC (op_stm ty26_WrldS rfl rfl rfl) ?_
  all_goals refine oC (oA rfl (Conv.of rfl) rfl) ?_
  all_goals refine oN ?_
  refine aT ?_
  repeat first | refine rS ?_ | refine rB ?_
  exact ⟨_, _, rNM (ol := []) (.cell ty26_WrldS rfl rfl (.keep (.v rfl (Conv.of rfl)) (.nil _))) rfl (fun o ho => absurd (show o ∈ ([] : List Nat) from ho) (by simp)) oln noS, rfl, rfl⟩
theorem sPlayLong_ct (bad : Int) (evs : List Evt) (hb : within bad 0 4 = true) (hl : 70 < evs.length) : CtP Tryz.prog 15 [.v bad, .v evs] (.tup [.v WrldS.zero, .v false]) := by
  refine Ct.intro Tryz.func15 rfl rfl ?_
  all_goals refine aS (aR ?_)
  all_goals refine oC (oX (o := 5) z26_WrldS rfl rfl) ?_
  all_goals refine oC (oA rfl (Conv.of rfl) rfl) ?_
  all_goals refine oN ?_
  all_goals refine aS (aR ?_)
  all_goals refine oC (oM rfl (Conv.of rfl) rfl) ?_
  refine awpOps_callO [] rfl fb62 (.cons rfl (Conv.of rfl) (.nil _)) (sWorldNew_w bad hb) ols0 k0 (argOk' rfl rfl argO0) rfl ?_
  rintro r h' ⟨rfl, rfl⟩
  refine ⟨so (newW bad), rfl, (fun o ho => by cases ho), fun o ho _ => ?_, kK bN k0, fun o ho => ?_, ?_⟩
  · have : o = 1 := by simpa [keys, lk0] using ho
    subst this; rfl
  · have : o = 1 := by simpa using (show o ∈ [1] from ho)
    subst this; rfl
  all_goals refine oC (op_mvo rfl rfl rfl rfl) ?_
  all_goals refine oC (op_extm rfl rfl rfl rfl) ?_
  all_goals refine oC (op_ext rfl rfl rfl) ?_
  all_goals refine oC (oX (o := 0) z26_WrldS rfl rfl) ?_
  all_goals refine oC (op_stm ty26_WrldS rfl rfl rfl) ?_
  all_goals refine oC (oA rfl (Conv.of rfl) rfl) ?_
  all_goals refine oN ?_
  all_goals refine aS (aS (aR ?_))
  all_goals refine oC (oM rfl (Conv.of rfl) rfl) ?_
  all_goals refine oC (op_not rfl rfl) ?_
  all_goals refine oC (oM rfl (Conv.of rfl) rfl) ?_
  all_goals refine g_lit (t := 16) (b := false) rfl ?_
  all_goals refine oC (gN rfl rfl rfl (oM rfl (Conv.of rfl) rfl)) ?_
  all_goals refine oC (gN rfl rfl rfl (oE sl45 rfl rfl)) ?_
  all_goals refine oC (gN rfl rfl rfl (op_gtr rfl rfl rfl)) ?_
  all_goals refine oC (oQ rfl rfl rfl rfl) ?_
  all_goals refine oN ?_
  refine aC rfl (fun h => ?_) (fun h => ?_)
  · all_goals refine aS (aR ?_)
    all_goals refine oC (op_build (.nil _) z26_WrldS rfl pl26 rfl) ?_
    all_goals refine oC (op_stm ty26_WrldS rfl rfl rfl) ?_
    all_goals refine oC (oA rfl (Conv.of rfl) rfl) ?_
    all_goals refine oN ?_
    refine aT ?_
    repeat first | refine rS ?_ | refine rB ?_
    exact ⟨_, _, rNM (ol := []) (.cell ty26_WrldS rfl rfl (.keep (.v rfl (Conv.of rfl)) (.nil _))) rfl (fun o ho => absurd (show o ∈ ([] : List Nat) from ho) (by simp)) oln noS, rfl, rfl⟩
  · exfalso
    simp at h
    omega
theorem sPlayR_ct (bad : Int) (evs : List Evt) : CtP Tryz.prog 15 [.v bad, .v evs] (.tup [.v (playR bad evs).1, .v (playR bad evs).2]) := by
  unfold playR
  cases hb : within bad 0 4 with
  | false => exact Ct.res (sPlayBad_ct bad evs hb) fun G w u h => tup_zS h
  | true =>
    by_cases hl : evs.length ≤ 70
    · simp only [hl, decide_true, Bool.and_self, if_true]
      exact sPlay_ct bad evs hb hl
    · simp only [hl, decide_false, Bool.and_false]
      exact Ct.res (sPlayLong_ct bad evs hb (by omega)) fun G w u h => tup_zS h
end Go.Proofs.YtmhmeppocbcmeaaGreat

/- The program's words for outsiders. -/
set_option linter.unusedVariables false
set_option linter.unusedSimpArgs false
namespace Go.Proofs.YtmhmeppocbcmeaaGreat
open Go Go.Wt
end Go.Proofs.YtmhmeppocbcmeaaGreat

/- Worlds in form; what happens in a world, for outsiders. -/
set_option linter.unusedVariables false
set_option linter.unusedSimpArgs false
namespace Go.Proofs.YtmhmeppocbcmeaaGreat
open Go Go.Wt
theorem shown_w_ct (v : Vote) (hO : Nat → Wt.Obj) (w : Wrld) (ho : hO 0 = .cell w) (hf : hO 9 = .free) (hH : ∀ o, obOk (pH hO) (hO o)) :
    Ct Tryz.prog 46 [.box 0 (IsLens.whole Wrld), .v v] hO (fun r1 h1 => r1 = .v (shownB w v) ∧ h1 = hO) := by
  refine Ct.intro Tryz.func46 rfl rfl ?_
  all_goals refine aS (aR ?_)
  all_goals refine oC (op_box (o := 9) ty38 rfl (Conv.of rfl) hf rfl) ?_
  all_goals refine oC (oA rfl (Conv.of rfl) rfl) ?_
  all_goals refine oN ?_
  all_goals refine aS (dS ?_)
  all_goals refine dC (oF f38_0 rfl rfl) ?_
  all_goals refine dC (oD ty3 rfl rfl rfl) ?_
  all_goals refine dC (oM rfl (Conv.of rfl) rfl) ?_
  all_goals refine dC (oNB rfl rfl) ?_
  all_goals refine dC (oF f26_3 rfl rfl) ?_
  all_goals refine dC (oD ty3 rfl ho rfl) ?_
  all_goals refine dC (op_eql rfl rfl rfl) ?_
  all_goals refine dC (oM rfl (Conv.of rfl) rfl) ?_
  all_goals refine dr_split (t := 12) rfl (fun h => ?_) (fun h => ?_)
  all_goals first | refine dC (gF rfl rfl rfl rfl rfl) ?_ | refine dC (gN rfl rfl rfl (oM rfl (Conv.of rfl) rfl)) ?_
  all_goals first | refine dC (gF rfl rfl rfl rfl rfl) ?_ | refine dC (gN rfl rfl rfl (oNB rfl rfl)) ?_
  all_goals first | refine dC (gF rfl rfl rfl rfl rfl) ?_ | refine dC (gN rfl rfl rfl (oF f26_2 rfl rfl)) ?_
  all_goals first | refine dC (gF rfl rfl rfl rfl rfl) ?_ | refine dC (gN rfl rfl rfl (oD ty24 rfl ho rfl)) ?_
  all_goals first | refine dC (gF rfl rfl rfl rfl rfl) ?_ | refine dC (gN rfl rfl rfl (oD ty38 rfl rfl rfl)) ?_
  all_goals first | refine dC (gF rfl rfl rfl rfl rfl) ?_ | refine dC (gN rfl rfl rfl (oL fb103 (.cons rfl (Conv.of rfl) (.cons rfl (Conv.of rfl) (.nil _))) (has_ct _ _) (aK rfl rfl (aK rfl rfl aK0)) rfl rfl)) ?_
  all_goals refine dC (oQ rfl rfl rfl rfl) ?_
  all_goals refine dC (oA rfl (Conv.of rfl) rfl) ?_
  all_goals refine dr_nil mixed rfl ?_
  all_goals refine aT ?_
  all_goals refine finF (.v rfl (Conv.of rfl)) rfl ?_ (by intro o ho; by_cases e : o = 9 <;> first | (exfalso; subst e; rw [hf] at ho; exact absurd ho (by decide)) | simp only [st0, St.upd, lk, orr, if_neg e]) hH
  all_goals (simp_all [FV.av, shownB])
theorem okFn_ct (v : Vote) (hO : Nat → Wt.Obj) (w : Wrld) (ho : hO 0 = .cell w) (hf : hO 8 = .free) (hf9 : hO 9 = .free) (hH : ∀ o, obOk (pH hO) (hO o)) :
    Ct Tryz.prog 101 [.v v, .box 0 (IsLens.whole Wrld)] hO (fun r1 h1 => r1 = .v (!shownB w v) ∧ h1 = hO) := by
  refine Ct.intro Tryz.func101 rfl rfl ?_
  refine aS (aR ?_)
  refine oC (op_box (o := 8) ty38 rfl (Conv.of rfl) hf rfl) ?_
  refine oC (oA rfl (Conv.of rfl) rfl) ?_
  refine oN ?_
  have hH' : ∀ o, obOk (pH (fun o => orr (lk [(8, Wt.Obj.cell v)] o) (hO o))) (orr (lk [(8, Wt.Obj.cell v)] o) (hO o)) := fun o => by
    by_cases e : o = 8
    · subst e; exact plain_refs _
    · have := hH o
      simp only [lk, if_neg e, orr]
      cases hx : hO o with
      | free => trivial
      | dead => trivial
      | cell x =>
        rw [hx] at this
        intro o' h'
        have h2 := this o' h'
        unfold pH at h2 ⊢
        by_cases e' : o' = 8
        · subst e'; rfl
        · simpa [lk, e', orr] using h2
      | arr xs =>
        rw [hx] at this
        intro x hx' o' h'
        have h2 := this x hx' o' h'
        unfold pH at h2 ⊢
        by_cases e' : o' = 8
        · subst e'; rfl
        · simpa [lk, e', orr] using h2
  refine aS (aR ?_)
  refine oC (oD ty38 rfl rfl rfl) ?_
  refine awpOps_callH (h := fun o => orr (lk [(8, Wt.Obj.cell v)] o) (hO o)) rfl (fb46) (.cons rfl (Conv.of rfl) (.cons rfl (Conv.of rfl) (.nil _))) rfl (shown_w_ct v _ w (by simpa [lk, orr] using ho) (by simpa [lk, orr] using hf9) hH') (Hand.none (Hand.l1 ⟨rfl, fun o ho' => by simp [AV.refs] at ho'; subst ho'; simp [pH, lk, orr, ho, isFree]⟩ (Hand.l1 (Hand.of rfl rfl) Hand.l0))) hH' rfl rfl ?_
  refine oC (op_not rfl rfl) ?_
  refine oC (oA rfl (Conv.of rfl) rfl) ?_
  refine oN ?_
  refine aT ?_
  refine finF (.v rfl (Conv.of rfl)) rfl rfl (by intro o ho'; by_cases e : o = 8 <;> first | (exfalso; subst e; rw [hf] at ho'; exact absurd ho' (by decide)) | simp only [st0, St.upd, lk, orr, if_neg e]) hH
set_option maxHeartbeats 2000000 in
theorem worldOk_ct (w : Wrld) : CtP Tryz.prog 43 [.v w] (.v (worldOk w)) := by
  refine Ct.intro Tryz.func43 rfl rfl ?_
  all_goals refine aS (aR ?_)
  all_goals refine oC (op_box (o := 0) ty26 rfl (Conv.of rfl) rfl rfl) ?_
  all_goals refine oC (oA rfl (Conv.of rfl) rfl) ?_
  all_goals refine oN ?_
  refine aS (aST (s' := mkSt 63 [(1, .box 0 (IsLens.whole Wrld)), (32, .v (!worldOk0 w))] [(0, .cell w)]) ?_ ?_)
  · all_goals refine aR ?_
    all_goals refine oC (oF f26_0 rfl rfl) ?_
    all_goals refine oC (oD ty3 rfl rfl rfl) ?_
    all_goals refine oC (oL fb98 (.cons rfl (Conv.of rfl) (.cons rfl (Conv.of rfl) (.cons rfl (Conv.of rfl) (.nil _)))) (within_ct _ _ _) (aK rfl rfl (aK rfl rfl (aK rfl rfl aK0))) rfl rfl) ?_
    all_goals refine oC (op_not rfl rfl) ?_
    all_goals refine oC (oM rfl (Conv.of rfl) rfl) ?_
    all_goals refine g_split (t := 9) rfl (fun h => ?_) (fun h => ?_)
    all_goals first | refine oC (gF rfl rfl rfl rfl rfl) ?_ | refine oC (gN rfl rfl rfl (oF f26_3 rfl rfl)) ?_
    all_goals first | refine oC (gF rfl rfl rfl rfl rfl) ?_ | refine oC (gN rfl rfl rfl (oD ty3 rfl rfl rfl)) ?_
    all_goals first | refine oC (gF rfl rfl rfl rfl rfl) ?_ | refine oC (gN rfl rfl rfl (oL fb98 (.cons rfl (Conv.of rfl) (.cons rfl (Conv.of rfl) (.cons rfl (Conv.of rfl) (.nil _)))) (within_ct _ _ _) (aK rfl rfl (aK rfl rfl (aK rfl rfl aK0))) rfl rfl)) ?_
    all_goals first | refine oC (gF rfl rfl rfl rfl rfl) ?_ | refine oC (gN rfl rfl rfl (op_not rfl rfl)) ?_
    all_goals refine oC (oQ rfl rfl rfl rfl) ?_
    all_goals refine oC (oM rfl (Conv.of rfl) rfl) ?_
    all_goals first | refine g_lit (t := 15) (b := true) rfl ?_ | refine g_split (t := 15) rfl (fun h => ?_) (fun h => ?_)
    all_goals first | refine oC (gF rfl rfl rfl rfl rfl) ?_ | refine oC (gN rfl rfl rfl (oF f26_1 rfl rfl)) ?_
    all_goals first | refine oC (gF rfl rfl rfl rfl rfl) ?_ | refine oC (gN rfl rfl rfl (oD ty23 rfl rfl rfl)) ?_
    all_goals first | refine oC (gF rfl rfl rfl rfl rfl) ?_ | refine oC (gN rfl rfl rfl (oE sl23 rfl rfl)) ?_
    all_goals first | refine oC (gF rfl rfl rfl rfl rfl) ?_ | refine oC (gN rfl rfl rfl (op_neq rfl rfl rfl)) ?_
    all_goals refine oC (oQ rfl rfl rfl rfl) ?_
    all_goals refine oC (oM rfl (Conv.of rfl) rfl) ?_
    all_goals first | refine g_lit (t := 21) (b := true) rfl ?_ | refine g_split (t := 21) rfl (fun h => ?_) (fun h => ?_)
    all_goals first | refine oC (gF rfl rfl rfl rfl rfl) ?_ | refine oC (gN rfl rfl rfl (oF f26_2 rfl rfl)) ?_
    all_goals first | refine oC (gF rfl rfl rfl rfl rfl) ?_ | refine oC (gN rfl rfl rfl (oD ty24 rfl rfl rfl)) ?_
    all_goals first | refine oC (gF rfl rfl rfl rfl rfl) ?_ | refine oC (gN rfl rfl rfl (oE sl24 rfl rfl)) ?_
    all_goals first | refine oC (gF rfl rfl rfl rfl rfl) ?_ | refine oC (gN rfl rfl rfl (op_gtr rfl rfl rfl)) ?_
    all_goals refine oC (oQ rfl rfl rfl rfl) ?_
    all_goals refine oC (oM rfl (Conv.of rfl) rfl) ?_
    all_goals first | refine g_lit (t := 27) (b := true) rfl ?_ | refine g_split (t := 27) rfl (fun h => ?_) (fun h => ?_)
    all_goals first | refine oC (gF rfl rfl rfl rfl rfl) ?_ | refine oC (gN rfl rfl rfl (oF f26_2 rfl rfl)) ?_
    all_goals first | refine oC (gF rfl rfl rfl rfl rfl) ?_ | refine oC (gN rfl rfl rfl (oD ty24 rfl rfl rfl)) ?_
    all_goals first | refine oC (gF rfl rfl rfl rfl rfl) ?_ | refine oC (gN rfl rfl rfl (oL fb99 (.cons rfl (Conv.of rfl) (.nil _)) (votesOk_ct _) (aK rfl rfl aK0) rfl rfl)) ?_
    all_goals first | refine oC (gF rfl rfl rfl rfl rfl) ?_ | refine oC (gN rfl rfl rfl (op_not rfl rfl)) ?_
    all_goals refine oC (oQ rfl rfl rfl rfl) ?_
    all_goals refine oN ?_
    all_goals exact Le.mk rfl (tlb rfl rfl rfl (tle rfl (by (simp_all [worldOk0] <;> omega)) rfl tln)) (olk rfl (by exact bC) oln) noS
  refine aC rfl (fun h => ?_) (fun h => ?_)
  · all_goals refine aS (aR ?_)
    all_goals refine oC (oA rfl (Conv.of rfl) rfl) ?_
    all_goals refine oN ?_
    refine aT ?_
    repeat first | refine rS ?_ | refine rB ?_
    refine finP (.v rfl (Conv.of rfl)) rfl ?_
    show AV.v false = _
    simp [worldOk, not_t h]
  · have h0 := not_f h
    have heq : worldOk w = nodesOkFrom w w.nodes 0 := by rw [worldOk, h0, Bool.true_and]
    refine aW ?_
    all_goals refine aS (aS (aR ?_))
    all_goals refine oC (oF f26_1 rfl rfl) ?_
    all_goals refine oC (oD ty23 rfl rfl rfl) ?_
    refine awpOps_bigL 34 rfl (fun hB => ?_)
    all_goals refine oC (oE sl23 rfl rfl) ?_
    all_goals refine oC (oM rfl (Conv.of rfl) rfl) ?_
    all_goals refine oN ?_
    refine aB ?_
    refine awp_loop' (fun n_ s => ∃ (k : Nat), ∃ (hn : n_ + k = w.nodes.length), ∃ (hall : worldOk w = nodesOkFrom w (w.nodes.drop k) k), s = mkSt 63 [(1, .box 0 (IsLens.whole Wrld)), (34, .v w.nodes), (35, .v (w.nodes.length : Int)), (36, .v (k : Int))] [(0, .cell w)]) (w.nodes.length) ⟨0, by omega, heq, rfl⟩ (Le.mk rfl (tlb rfl rfl rfl (tle rfl (rfl) rfl (tle rfl (rfl) rfl (tle rfl (rfl) rfl tln)))) (olk rfl (by exact bC) oln) noS) ?_
    rintro n_ s ⟨k, hn, hall, rfl⟩
    all_goals refine aS (aR ?_)
    all_goals refine oC (oLt rfl rfl rfl) ?_
    all_goals refine oN ?_
    refine aS (aC rfl (fun h => ?_) (fun h => ?_))
    · have hlt : k < w.nodes.length := by simpa using h
      have hx : w.nodes[k]? = some w.nodes[k] := List.getElem?_eq_getElem hlt
      generalize w.nodes[k] = a at hx
      have hs := nodesOk_drop (w := w) hx
      refine aW ?_
      refine aS (aB ?_)
      all_goals refine aS (aR ?_)
      all_goals refine oC (oM rfl (Conv.of rfl) rfl) ?_
      all_goals refine oC (op_ix sl23 rfl rfl rfl (by omega) hx) ?_
      all_goals refine oC (oDR ty90 rfl rfl) ?_
      all_goals refine oC (oX (o := 1) z90 rfl rfl) ?_
      all_goals refine oC (oA rfl (Conv.of rfl) rfl) ?_
      all_goals refine oC (op_st ty90 rfl rfl (Conv.of rfl) rfl) ?_
      all_goals refine oN ?_
      refine aS (aST (s' := mkSt 63 [(1, .box 0 (IsLens.whole Wrld)), (4, .box 1 (IsLens.whole Nod)), (34, .v w.nodes), (35, .v (w.nodes.length : Int)), (36, .v (k : Int)), (57, .v (!(nodeOk a && decide (a.id = (k : Int) + 1) && decide (a.epoch = w.epoch))))] [(0, .cell w), (1, .cell a)]) ?_ ?_)
      · all_goals refine aR ?_
        all_goals refine oC (oD ty90 rfl rfl rfl) ?_
        all_goals refine oC (oL fb100 (.cons rfl (Conv.of rfl) (.nil _)) (nodeOk_ct _) (aK rfl rfl aK0) rfl rfl) ?_
        all_goals refine oC (op_not rfl rfl) ?_
        all_goals refine oC (oM rfl (Conv.of rfl) rfl) ?_
        all_goals refine g_split (t := 44) rfl (fun h => ?_) (fun h => ?_)
        all_goals first | refine oC (gF rfl rfl rfl rfl rfl) ?_ | refine oC (gN rfl rfl rfl (oF f90_0 rfl rfl)) ?_
        all_goals first | refine oC (gF rfl rfl rfl rfl rfl) ?_ | refine oC (gN rfl rfl rfl (oD ty3 rfl rfl rfl)) ?_
        all_goals first | refine oC (gF rfl rfl rfl rfl rfl) ?_ | refine oC (gN rfl rfl rfl (oM rfl (Conv.of rfl) rfl)) ?_
        all_goals first | refine oC (gF rfl rfl rfl rfl rfl) ?_ | refine oC (gN rfl rfl rfl (oP rfl rfl rfl (by omega))) ?_
        all_goals first | refine oC (gF rfl rfl rfl rfl rfl) ?_ | refine oC (gN rfl rfl rfl (op_neq rfl rfl rfl)) ?_
        all_goals refine oC (oQ rfl rfl rfl rfl) ?_
        all_goals refine oC (oM rfl (Conv.of rfl) rfl) ?_
        all_goals first | refine g_lit (t := 51) (b := true) rfl ?_ | refine g_split (t := 51) rfl (fun h => ?_) (fun h => ?_)
        all_goals first | refine oC (gF rfl rfl rfl rfl rfl) ?_ | refine oC (gN rfl rfl rfl (oF f90_1 rfl rfl)) ?_
        all_goals first | refine oC (gF rfl rfl rfl rfl rfl) ?_ | refine oC (gN rfl rfl rfl (oD ty3 rfl rfl rfl)) ?_
        all_goals first | refine oC (gF rfl rfl rfl rfl rfl) ?_ | refine oC (gN rfl rfl rfl (oF f26_0 rfl rfl)) ?_
        all_goals first | refine oC (gF rfl rfl rfl rfl rfl) ?_ | refine oC (gN rfl rfl rfl (oD ty3 rfl rfl rfl)) ?_
        all_goals first | refine oC (gF rfl rfl rfl rfl rfl) ?_ | refine oC (gN rfl rfl rfl (op_neq rfl rfl rfl)) ?_
        all_goals refine oC (oQ rfl rfl rfl rfl) ?_
        all_goals refine oN ?_
        all_goals exact Le.mk rfl (tlb rfl rfl rfl (tlb rfl rfl rfl (tle rfl (rfl) rfl (tle rfl (rfl) rfl (tle rfl (rfl) rfl (tle rfl (by (simp_all; try rfl)) rfl tln)))))) (olk rfl (by exact bC) (olk rfl (by exact bC) oln)) noS
      refine aC rfl (fun h2 => ?_) (fun h2 => ?_)
      · all_goals refine aS (aR ?_)
        all_goals refine oC (oA rfl (Conv.of rfl) rfl) ?_
        all_goals refine oN ?_
        refine aT ?_
        repeat first | refine rS ?_ | refine rB ?_
        refine finP (.v rfl (Conv.of rfl)) rfl ?_
        show AV.v false = _
        rw [hall, hs, nodeIn, not_t h2, Bool.false_and, Bool.false_and]
      · have h2' := not_f h2
        refine aW ?_
        all_goals refine aS (aR ?_)
        all_goals refine oC (oF f90_3 rfl rfl) ?_
        all_goals refine oC (oD ty24 rfl rfl rfl) ?_
        all_goals refine oC (op_mf (f := 101) .nil (.cons (r := .box 0 (IsLens.whole Wrld)) rfl (Conv.of rfl) .nil) rfl) ?_
        all_goals refine awpOps_callH rfl (fb44) (.cons rfl (Conv.of rfl) (.cons rfl (Conv.of rfl) (.nil _))) rfl (containsV_ct _ _ [] [.box 0 (IsLens.whole Wrld)] _ (fun v => !shownB w v) (fb101) (fun x hx => okFn_ct x _ w rfl rfl rfl (fun o => by by_cases e : o = 0 <;> by_cases e1 : o = 1 <;> simp [mkSt, st0, St.upd, lk, lk0, orr, e, e1, obOk, noObj] <;> exact plain_refs _)) (by intro z hz; simp [avs, FV.av] at hz; subst hz; exact ⟨rfl, fun o ho => by simp [AV.refs] at ho; subst ho; rfl⟩) (fun o => by by_cases e : o = 0 <;> by_cases e1 : o = 1 <;> simp [mkSt, st0, St.upd, lk, lk0, orr, e, e1, obOk, noObj] <;> exact plain_refs _)) (Hand.none (Hand.l1 (Hand.of rfl rfl) (Hand.l1 ⟨rfl, fun o ho => by simp [AV.refs, FV.refs] at ho; subst ho; rfl⟩ Hand.l0))) (fun o => by by_cases e : o = 0 <;> by_cases e1 : o = 1 <;> simp [mkSt, st0, St.upd, lk, lk0, orr, e, e1, obOk, noObj] <;> exact plain_refs _) rfl rfl ?_
        all_goals refine oN ?_
        refine aC rfl (fun h3 => ?_) (fun h3 => ?_)
        · all_goals refine aS (aR ?_)
          all_goals refine oC (oA rfl (Conv.of rfl) rfl) ?_
          all_goals refine oN ?_
          refine aT ?_
          repeat first | refine rS ?_ | refine rB ?_
          refine finP (.v rfl (Conv.of rfl)) rfl ?_
          show AV.v false = _
          rw [hall, hs, nodeIn, h3, Bool.not_true, Bool.and_false, Bool.false_and]
        · refine aW ?_
          all_goals refine aR ?_
          all_goals refine oC (oP rfl rfl rfl (by omega)) ?_
          all_goals refine oC (oM rfl (Conv.of rfl) rfl) ?_
          all_goals refine oN ?_
          repeat first | refine nS ?_ | refine nB ?_
          exact ⟨n_ - 1, _, by omega, ⟨k + 1, by omega, by rw [hall, hs, nodeIn, h2', h3]; rfl, rfl⟩, Le.mk rfl (tlb rfl rfl rfl (tle rfl (rfl) rfl (tle rfl (rfl) rfl (tle rfl (rfl) rfl tln)))) (olk rfl (by exact bC) oln) noS⟩
    · refine aE ?_
      repeat refine ex_seq ?_
      refine eB ?_
      have hk : w.nodes.length ≤ k := by simpa using h
      all_goals refine aS (aR ?_)
      all_goals refine oC (oA rfl (Conv.of rfl) rfl) ?_
      all_goals refine oN ?_
      refine aT ?_
      repeat first | refine rS ?_ | refine rB ?_
      refine finP (.v rfl (Conv.of rfl)) rfl ?_
      show AV.v true = _
      rw [hall, drop_end hk]; rfl
theorem worldDoBad_ct (w : Wrld) (e : Evt) (h : worldOk w = false) : CtP Tryz.prog 34 [.v w, .v e] (.v Wrld.zero) := by
  refine Ct.intro Tryz.func34 rfl rfl ?_
  refine aS (aR ?_)
  refine oC (op_box (o := 0) ty26 rfl (Conv.of rfl) rfl rfl) ?_
  refine oC (op_box (o := 1) ty77 rfl (Conv.of rfl) rfl rfl) ?_
  refine oC (oX (o := 2) z26 rfl rfl) ?_
  refine oN ?_
  refine aS (aS (aR ?_))
  refine oC (oD ty26 rfl rfl rfl) ?_
  refine oC (oL fb43 (.cons rfl (Conv.of rfl) (.nil _)) (worldOk_ct _) (aK rfl rfl aK0) rfl rfl) ?_
  refine oC (op_not rfl rfl) ?_
  refine oN ?_
  refine aC rfl (fun h2 => ?_) (fun h2 => absurd (not_f h2) (by rw [h]; decide))
  refine aS (aR ?_)
  refine oC (op_build (.nil _) z26 rfl pl26 rfl) ?_
  refine oC (op_st ty26 rfl rfl (Conv.of rfl) rfl) ?_
  refine oN ?_
  refine aT ?_
  repeat first | refine rS ?_ | refine rB ?_
  exact finP (.rc ty26 rfl rfl) rfl rfl
theorem worldDoA_ct (w : Wrld) (e : Evt) (h : worldOk w = true) : Ct Tryz.prog 34 [.v w, .v e] noObj (fun r1 h1 => r1 = .v (WrldA.mk (doF w e).epoch (.ref 2) (doF w e).log (doF w e).bad) ∧ h1 = obs [(2, .arr (doF w e).nodes)]) := by
  have hf := (worldOk_iff.1 h).fx.fine
  have hfd := doF_fine e hf
  refine Ct.intro Tryz.func34 rfl rfl ?_
  refine aS (aR ?_)
  refine oC (op_box (o := 5) ty26 rfl (Conv.of rfl) rfl rfl) ?_
  refine oC (op_box (o := 6) ty77 rfl (Conv.of rfl) rfl rfl) ?_
  refine oC (oX (o := 7) z26_WrldA rfl rfl) ?_
  refine oN ?_
  refine aS (aS (aR ?_))
  refine oC (oD ty26_Wrld rfl rfl rfl) ?_
  refine oC (oL fb43 (.cons rfl (Conv.of rfl) (.nil _)) (worldOk_ct _) (aK rfl rfl aK0) rfl rfl) ?_
  refine oC (op_not rfl rfl) ?_
  refine oN ?_
  refine aC rfl (fun h2 => absurd (not_t h2) (by rw [h]; decide)) (fun h2 => ?_)
  refine aW ?_
  refine aS (aR ?_)
  refine oC (oD ty26_Wrld rfl rfl rfl) ?_
  refine awpOps_callO [] rfl fb66 (.cons rfl (Conv.of rfl) (.nil _)) (copiedP_w w hf) ols0 k0 (argOk' rfl rfl argO0) rfl ?_
  rintro r h' ⟨rfl, rfl⟩
  refine ⟨[(1, .arr w.nodes)], rfl, (fun o ho => by cases ho), fun o ho _ => ?_, kK bA k0, fun o ho => ?_, ?_⟩
  · have : o = 1 := by simpa [keys, lk0] using ho
    subst this; rfl
  · have : o = 1 := by simpa using (show o ∈ [1] from ho)
    subst this; rfl
  refine oC (oX (o := 0) z26_WrldA rfl rfl) ?_
  refine oC (op_st ty26_WrldA rfl rfl (Conv.of rfl) rfl) ?_
  refine oN ?_
  refine aS (aR ?_)
  refine oC (oD ty77 rfl rfl rfl) ?_
  refine oC (oLO fb65 (.cons rfl (Conv.of rfl) (.cons rfl (Conv.of rfl) (.nil _))) (do_ct w e hf) (olsk rfl (olsk rfl ols0)) (kK (by exact obOkW rfl) (kK (by exact bA) k0)) (kK (by exact obOkW rfl) (kK (by exact bA) k0)) rfl (argOb rfl rfl rfl (argOk' rfl rfl argO0)) (fun o ho => by cases ho) rfl) ?_
  refine oN ?_
  refine aS (aR ?_)
  refine oC (oD ty26_WrldA rfl rfl rfl) ?_
  refine awpOps_callO [(1, .arr (doF w e).nodes)] rfl fb66 (.cons rfl (Conv.of rfl) (.nil _)) (copiedA_w _ hfd) (olsk rfl ols0) (kK bA k0) (argOb rfl rfl rfl argO0) rfl ?_
  rintro r h' ⟨rfl, rfl⟩
  refine ⟨[(1, .arr (doF w e).nodes), (2, .arr (doF w e).nodes)], rfl, fun o ho => ?_, fun o ho h1 => ?_, kK bA (kK bA k0), fun o ho => ?_, ?_⟩
  · have : o = 1 := by simpa [keys, lk0] using ho
    subst this; rfl
  · by_cases e1 : o = 1
    · subst e1; cases h1
    · have : o = 2 := by simpa [keys, lk0, e1] using ho
      subst this; rfl
  · have : o = 2 := by simpa using (show o ∈ [2] from ho)
    subst this; rfl
  refine oC (op_st ty26_WrldA rfl rfl (Conv.of rfl) rfl) ?_
  refine oN ?_
  refine aT ?_
  repeat first | refine rS ?_ | refine rB ?_
  refine ⟨_, _, res1 (ol := [(2, .arr (doF w e).nodes)]) (.rc ty26_WrldA rfl rfl) (fun o ho => ?_) (olk rfl bA oln) noS, rfl, rfl⟩
  have : o = 2 := by simpa using (show o ∈ [2] from ho)
  subst this; rfl
def worldDoR (w : Wrld) (e : Evt) : Wrld := if worldOk w then doF w e else Wrld.zero
theorem worldDo_ct (w : Wrld) (e : Evt) : CtP Tryz.prog 34 [.v w, .v e] (.v (worldDoR w e)) := by
  unfold worldDoR
  cases h : worldOk w with
  | false => exact worldDoBad_ct w e h
  | true => exact Ct.frz (worldDoA_ct w e h) (frz_one (big4 (doF_fine e (worldOk_iff.1 h).fx.fine).four))
end Go.Proofs.YtmhmeppocbcmeaaGreat

/- Copies that share no memory, each with memory of its own at every depth. -/
set_option linter.unusedVariables false
set_option linter.unusedSimpArgs false
namespace Go.Proofs.YtmhmeppocbcmeaaGreat
open Go Go.Wt
theorem cloneI_d (a : List Itm) (ha : a.length ≤ 1000000) : CtP Tryz.prog 114 [.v a] (.v (DList.mk a true)) := by
  refine Ct.intro Tryz.func114 rfl rfl ?_
  refine aS (aR ?_)
  refine oC (oA rfl (Conv.of rfl) rfl) ?_
  refine oN ?_
  refine aS (aS (aR ?_))
  refine oC (oM rfl (Conv.of rfl) rfl) ?_
  refine awpOps_nil? sl27 rfl rfl (fun b hb => ?_)
  refine oN ?_
  refine aC rfl (fun h => ?_) (fun h => ?_)
  · refine aS (aR ?_)
    refine oC (oA rfl (Conv.of rfl) rfl) ?_
    refine oN ?_
    refine aT ?_
    repeat first | refine rS ?_ | refine rB ?_
    refine ⟨_, _, res1 (ol := []) (r := .v (DList.mk a true)) (.rt rfl ?_) (by intro o ho; cases ho) trivial noS, rfl, rfl⟩
    rw [hb h]; exact Conv.nilD
  · refine aW ?_
    refine aS (aR ?_)
    refine oC (op_bsc sl27 z143 (.nil _) rfl (by decide) rfl) ?_
    refine oC (oM rfl (Conv.of rfl) rfl) ?_
    refine oC (op_apD sl27 z143 ul27 rfl rfl (by omega) (by omega) rfl) ?_
    refine oC (op_aso rfl rfl rfl rfl) ?_
    refine oN ?_
    refine aT ?_
    repeat first | refine rS ?_ | refine rB ?_
    exact finM rfl rfl rfl
theorem clipI_d (a : List Itm) : CtP Tryz.prog 113 [.v (DList.mk a true)] (.v (DList.mk a true)) := by
  refine Ct.intro Tryz.func113 rfl rfl ?_
  refine aS (aR ?_)
  refine oC (oA rfl (Conv.of rfl) rfl) ?_
  refine oN ?_
  refine aS (aR ?_)
  refine oC (op_mvo rfl rfl rfl rfl) ?_
  refine oC (oM rfl (Conv.of rfl) rfl) ?_
  refine oC (op_lenD sl27 rfl rfl) ?_
  refine oC (oM rfl (Conv.of rfl) rfl) ?_
  refine oC (op_lenD sl27 rfl rfl) ?_
  refine oC (op_clD sl27 rfl rfl rfl rfl rfl ⟨rfl, rfl⟩) ?_
  refine oC (op_aso rfl rfl rfl rfl) ?_
  refine oN ?_
  refine aT ?_
  repeat first | refine rS ?_ | refine rB ?_
  exact finM rfl rfl rfl
theorem copied_d (c : List Itm) (h : c.length ≤ 1000000) : CtP Tryz.prog 58 [.v c] (.v (DList.mk c true)) := by
  refine Ct.intro Tryz.func58 rfl rfl ?_
  refine aS (aR ?_)
  refine oC (oA rfl (Conv.of rfl) rfl) ?_
  refine oN ?_
  refine aS (aR ?_)
  refine oC (oM rfl (Conv.of rfl) rfl) ?_
  refine oC (oL fb114 (.cons rfl (Conv.of rfl) (.nil _)) (cloneI_d _ h) (aK rfl rfl aK0) rfl rfl) ?_
  refine oC (oLM (s := 4) (ol := []) (ol' := []) (pre := []) fb113 (.nil _) rfl (.nil _) (clipI_d _) ols0 k0 k0 rfl argO0 argO0 (fun o ho => absurd (show o ∈ ([] : List Nat) from ho) (by simp)) (fun o ho => absurd (show o ∈ ([] : List Nat) from ho) (by simp)) rfl) ?_
  refine oC (op_aso rfl rfl rfl rfl) ?_
  refine oN ?_
  refine aT ?_
  repeat first | refine rS ?_ | refine rB ?_
  exact finM rfl rfl rfl
theorem voteCopied_d (v : Vote) (hv : v.chain.length ≤ 1000000) : CtP Tryz.prog 159 [.v v] (.v v.d) := by
  refine Ct.intro Tryz.func159 rfl rfl ?_
  refine aS (aR ?_)
  refine oC (op_box (o := 0) ty38 rfl (Conv.of rfl) rfl rfl) ?_
  refine oC (oX (o := 1) z38_VotD rfl rfl) ?_
  refine oN ?_
  refine aS (dS ?_)
  refine dC (oF f38_0 rfl rfl) ?_
  refine dC (oD ty3 rfl rfl rfl) ?_
  refine dC (oF f38_1 rfl rfl) ?_
  refine dC (oD ty27 rfl rfl rfl) ?_
  refine dC (oL fb58 (.cons rfl (Conv.of rfl) (.nil _)) (copied_d _ hv) (aK rfl rfl aK0) rfl rfl) ?_
  refine dC (op_buildM (s := 7) (p := [1]) (.cons f38_0_VotD rfl rfl (Conv.of rfl) (.mv f38_1_VotD rfl (.nil _))) rfl rfl z38_VotD rfl pl38 rfl) ?_
  refine dC (op_stm ty38_VotD rfl rfl rfl) ?_
  refine dr_nil mixed rfl ?_
  refine aT ?_
  repeat first | refine rS ?_ | refine rB ?_
  exact ⟨_, _, res1C (ol := []) ty38_VotD rfl rfl (by intro o ho; cases ho) trivial noS, rfl, rfl⟩
theorem votesCopied_a (l : List Vote) (hl : l.length ≤ 1000000) (hv : ∀ v ∈ l, v.chain.length ≤ 1000000) : Ct Tryz.prog 124 [.v l] noObj (fun r1 h1 => r1 = .v (NRef.ref 0) ∧ h1 = obs [(0, .arr (l.map Vote.d))]) := by
  refine Ct.intro Tryz.func124 rfl rfl ?_
  refine aS (aR ?_)
  refine oC (oA rfl (Conv.of rfl) rfl) ?_
  refine oN ?_
  refine aS (aR ?_)
  refine oC (oM rfl (Conv.of rfl) rfl) ?_
  refine oC (oE sl141 rfl rfl) ?_
  refine oC (op_mkE (o := 0) sl24_VotD z38_VotD rfl rfl (by omega) (by omega) (by omega) rfl rfl) ?_
  refine oC (oA rfl (Conv.nr) rfl) ?_
  refine oN ?_
  refine aS (aS (aR ?_))
  refine oC (oM rfl (Conv.of rfl) rfl) ?_
  refine oC (oE sl141 rfl rfl) ?_
  refine oC (oM rfl (Conv.of rfl) rfl) ?_
  refine oN ?_
  refine aB ?_
  refine awp_loop' (fun n s => ∃ (k : Nat), ∃ (hn : n + k = l.length), s = mkSt 22 [(3, .v (NRef.ref 0)), (0, .v l), (9, .v l), (10, .v (l.length : Int)), (11, .v (k : Int))] [(0, .arr ((l.take k).map Vote.d))]) (l.length) ⟨0, by omega, rfl⟩ (Le.mk rfl (tlb rfl rfl rfl (tle rfl (rfl) rfl (tle rfl (rfl) rfl (tle rfl (rfl) rfl (tle rfl (rfl) rfl tln))))) (olk rfl (by exact obOkD _) oln) noS) ?_
  rintro n s ⟨k, hn, rfl⟩
  refine aS (aR ?_)
  refine oC (oLt rfl rfl rfl) ?_
  refine oN ?_
  refine aS (aC rfl (fun h => ?_) (fun h => ?_))
  · have hlt : k < l.length := by simpa using h
    have hx : l[k]? = some l[k] := List.getElem?_eq_getElem hlt
    have hbx := hv _ (List.getElem_mem hlt)
    generalize l[k] = x at hx hbx
    refine aW ?_
    refine aS (aB ?_)
    refine aS (aR ?_)
    refine oC (op_ix sl141 rfl rfl rfl (by omega) hx) ?_
    refine oC (oDR ty38 rfl rfl) ?_
    refine oC (oX (o := 5) z38 rfl rfl) ?_
    refine oC (op_st ty38 rfl rfl (Conv.of rfl) rfl) ?_
    refine oN ?_
    refine aR ?_
    refine oC (oM rfl (Conv.of rfl) rfl) ?_
    refine oC (oD ty38 rfl rfl rfl) ?_
    refine oC (oL fb159 (.cons rfl (Conv.of rfl) (.nil _)) (voteCopied_d _ hbx) (aK rfl rfl aK0) rfl rfl) ?_
    refine oC (op_bsm (s := 17) (d := 18) (o := 1) sl24_VotD z38_VotD rfl rfl rfl (by decide) rfl) ?_
    refine oC (op_apMA (o := 0) (o2 := 1) (o' := 2) sl24_VotD z38_VotD ul24 rfl rfl rfl rfl rfl rfl (by simp) (by simp; omega) (by simp; omega) rfl) ?_
    refine oC (oA rfl (Conv.of rfl) rfl) ?_
    refine oN ?_
    refine aR ?_
    refine oC (oP rfl rfl rfl (by omega)) ?_
    refine oC (oM rfl (Conv.of rfl) rfl) ?_
    refine oN ?_
    repeat first | refine nS ?_ | refine nB ?_
    exact ⟨n - 1, _, by omega, ⟨k + 1, by omega, rfl⟩, Le.trans (Le.mk rfl (tlb rfl rfl rfl (tle rfl (rfl) rfl (tle rfl (rfl) rfl (tle rfl (rfl) rfl (tle rfl (rfl) rfl tln))))) (olk (by (rw [take_at hx, List.map_append]; rfl)) (by exact obOkD _) oln) noS) (Le.ren (o := 2) (o' := 0) (t := 3) rfl noS rfl rfl rfl obl0 (fun x _ => NoRef.refs_eq x))⟩
  · refine aE ?_
    repeat refine ex_seq ?_
    refine eB ?_
    have hk : l.length ≤ k := by simpa using h
    refine aS (aR ?_)
    refine oC (oM rfl (Conv.of rfl) rfl) ?_
    refine oC (oA rfl (Conv.of rfl) rfl) ?_
    refine oN ?_
    refine aT ?_
    repeat first | refine rS ?_ | refine rB ?_
    rw [take_end hk]
    refine ⟨_, _, res1 (ol := [(0, .arr (l.map Vote.d))]) (.v rfl (Conv.of rfl)) (fun o ho => ?_) (olk rfl (obOkD _) oln) noS, rfl, rfl⟩
    have : o = 0 := by simpa using (show o ∈ [0] from ho)
    subst this; rfl
theorem votesCopied_d (l : List Vote) (hl : l.length ≤ 1000000) (hv : ∀ v ∈ l, v.chain.length ≤ 1000000) : CtP Tryz.prog 124 [.v l] (.v (DList.mk (l.map Vote.d) true)) := ct_own (by rw [List.length_map]; exact Nat.le_trans hl (by decide)) (votesCopied_a l hl hv)
theorem nod_fD {G : Gh} {w : Go.World} {ω : Owner} {n : Nod} {cs : List Value} (h : Enc.rd G w ω n cs) : Enc.rd G w ω (NodD.mk n.id n.epoch n.voted ⟨n.seen.map Vote.d, false⟩) cs := by
  obtain ⟨c1, c2, rfl, r1, ⟨c3, c4, rfl, r3, ⟨c5, c6, rfl, r5, ⟨a, cap, h1, h2, h3⟩⟩⟩⟩ := h
  exact ⟨c1, _, rfl, r1, c3, _, rfl, r3, c5, _, rfl, r5, ⟨a, cap, by rw [h1]; simp, by simpa using h2, fun h => by cases h⟩⟩
theorem nodeCopied_d (n : Nod) (hn : Gd n.seen) : CtP Tryz.prog 125 [.v n] (.v n.d) := by
  refine Ct.intro Tryz.func125 rfl rfl ?_
  refine aS (aR ?_)
  refine oC (op_box (o := 5) ty90 rfl (Conv.of rfl) rfl rfl) ?_
  refine oC (oX (o := 6) z90_NodD rfl rfl) ?_
  refine oN ?_
  refine aS (aR ?_)
  refine oC (oF f90_3 rfl rfl) ?_
  refine oC (oD ty24 rfl rfl rfl) ?_
  refine oC (oL fb124 (.cons rfl (Conv.of rfl) (.nil _)) (votesCopied_d _ hn.l' hn.v) (aK rfl rfl aK0) rfl rfl) ?_
  refine awpOps_le (Le.trans (b := mkSt 8 [(1, .box 5 (IsLens.whole Nod)), (2, .box 6 (IsLens.whole NodD)), (5, .v (DList.mk (n.seen.map Vote.d) true))] [(5, .cell n), (6, .cell NodD.zero)]) (Le.mk rfl (tlb rfl rfl rfl (tlb rfl rfl rfl (tle rfl (rfl) rfl tln))) (olk rfl (by exact obOkDc _) (olk rfl (by exact obOkDc _) oln)) noS) (Le.recell (fun G w ω cs => nod_fD))) ?_
  refine oC (oF f90_3_NodD rfl rfl) ?_
  refine oC (op_stm ty24_DListVotD rfl rfl rfl) ?_
  refine oN ?_
  refine aS (aR ?_)
  refine oC (op_ldm ty90_NodD rfl rfl rfl) ?_
  refine oC (op_stm ty90_NodD rfl rfl rfl) ?_
  refine oN ?_
  refine aT ?_
  repeat first | refine rS ?_ | refine rB ?_
  exact ⟨_, _, res1C (ol := []) ty90_NodD rfl rfl (by intro o ho; cases ho) trivial noS, rfl, rfl⟩
set_option maxHeartbeats 1000000 in
theorem copiedA_d (e : Int) (a b c d : Nod) (l : List Vote) (bd : Int) (hl : Gd l) (ha : Gd a.seen) (hb : Gd b.seen) (hc : Gd c.seen) (hd : Gd d.seen) :
    Ct Tryz.prog 66 [.v (WrldA.mk e (.ref 1) l bd)] (obs [(1, .arr [a, b, c, d])]) (fun r1 h1 => r1 = .v (WrldE.mk e (.ref 2) ⟨l.map Vote.d, true⟩ bd) ∧ h1 = obs [(1, .arr [a, b, c, d]), (2, .arr [a.d, b.d, c.d, d.d])]) := by
  refine Ct.intro Tryz.func66 rfl rfl ?_
  refine aS (aR ?_)
  refine oC (op_box (o := 5) ty26_WrldA rfl (Conv.of rfl) rfl rfl) ?_
  refine oC (oX (o := 6) z26_WrldE rfl rfl) ?_
  refine oN ?_
  refine aS (dS ?_)
  refine dC (oF f26_0_WrldA rfl rfl) ?_
  refine dC (oD ty3 rfl rfl rfl) ?_
  refine dC (oF f26_1_WrldA rfl rfl) ?_
  refine dC (oD ty23_NRef rfl rfl rfl) ?_
  refine dC (oEA sl23 rfl rfl rfl) ?_
  refine dC (op_mkE (o := 11) sl23_NodD z90_NodD rfl rfl (by simp) (by simp) (by simp) rfl rfl) ?_
  refine dC (oF f26_2_WrldA rfl rfl) ?_
  refine dC (oD ty24 rfl rfl rfl) ?_
  refine dC (oL fb124 (.cons rfl (Conv.of rfl) (.nil _)) (votesCopied_d _ hl.l' hl.v) (aK rfl rfl aK0) rfl rfl) ?_
  refine dC (oF f26_3_WrldA rfl rfl) ?_
  refine dC (oD ty3 rfl rfl rfl) ?_
  refine dC (op_buildM (s := 14) (p := [1, 1, 0]) (.cons f26_0_WrldE rfl rfl (Conv.of rfl) (.cons f26_1_WrldE rfl rfl Conv.nr (.mv f26_2_WrldE rfl (.cons f26_3_WrldE rfl rfl (Conv.of rfl) (.nil _))))) rfl rfl z26_WrldE rfl pl26 rfl) ?_
  refine dC (oX (o := 7) z26_WrldE rfl rfl) ?_
  refine dC (op_stm ty26_WrldE rfl rfl rfl) ?_
  refine dr_nil mixed rfl ?_
  refine aS (aS (aR ?_))
  refine oC (oF f26_1_WrldA rfl rfl) ?_
  refine oC (oD ty23_NRef rfl rfl rfl) ?_
  refine oC (oEA sl23 rfl rfl rfl) ?_
  refine oC (oM rfl (Conv.of rfl) rfl) ?_
  refine oN ?_
  refine aB ?_
  refine awp_loop' (fun n s => (n = 4 ∧ s = mkSt 34 [(2, .box 6 (IsLens.whole WrldE)), (3, .box 7 (IsLens.whole WrldE)), (19, .v (NRef.ref 1)), (20, .v (4 : Int)), (21, .v (0 : Int))] [(1, .arr [a, b, c, d]), (6, .cell WrldE.zero), (7, .cell (WrldE.mk e (.ref 11) ⟨l.map Vote.d, true⟩ bd)), (11, .arr ([] : List NodD))]) ∨ (n = 3 ∧ s = mkSt 34 [(2, .box 6 (IsLens.whole WrldE)), (3, .box 7 (IsLens.whole WrldE)), (19, .v (NRef.ref 1)), (20, .v (4 : Int)), (21, .v (1 : Int))] [(1, .arr [a, b, c, d]), (6, .cell WrldE.zero), (7, .cell (WrldE.mk e (.ref 12) ⟨l.map Vote.d, true⟩ bd)), (12, .arr ([a.d] : List NodD))]) ∨ (n = 2 ∧ s = mkSt 34 [(2, .box 6 (IsLens.whole WrldE)), (3, .box 7 (IsLens.whole WrldE)), (19, .v (NRef.ref 1)), (20, .v (4 : Int)), (21, .v (2 : Int))] [(1, .arr [a, b, c, d]), (6, .cell WrldE.zero), (7, .cell (WrldE.mk e (.ref 13) ⟨l.map Vote.d, true⟩ bd)), (13, .arr ([a.d, b.d] : List NodD))]) ∨ (n = 1 ∧ s = mkSt 34 [(2, .box 6 (IsLens.whole WrldE)), (3, .box 7 (IsLens.whole WrldE)), (19, .v (NRef.ref 1)), (20, .v (4 : Int)), (21, .v (3 : Int))] [(1, .arr [a, b, c, d]), (6, .cell WrldE.zero), (7, .cell (WrldE.mk e (.ref 14) ⟨l.map Vote.d, true⟩ bd)), (14, .arr ([a.d, b.d, c.d] : List NodD))]) ∨ (n = 0 ∧ s = mkSt 34 [(2, .box 6 (IsLens.whole WrldE)), (3, .box 7 (IsLens.whole WrldE)), (19, .v (NRef.ref 1)), (20, .v (4 : Int)), (21, .v (4 : Int))] [(1, .arr [a, b, c, d]), (6, .cell WrldE.zero), (7, .cell (WrldE.mk e (.ref 2) ⟨l.map Vote.d, true⟩ bd)), (2, .arr ([a.d, b.d, c.d, d.d] : List NodD))])) 4 (.inl (⟨rfl, rfl⟩)) (Le.mk rfl (tlb rfl rfl rfl (tlb rfl rfl rfl (tlb rfl rfl rfl (tle rfl (rfl) rfl (tle rfl (rfl) rfl tln))))) (olk rfl (by exact obOkD _) (olk rfl (by exact obOkE0) (olk rfl (by exact obOkE rfl) (olk rfl (by exact obOkD _) oln)))) (hU (a := [(1, .arr [a, b, c, d])]) rfl)) ?_
  rintro n s (⟨rfl, rfl⟩|⟨rfl, rfl⟩|⟨rfl, rfl⟩|⟨rfl, rfl⟩|⟨rfl, rfl⟩)
  · refine aS (aR ?_)
    refine oC (oLt rfl rfl rfl) ?_
    refine oN ?_
    refine aS (aC rfl (fun h => ?_) (fun h => absurd h (by decide)))
    refine aW ?_
    refine aS (aB ?_)
    refine aS (aR ?_)
    refine oC (op_ixA sl23 rfl rfl rfl rfl (by simp)) ?_
    refine oC (op_lde ty90 rfl rfl (rfl : [a, b, c, d][0]? = some a) rfl) ?_
    refine oC (oX (o := 8) z90 rfl rfl) ?_
    refine oC (op_st ty90 rfl rfl (Conv.of rfl) rfl) ?_
    refine oN ?_
    refine dS ?_
    refine dC (oF f26_1_WrldE rfl rfl) ?_
    refine dC (oD ty23_NRef rfl rfl rfl) ?_
    refine dC (oD ty90 rfl rfl rfl) ?_
    refine dC (oL fb125 (.cons rfl (Conv.of rfl) (.nil _)) (nodeCopied_d _ ha) (aK rfl rfl aK0) rfl rfl) ?_
    refine dC (op_bsm (s := 28) (d := 29) (o := 31) sl23_NodD z90_NodD rfl rfl rfl (by decide) rfl) ?_
    refine dC (op_apMA (o := 11) (o2 := 31) (o' := 12) sl23_NodD z90_NodD ul23 rfl rfl rfl rfl rfl rfl (by simp) (by simp) (by simp) rfl) ?_
    refine dC (oF f26_1_WrldE rfl rfl) ?_
    refine dC (op_st ty23_NRef rfl rfl (Conv.of rfl) rfl) ?_
    refine dr_nil mixed rfl ?_
    refine aR ?_
    refine oC (oP rfl rfl rfl (by omega)) ?_
    refine oC (oM rfl (Conv.of rfl) rfl) ?_
    refine oN ?_
    repeat first | refine nS ?_ | refine nB ?_
    exact ⟨3, _, by decide, .inr (.inl (⟨rfl, rfl⟩)), Le.mk rfl (tlb rfl rfl rfl (tlb rfl rfl rfl (tlb rfl rfl rfl (tle rfl (rfl) rfl (tle rfl (rfl) rfl tln))))) (olk rfl (by exact obOkD _) (olk rfl (by exact obOkE0) (olk rfl (by exact obOkE rfl) (olk rfl (by exact obOkD _) oln)))) (hU (a := [(1, .arr [a, b, c, d])]) rfl)⟩
  · refine aS (aR ?_)
    refine oC (oLt rfl rfl rfl) ?_
    refine oN ?_
    refine aS (aC rfl (fun h => ?_) (fun h => absurd h (by decide)))
    refine aW ?_
    refine aS (aB ?_)
    refine aS (aR ?_)
    refine oC (op_ixA sl23 rfl rfl rfl rfl (by simp)) ?_
    refine oC (op_lde ty90 rfl rfl (rfl : [a, b, c, d][1]? = some b) rfl) ?_
    refine oC (oX (o := 8) z90 rfl rfl) ?_
    refine oC (op_st ty90 rfl rfl (Conv.of rfl) rfl) ?_
    refine oN ?_
    refine dS ?_
    refine dC (oF f26_1_WrldE rfl rfl) ?_
    refine dC (oD ty23_NRef rfl rfl rfl) ?_
    refine dC (oD ty90 rfl rfl rfl) ?_
    refine dC (oL fb125 (.cons rfl (Conv.of rfl) (.nil _)) (nodeCopied_d _ hb) (aK rfl rfl aK0) rfl rfl) ?_
    refine dC (op_bsm (s := 28) (d := 29) (o := 32) sl23_NodD z90_NodD rfl rfl rfl (by decide) rfl) ?_
    refine dC (op_apMA (o := 12) (o2 := 32) (o' := 13) sl23_NodD z90_NodD ul23 rfl rfl rfl rfl rfl rfl (by simp) (by simp) (by simp) rfl) ?_
    refine dC (oF f26_1_WrldE rfl rfl) ?_
    refine dC (op_st ty23_NRef rfl rfl (Conv.of rfl) rfl) ?_
    refine dr_nil mixed rfl ?_
    refine aR ?_
    refine oC (oP rfl rfl rfl (by omega)) ?_
    refine oC (oM rfl (Conv.of rfl) rfl) ?_
    refine oN ?_
    repeat first | refine nS ?_ | refine nB ?_
    exact ⟨2, _, by decide, .inr (.inr (.inl (⟨rfl, rfl⟩))), Le.mk rfl (tlb rfl rfl rfl (tlb rfl rfl rfl (tlb rfl rfl rfl (tle rfl (rfl) rfl (tle rfl (rfl) rfl tln))))) (olk rfl (by exact obOkD _) (olk rfl (by exact obOkE0) (olk rfl (by exact obOkE rfl) (olk rfl (by exact obOkD _) oln)))) (hU (a := [(1, .arr [a, b, c, d])]) rfl)⟩
  · refine aS (aR ?_)
    refine oC (oLt rfl rfl rfl) ?_
    refine oN ?_
    refine aS (aC rfl (fun h => ?_) (fun h => absurd h (by decide)))
    refine aW ?_
    refine aS (aB ?_)
    refine aS (aR ?_)
    refine oC (op_ixA sl23 rfl rfl rfl rfl (by simp)) ?_
    refine oC (op_lde ty90 rfl rfl (rfl : [a, b, c, d][2]? = some c) rfl) ?_
    refine oC (oX (o := 8) z90 rfl rfl) ?_
    refine oC (op_st ty90 rfl rfl (Conv.of rfl) rfl) ?_
    refine oN ?_
    refine dS ?_
    refine dC (oF f26_1_WrldE rfl rfl) ?_
    refine dC (oD ty23_NRef rfl rfl rfl) ?_
    refine dC (oD ty90 rfl rfl rfl) ?_
    refine dC (oL fb125 (.cons rfl (Conv.of rfl) (.nil _)) (nodeCopied_d _ hc) (aK rfl rfl aK0) rfl rfl) ?_
    refine dC (op_bsm (s := 28) (d := 29) (o := 33) sl23_NodD z90_NodD rfl rfl rfl (by decide) rfl) ?_
    refine dC (op_apMA (o := 13) (o2 := 33) (o' := 14) sl23_NodD z90_NodD ul23 rfl rfl rfl rfl rfl rfl (by simp) (by simp) (by simp) rfl) ?_
    refine dC (oF f26_1_WrldE rfl rfl) ?_
    refine dC (op_st ty23_NRef rfl rfl (Conv.of rfl) rfl) ?_
    refine dr_nil mixed rfl ?_
    refine aR ?_
    refine oC (oP rfl rfl rfl (by omega)) ?_
    refine oC (oM rfl (Conv.of rfl) rfl) ?_
    refine oN ?_
    repeat first | refine nS ?_ | refine nB ?_
    exact ⟨1, _, by decide, .inr (.inr (.inr (.inl (⟨rfl, rfl⟩)))), Le.mk rfl (tlb rfl rfl rfl (tlb rfl rfl rfl (tlb rfl rfl rfl (tle rfl (rfl) rfl (tle rfl (rfl) rfl tln))))) (olk rfl (by exact obOkD _) (olk rfl (by exact obOkE0) (olk rfl (by exact obOkE rfl) (olk rfl (by exact obOkD _) oln)))) (hU (a := [(1, .arr [a, b, c, d])]) rfl)⟩
  · refine aS (aR ?_)
    refine oC (oLt rfl rfl rfl) ?_
    refine oN ?_
    refine aS (aC rfl (fun h => ?_) (fun h => absurd h (by decide)))
    refine aW ?_
    refine aS (aB ?_)
    refine aS (aR ?_)
    refine oC (op_ixA sl23 rfl rfl rfl rfl (by simp)) ?_
    refine oC (op_lde ty90 rfl rfl (rfl : [a, b, c, d][3]? = some d) rfl) ?_
    refine oC (oX (o := 8) z90 rfl rfl) ?_
    refine oC (op_st ty90 rfl rfl (Conv.of rfl) rfl) ?_
    refine oN ?_
    refine dS ?_
    refine dC (oF f26_1_WrldE rfl rfl) ?_
    refine dC (oD ty23_NRef rfl rfl rfl) ?_
    refine dC (oD ty90 rfl rfl rfl) ?_
    refine dC (oL fb125 (.cons rfl (Conv.of rfl) (.nil _)) (nodeCopied_d _ hd) (aK rfl rfl aK0) rfl rfl) ?_
    refine dC (op_bsm (s := 28) (d := 29) (o := 34) sl23_NodD z90_NodD rfl rfl rfl (by decide) rfl) ?_
    refine dC (op_apMA (o := 14) (o2 := 34) (o' := 2) sl23_NodD z90_NodD ul23 rfl rfl rfl rfl rfl rfl (by simp) (by simp) (by simp) rfl) ?_
    refine dC (oF f26_1_WrldE rfl rfl) ?_
    refine dC (op_st ty23_NRef rfl rfl (Conv.of rfl) rfl) ?_
    refine dr_nil mixed rfl ?_
    refine aR ?_
    refine oC (oP rfl rfl rfl (by omega)) ?_
    refine oC (oM rfl (Conv.of rfl) rfl) ?_
    refine oN ?_
    repeat first | refine nS ?_ | refine nB ?_
    exact ⟨0, _, by decide, .inr (.inr (.inr (.inr (⟨rfl, rfl⟩)))), Le.mk rfl (tlb rfl rfl rfl (tlb rfl rfl rfl (tlb rfl rfl rfl (tle rfl (rfl) rfl (tle rfl (rfl) rfl tln))))) (olk rfl (by exact obOkD _) (olk rfl (by exact obOkE0) (olk rfl (by exact obOkE rfl) (olk rfl (by exact obOkD _) oln)))) (hU (a := [(1, .arr [a, b, c, d])]) rfl)⟩
  · refine aS (aR ?_)
    refine oC (oLt rfl rfl rfl) ?_
    refine oN ?_
    refine aS (aC rfl (fun h => absurd h (by decide)) (fun h => ?_))
    refine aE ?_
    repeat refine ex_seq ?_
    refine eB ?_
    refine aS (aR ?_)
    refine oC (op_ldm ty26_WrldE rfl rfl rfl) ?_
    refine oC (op_stm ty26_WrldE rfl rfl rfl) ?_
    refine oN ?_
    refine aT ?_
    repeat first | refine rS ?_ | refine rB ?_
    refine ⟨_, _, res1C (ol := [(1, .arr [a, b, c, d]), (2, .arr [a.d, b.d, c.d, d.d])]) ty26_WrldE rfl rfl (fun o ho => ?_) (olk rfl bA (olk rfl (obOkD _) oln)) (hU (a := [(1, .arr [a, b, c, d])]) rfl), rfl, rfl⟩
    have : o = 2 := by simpa using (show o ∈ [2] from ho)
    subst this; rfl
end Go.Proofs.YtmhmeppocbcmeaaGreat

/- Quiet epochs. -/
set_option linter.unusedVariables false
set_option linter.unusedSimpArgs false
namespace Go.Proofs.YtmhmeppocbcmeaaGreat
open Go Go.Wt
set_option maxHeartbeats 1000000 in
theorem spread_ct (w : Wrld) (hw : Fine w) : CtO Tryz.prog 136 [.box 0 (IsLens.whole WrldA)] (wo w) (.tup []) (wo (spreadF w)) := by
  refine Ct.intro Tryz.func136 rfl rfl ?_
  refine aS (aR ?_)
  refine oC (oA rfl (Conv.of rfl) rfl) ?_
  refine oN ?_
  refine aB ?_
  refine awp_loop' (fun n_ s => ∃ (a : Nat), ∃ (x : Wrld), ∃ (hx : Fine x), ∃ (he : sprF (100 - a) a x = spreadF w), ∃ (hn : n_ + a = 100), s = mkSt 21 [(0, .box 0 (IsLens.whole WrldA)), (2, .v (a : Int))] [(0, .cell (wA x)), (1, .arr x.nodes)]) (100) ⟨0, w, hw, rfl, by omega, rfl⟩ (Le.mk rfl (tlb rfl rfl rfl (tle rfl (rfl) rfl tln)) (olk rfl (by exact obOkW rfl) (olk rfl (by exact bA) oln)) (hU (a := wo w) rfl)) ?_
  rintro n_ s ⟨a, x, hx, he, hn, rfl⟩
  refine aS (aS (aR ?_))
  refine oC (oM rfl (Conv.of rfl) rfl) ?_
  refine oC (oM rfl (Conv.of rfl) rfl) ?_
  refine oC (oNB rfl rfl) ?_
  refine oC (oF f26_2_WrldA rfl rfl) ?_
  refine oC (oD ty24 rfl rfl rfl) ?_
  refine oC (oE sl24 rfl rfl) ?_
  refine oC (oLt rfl rfl rfl) ?_
  refine oN ?_
  refine aC rfl (fun h => ?_) (fun h => ?_)
  · have ha : a < x.log.length := by simpa using h
    have hll := hx.ll
    refine aW ?_
    refine aS (aB ?_)
    refine aS (aR ?_)
    refine oC (oA rfl (Conv.of rfl) rfl) ?_
    refine oN ?_
    refine awp_toB (s' := mkSt 21 [(0, .box 0 (IsLens.whole WrldA)), (2, .v (a : Int))] [(0, .cell (wA (b4 x a))), (1, .arr (b4 x a).nodes)]) ?_ ?_
    · refine aB ?_
      refine awp_loop' (fun n_ s => ∃ (k : Nat), ∃ (hk : n_ + k = 4), s = mkSt 21 [(0, .box 0 (IsLens.whole WrldA)), (2, .v (a : Int)), (3, .v ((k : Int) + 1))] [(0, .cell (wA (brN x a k))), (1, .arr (brN x a k).nodes)]) (4) ⟨0, by omega, rfl⟩ (Le.mk rfl (tlb rfl rfl rfl (tle rfl (rfl) rfl (tle rfl (rfl) rfl tln))) (olk rfl (by exact obOkW rfl) (olk rfl (by exact bA) oln)) (hU (a := wo w) rfl)) ?_
      rintro n_ s ⟨k, hk, rfl⟩
      refine aS (aS (aR ?_))
      refine oC (oM rfl (Conv.of rfl) rfl) ?_
      refine oC (op_leq rfl rfl rfl) ?_
      refine oN ?_
      refine aC rfl (fun h2 => ?_) (fun h2 => ?_)
      · have hk2 : k < 4 := by simp at h2; omega
        refine aW ?_
        refine aS (aB ?_)
        refine aR ?_
        refine oC (oM rfl (Conv.of rfl) rfl) ?_
        refine oC (oM rfl (Conv.of rfl) rfl) ?_
        refine oC (oM rfl (Conv.of rfl) rfl) ?_
        refine oC (oLO fb121 (.cons rfl (Conv.of rfl) (.cons rfl (Conv.of rfl) (.cons rfl (Conv.of rfl) (.nil _)))) (wbring_ct _ _ _ (brN_fine hx a k)) (olsk rfl (olsk rfl ols0)) (kK (by exact obOkW rfl) (kK (by exact bA) k0)) (kK (by exact obOkW rfl) (kK (by exact bA) k0)) rfl (argOb rfl rfl rfl (argOk' rfl rfl (argOk' rfl rfl argO0))) (fun o ho => by cases ho) rfl) ?_
        refine oN ?_
        refine aR ?_
        refine oC (oM rfl (Conv.of rfl) rfl) ?_
        refine oC (oP rfl rfl rfl (by omega)) ?_
        refine oC (oA rfl (Conv.of rfl) rfl) ?_
        refine oN ?_
        repeat first | refine nS ?_ | refine nB ?_
        exact ⟨n_ - 1, _, by omega, ⟨k + 1, by omega, rfl⟩, Le.mk rfl (tlb rfl rfl rfl (tle rfl (rfl) rfl (tle rfl (rfl) rfl tln))) (olk rfl (by exact obOkW rfl) (olk rfl (by exact bA) oln)) (hU (a := wo w) rfl)⟩
      · refine aE ?_
        repeat refine ex_seq ?_
        refine eB ?_
        have hk4 : k = 4 := by simp at h2; omega
        subst hk4
        all_goals exact Le.mk rfl (tlb rfl rfl rfl (tle rfl (rfl) rfl tln)) (olk rfl (by exact obOkW rfl) (olk rfl (by exact bA) oln)) (hU (a := wo w) rfl)
    · refine aR ?_
      refine oC (oM rfl (Conv.of rfl) rfl) ?_
      refine oC (oP rfl rfl rfl (by omega)) ?_
      refine oC (oA rfl (Conv.of rfl) rfl) ?_
      refine oN ?_
      repeat first | refine nS ?_ | refine nB ?_
      exact ⟨n_ - 1, _, by omega, ⟨a + 1, b4 x a, b4_fine hx a, (by rw [← he, show 100 - a = (100 - (a + 1)) + 1 by omega, sprF_go ha]), by omega, rfl⟩, Le.mk rfl (tlb rfl rfl rfl (tle rfl (rfl) rfl tln)) (olk rfl (by exact obOkW rfl) (olk rfl (by exact bA) oln)) (hU (a := wo w) rfl)⟩
  · refine aE ?_
    repeat refine ex_seq ?_
    refine eB ?_
    have ha : ¬ a < x.log.length := by simpa using h
    rw [sprF_stop ha] at he
    subst he
    refine finO (wo (spreadF w)) .nil rfl (fun o ho => by cases ho) ?_ (hK rfl) rfl
    exact (olk rfl (obOkW rfl) (olk rfl bA oln))
set_option maxHeartbeats 1000000 in
theorem calm_ct (w : Wrld) (p : Pay) (hw : Fine w) : CtO Tryz.prog 84 [.box 0 (IsLens.whole WrldA), .v p] (wo w) (.tup []) (wo (calmF w p)) := by
  have h1 := tick_fine hw
  have h2 := spread_fine h1
  have h3 := propose_fine h2 (leader (spreadF (tickF w)).epoch) p
  refine Ct.intro Tryz.func84 rfl rfl ?_
  refine aS (aR ?_)
  refine oC (op_box (o := 2) ty75 rfl (Conv.of rfl) rfl rfl) ?_
  refine oN ?_
  refine aS (aR ?_)
  refine oC (oM rfl (Conv.of rfl) rfl) ?_
  refine oC (oLO fb119 (.cons rfl (Conv.of rfl) (.nil _)) (tick_ct w hw) (olsk rfl (olsk rfl ols0)) (kK (by exact obOkW rfl) (kK (by exact bA) k0)) (kK (by exact obOkW rfl) (kK (by exact bA) k0)) rfl (argOb rfl rfl rfl argO0) (fun o ho => by cases ho) rfl) ?_
  refine oN ?_
  refine aS (aR ?_)
  refine oC (oM rfl (Conv.of rfl) rfl) ?_
  refine oC (oLO fb136 (.cons rfl (Conv.of rfl) (.nil _)) (spread_ct _ h1) (olsk rfl (olsk rfl ols0)) (kK (by exact obOkW rfl) (kK (by exact bA) k0)) (kK (by exact obOkW rfl) (kK (by exact bA) k0)) rfl (argOb rfl rfl rfl argO0) (fun o ho => by cases ho) rfl) ?_
  refine oN ?_
  refine aS (dS ?_)
  refine dC (oM rfl (Conv.of rfl) rfl) ?_
  refine dC (oM rfl (Conv.of rfl) rfl) ?_
  refine dC (oNB rfl rfl) ?_
  refine dC (oF f26_0_WrldA rfl rfl) ?_
  refine dC (oD ty3 rfl rfl rfl) ?_
  refine dC (oL fb137 (.cons rfl (Conv.of rfl) (.nil _)) (leader_ct _) (aK rfl rfl aK0) rfl rfl) ?_
  refine dC (oD ty75 rfl rfl rfl) ?_
  refine dC (oLO fb120 (.cons rfl (Conv.of rfl) (.cons rfl (Conv.of rfl) (.cons rfl (Conv.of rfl) (.nil _)))) (wpropose_ct _ _ _ h2) (olsk rfl (olsk rfl ols0)) (kK (by exact obOkW rfl) (kK (by exact bA) k0)) (kK (by exact obOkW rfl) (kK (by exact bA) k0)) rfl (argOb rfl rfl rfl (argOk' rfl rfl (argOk' rfl rfl argO0))) (fun o ho => by cases ho) rfl) ?_
  refine dr_nil mixed rfl ?_
  refine aR ?_
  refine oC (oM rfl (Conv.of rfl) rfl) ?_
  refine oC (oLO fb136 (.cons rfl (Conv.of rfl) (.nil _)) (spread_ct _ h3) (olsk rfl (olsk rfl ols0)) (kK (by exact obOkW rfl) (kK (by exact bA) k0)) (kK (by exact obOkW rfl) (kK (by exact bA) k0)) rfl (argOb rfl rfl rfl argO0) (fun o ho => by cases ho) rfl) ?_
  refine oN ?_
  refine finO (wo (calmF w p)) .nil rfl (fun o ho => by cases ho) ?_ (hK rfl) rfl
  exact (olk rfl (obOkW rfl) (olk rfl bA oln))
theorem worldCalmBad_ct (w : Wrld) (pays : List Pay) (h : (worldOk w && decide (pays.length ≤ 30)) = false) : CtP Tryz.prog 28 [.v w, .v pays] (.v Wrld.zero) := by
  have hl : worldOk w = true → (30 : Int) < (pays.length : Int) := fun e => by
    rw [e] at h
    simp at h
    omega
  clear h
  refine Ct.intro Tryz.func28 rfl rfl ?_
  all_goals refine aS (aR ?_)
  all_goals refine oC (op_box (o := 0) ty26 rfl (Conv.of rfl) rfl rfl) ?_
  all_goals refine oC (oX (o := 1) z26 rfl rfl) ?_
  all_goals refine oN ?_
  refine aS (aST (s' := mkSt 30 [(1, .v pays), (4, .box 1 (IsLens.whole Wrld)), (15, .v true)] [(1, .cell Wrld.zero)]) ?_ ?_)
  · all_goals refine aR ?_
    all_goals refine oC (oD ty26 rfl rfl rfl) ?_
    all_goals refine oC (oL fb43 (.cons rfl (Conv.of rfl) (.nil _)) (worldOk_ct _) (aK rfl rfl aK0) rfl rfl) ?_
    all_goals refine oC (op_not rfl rfl) ?_
    all_goals refine oC (oM rfl (Conv.of rfl) rfl) ?_
    all_goals refine g_split (t := 11) rfl (fun h => ?_) (fun h => ?_)
    all_goals first | refine oC (gF rfl rfl rfl rfl rfl) ?_ | refine oC (gN rfl rfl rfl (oM rfl (Conv.of rfl) rfl)) ?_
    all_goals first | refine oC (gF rfl rfl rfl rfl rfl) ?_ | refine oC (gN rfl rfl rfl (oE sl61 rfl rfl)) ?_
    all_goals first | refine oC (gF rfl rfl rfl rfl rfl) ?_ | refine oC (gN rfl rfl rfl (op_gtr rfl rfl rfl)) ?_
    all_goals refine oC (oQ rfl rfl rfl rfl) ?_
    all_goals refine oN ?_
    all_goals exact Le.mk rfl (tle rfl (rfl) rfl (tlb rfl rfl rfl (tle rfl (by first | rfl | (show AV.v _ = AV.v _; simp_all; try omega)) rfl tln))) (olk rfl (by exact bC) oln) noS
  refine aC rfl (fun h2 => ?_) (fun h2 => absurd h2 (by decide))
  all_goals refine aS (aR ?_)
  all_goals refine oC (op_build (.nil _) z26 rfl pl26 rfl) ?_
  all_goals refine oC (op_st ty26 rfl rfl (Conv.of rfl) rfl) ?_
  all_goals refine oN ?_
  refine aT ?_
  repeat first | refine rS ?_ | refine rB ?_
  exact finP (.rc ty26 rfl rfl) rfl rfl
theorem worldCalmA_ct (w : Wrld) (pays : List Pay) (h : worldOk w = true) (hp : pays.length ≤ 30) : Ct Tryz.prog 28 [.v w, .v pays] noObj (fun r1 h1 => r1 = .v (WrldA.mk (pays.foldl calmF w).epoch (.ref 2) (pays.foldl calmF w).log (pays.foldl calmF w).bad) ∧ h1 = obs [(2, .arr (pays.foldl calmF w).nodes)]) := by
  have hf := (worldOk_iff.1 h).fx.fine
  refine Ct.intro Tryz.func28 rfl rfl ?_
  all_goals refine aS (aR ?_)
  all_goals refine oC (op_box (o := 5) ty26 rfl (Conv.of rfl) rfl rfl) ?_
  all_goals refine oC (oX (o := 6) z26_WrldA rfl rfl) ?_
  all_goals refine oN ?_
  refine aS (aST (s' := mkSt 30 [(1, .v pays), (2, .box 5 (IsLens.whole Wrld)), (4, .box 6 (IsLens.whole WrldA)), (15, .v false)] [(5, .cell w), (6, .cell WrldA.zero)]) ?_ ?_)
  · all_goals refine aR ?_
    all_goals refine oC (oD ty26_Wrld rfl rfl rfl) ?_
    all_goals refine oC (oL fb43 (.cons rfl (Conv.of rfl) (.nil _)) (worldOk_ct _) (aK rfl rfl aK0) rfl rfl) ?_
    all_goals refine oC (op_not rfl rfl) ?_
    all_goals refine oC (oM rfl (Conv.of rfl) rfl) ?_
    all_goals refine g_split (t := 11) rfl (fun h => ?_) (fun h => ?_)
    all_goals first | refine oC (gF rfl rfl rfl rfl rfl) ?_ | refine oC (gN rfl rfl rfl (oM rfl (Conv.of rfl) rfl)) ?_
    all_goals first | refine oC (gF rfl rfl rfl rfl rfl) ?_ | refine oC (gN rfl rfl rfl (oE sl61 rfl rfl)) ?_
    all_goals first | refine oC (gF rfl rfl rfl rfl rfl) ?_ | refine oC (gN rfl rfl rfl (op_gtr rfl rfl rfl)) ?_
    all_goals refine oC (oQ rfl rfl rfl rfl) ?_
    all_goals refine oN ?_
    all_goals exact Le.mk rfl (tle rfl (rfl) rfl (tlb rfl rfl rfl (tlb rfl rfl rfl (tle rfl (by (show AV.v _ = AV.v _; simp_all; try omega)) rfl tln)))) (olk rfl (by exact bC) (olk rfl (by exact obOkW0) oln)) noS
  refine aC rfl (fun h2 => absurd h2 (by decide)) (fun h2 => ?_)
  refine aW ?_
  all_goals refine aS (aR ?_)
  all_goals refine oC (oD ty26_Wrld rfl rfl rfl) ?_
  refine awpOps_callO [] rfl fb66 (.cons rfl (Conv.of rfl) (.nil _)) (copiedP_w w hf) ols0 k0 (argOk' rfl rfl argO0) rfl ?_
  rintro r h' ⟨rfl, rfl⟩
  refine ⟨[(1, .arr w.nodes)], rfl, (fun o ho => by cases ho), fun o ho _ => ?_, kK bA k0, fun o ho => ?_, ?_⟩
  · have : o = 1 := by simpa [keys, lk0] using ho
    subst this; rfl
  · have : o = 1 := by simpa using (show o ∈ [1] from ho)
    subst this; rfl
  all_goals refine oC (oX (o := 0) z26_WrldA rfl rfl) ?_
  all_goals refine oC (op_st ty26_WrldA rfl rfl (Conv.of rfl) rfl) ?_
  all_goals refine oN ?_
  all_goals refine aS (aS (aR ?_))
  all_goals refine oC (oM rfl (Conv.of rfl) rfl) ?_
  all_goals refine oC (oE sl61 rfl rfl) ?_
  all_goals refine oC (oM rfl (Conv.of rfl) rfl) ?_
  all_goals refine oN ?_
  refine aB ?_
  refine awp_loop' (fun n s => ∃ (k : Nat), ∃ (hn : n + k = pays.length), s = mkSt 30 [(4, .box 6 (IsLens.whole WrldA)), (5, .box 0 (IsLens.whole WrldA)), (19, .v pays), (20, .v (pays.length : Int)), (21, .v (k : Int))] [(0, .cell (wA ((pays.take k).foldl calmF w))), (1, .arr ((pays.take k).foldl calmF w).nodes), (6, .cell WrldA.zero)]) (pays.length) ⟨0, by omega, rfl⟩ (Le.mk rfl (tlb rfl rfl rfl (tlb rfl rfl rfl (tle rfl (rfl) rfl (tle rfl (rfl) rfl (tle rfl (rfl) rfl tln))))) (olk (by rfl) (by exact obOkW rfl) (olk (by rfl) (by exact bA) (olk rfl (by exact obOkW0) oln))) noS) ?_
  rintro n s ⟨k, hn, rfl⟩
  have hfine : Fine ((pays.take k).foldl calmF w) := calmFold_fine _ hf
  all_goals refine aS (aR ?_)
  all_goals refine oC (oLt rfl rfl rfl) ?_
  all_goals refine oN ?_
  refine aS (aC rfl (fun h => ?_) (fun h => ?_))
  · have hlt : k < pays.length := by simpa using h
    have hx : pays[k]? = some pays[k] := List.getElem?_eq_getElem hlt
    refine aW ?_
    refine aS (aB ?_)
    all_goals refine aS (aR ?_)
    all_goals refine oC (op_ix sl61 rfl rfl rfl (by omega) hx) ?_
    all_goals refine oC (oDR ty75 rfl rfl) ?_
    all_goals refine oC (oX (o := 7) z75 rfl rfl) ?_
    all_goals refine oC (op_st ty75 rfl rfl (Conv.of rfl) rfl) ?_
    all_goals refine oN ?_
    all_goals refine aR ?_
    all_goals refine oC (oD ty75 rfl rfl rfl) ?_
    all_goals refine oC (oLO fb84 (.cons rfl (Conv.of rfl) (.cons rfl (Conv.of rfl) (.nil _))) (calm_ct _ pays[k] hfine) (olsk rfl (olsk rfl ols0)) (kK (by exact obOkW rfl) (kK (by exact bA) k0)) (kK (by exact obOkW rfl) (kK (by exact bA) k0)) rfl (argOb rfl rfl rfl (argOk' rfl rfl argO0)) (fun o ho => by cases ho) rfl) ?_
    all_goals refine oN ?_
    all_goals refine aR ?_
    all_goals refine oC (oP rfl rfl rfl (by omega)) ?_
    all_goals refine oC (oM rfl (Conv.of rfl) rfl) ?_
    all_goals refine oN ?_
    repeat first | refine nS ?_ | refine nB ?_
    exact ⟨n - 1, _, by omega, ⟨k + 1, by omega, rfl⟩, Le.mk rfl (tlb rfl rfl rfl (tlb rfl rfl rfl (tle rfl (rfl) rfl (tle rfl (rfl) rfl (tle rfl (rfl) rfl tln))))) (olk (by (rw [foldl_at calmF _ hx]; rfl)) (by exact obOkW rfl) (olk (by (rw [foldl_at calmF _ hx]; rfl)) (by exact bA) (olk rfl (by exact obOkW0) oln))) noS⟩
  · refine aE ?_
    repeat refine ex_seq ?_
    refine eB ?_
    have hk : pays.length ≤ k := by simpa using h
    have hp2 : (pays.take k).foldl calmF w = pays.foldl calmF w := by rw [take_end hk]
    rw [hp2] at hfine ⊢
    all_goals refine aS (aR ?_)
    all_goals refine oC (oD ty26_WrldA rfl rfl rfl) ?_
    refine awpOps_callO [(1, .arr (pays.foldl calmF w).nodes)] rfl fb66 (.cons rfl (Conv.of rfl) (.nil _)) (copiedA_w _ hfine) (olsk rfl ols0) (kK bA k0) (argOb rfl rfl rfl argO0) rfl ?_
    rintro r h' ⟨rfl, rfl⟩
    refine ⟨[(1, .arr (pays.foldl calmF w).nodes), (2, .arr (pays.foldl calmF w).nodes)], rfl, fun o ho => ?_, fun o ho h1 => ?_, kK bA (kK bA k0), fun o ho => ?_, ?_⟩
    · have : o = 1 := by simpa [keys, lk0] using ho
      subst this; rfl
    · by_cases e : o = 1
      · subst e; cases h1
      · have : o = 2 := by simpa [keys, lk0, e] using ho
        subst this; rfl
    · have : o = 2 := by simpa using (show o ∈ [2] from ho)
      subst this; rfl
    all_goals refine oC (op_st ty26_WrldA rfl rfl (Conv.of rfl) rfl) ?_
    all_goals refine oN ?_
    refine aT ?_
    repeat first | refine rS ?_ | refine rB ?_
    refine ⟨_, _, res1 (ol := [(2, .arr (pays.foldl calmF w).nodes)]) (.rc ty26_WrldA rfl rfl) (fun o ho => ?_) (olk rfl bA oln) noS, rfl, rfl⟩
    have : o = 2 := by simpa using (show o ∈ [2] from ho)
    subst this; rfl
theorem worldCalm_ct (w : Wrld) (pays : List Pay) : CtP Tryz.prog 28 [.v w, .v pays] (.v (worldCalmR w pays)) := by
  unfold worldCalmR
  cases h : worldOk w && decide (pays.length ≤ 30) with
  | false => exact worldCalmBad_ct w pays h
  | true =>
    simp only [Bool.and_eq_true, decide_eq_true_eq] at h
    exact Ct.frz (worldCalmA_ct w pays h.1 h.2) (frz_one (big4 (calmFold_fine _ (worldOk_iff.1 h.1).fx.fine).four))
end Go.Proofs.YtmhmeppocbcmeaaGreat

/- What happens to worlds: the results have memory of their own at every depth. -/
set_option linter.unusedVariables false
set_option linter.unusedSimpArgs false
namespace Go.Proofs.YtmhmeppocbcmeaaGreat
open Go Go.Wt
theorem copiedA_dw (w : Wrld) (h : Fine w) : Ct Tryz.prog 66 [.v (wA w)] (obs [(1, .arr w.nodes)]) (fun r1 h1 => r1 = .v (WrldE.mk w.epoch (.ref 2) ⟨w.log.map Vote.d, true⟩ w.bad) ∧ h1 = obs [(1, .arr w.nodes), (2, .arr (w.nodes.map Nod.d))]) := by
  obtain ⟨e, ns, l, bd⟩ := w
  have h4 := h.four
  have hs := h.seen
  match ns, h4, hs with
  | [a, b, c, d], _, hs => exact copiedA_d e a b c d l bd h.log (hs a (by simp)) (hs b (by simp)) (hs c (by simp)) (hs d (by simp))
theorem worldDoBad_d (w : Wrld) (e : Evt) (h : worldOk w = false) : CtP Tryz.prog 34 [.v w, .v e] (.v Wrld.zero.d) := by
  refine Ct.intro Tryz.func34 rfl rfl ?_
  refine aS (aR ?_)
  refine oC (op_box (o := 0) ty26 rfl (Conv.of rfl) rfl rfl) ?_
  refine oC (op_box (o := 1) ty77 rfl (Conv.of rfl) rfl rfl) ?_
  refine oC (oX (o := 2) z26_WrldD rfl rfl) ?_
  refine oN ?_
  refine aS (aS (aR ?_))
  refine oC (oD ty26 rfl rfl rfl) ?_
  refine oC (oL fb43 (.cons rfl (Conv.of rfl) (.nil _)) (worldOk_ct _) (aK rfl rfl aK0) rfl rfl) ?_
  refine oC (op_not rfl rfl) ?_
  refine oN ?_
  refine aC rfl (fun h2 => ?_) (fun h2 => absurd (not_f h2) (by rw [h]; decide))
  refine aS (aR ?_)
  refine oC (op_build (.nil _) z26_WrldD rfl pl26 rfl) ?_
  refine oC (op_stm ty26_WrldD rfl rfl rfl) ?_
  refine oN ?_
  refine aT ?_
  repeat first | refine rS ?_ | refine rB ?_
  exact ⟨_, _, res1C (ol := []) ty26_WrldD rfl rfl (by intro o ho; cases ho) trivial noS, rfl, rfl⟩
theorem worldDoA_d (w : Wrld) (e : Evt) (h : worldOk w = true) : Ct Tryz.prog 34 [.v w, .v e] noObj (fun r1 h1 => r1 = .v (WrldE.mk (doF w e).epoch (.ref 2) ⟨(doF w e).log.map Vote.d, true⟩ (doF w e).bad) ∧ h1 = obs [(2, .arr ((doF w e).nodes.map Nod.d))]) := by
  have hf := (worldOk_iff.1 h).fx.fine
  have hfd := doF_fine e hf
  refine Ct.intro Tryz.func34 rfl rfl ?_
  refine aS (aR ?_)
  refine oC (op_box (o := 5) ty26 rfl (Conv.of rfl) rfl rfl) ?_
  refine oC (op_box (o := 6) ty77 rfl (Conv.of rfl) rfl rfl) ?_
  refine oC (oX (o := 7) z26_WrldE rfl rfl) ?_
  refine oN ?_
  refine aS (aS (aR ?_))
  refine oC (oD ty26_Wrld rfl rfl rfl) ?_
  refine oC (oL fb43 (.cons rfl (Conv.of rfl) (.nil _)) (worldOk_ct _) (aK rfl rfl aK0) rfl rfl) ?_
  refine oC (op_not rfl rfl) ?_
  refine oN ?_
  refine aC rfl (fun h2 => absurd (not_t h2) (by rw [h]; decide)) (fun h2 => ?_)
  refine aW ?_
  refine aS (aR ?_)
  refine oC (oD ty26_Wrld rfl rfl rfl) ?_
  refine awpOps_callO [] rfl fb66 (.cons rfl (Conv.of rfl) (.nil _)) (copiedP_w w hf) ols0 k0 (argOk' rfl rfl argO0) rfl ?_
  rintro r h' ⟨rfl, rfl⟩
  refine ⟨[(1, .arr w.nodes)], rfl, (fun o ho => by cases ho), fun o ho _ => ?_, kK bA k0, fun o ho => ?_, ?_⟩
  · have : o = 1 := by simpa [keys, lk0] using ho
    subst this; rfl
  · have : o = 1 := by simpa using (show o ∈ [1] from ho)
    subst this; rfl
  refine oC (oX (o := 0) z26_WrldA rfl rfl) ?_
  refine oC (op_st ty26_WrldA rfl rfl (Conv.of rfl) rfl) ?_
  refine oN ?_
  refine aS (aR ?_)
  refine oC (oD ty77 rfl rfl rfl) ?_
  refine oC (oLO fb65 (.cons rfl (Conv.of rfl) (.cons rfl (Conv.of rfl) (.nil _))) (do_ct w e hf) (olsk rfl (olsk rfl ols0)) (kK (by exact obOkW rfl) (kK (by exact bA) k0)) (kK (by exact obOkW rfl) (kK (by exact bA) k0)) rfl (argOb rfl rfl rfl (argOk' rfl rfl argO0)) (fun o ho => by cases ho) rfl) ?_
  refine oN ?_
  refine aS (aR ?_)
  refine oC (oD ty26_WrldA rfl rfl rfl) ?_
  refine awpOps_callO [(1, .arr (doF w e).nodes)] rfl fb66 (.cons rfl (Conv.of rfl) (.nil _)) (copiedA_dw _ hfd) (olsk rfl ols0) (kK bA k0) (argOb rfl rfl rfl argO0) rfl ?_
  rintro r h' ⟨rfl, rfl⟩
  refine ⟨[(1, .arr (doF w e).nodes), (2, .arr ((doF w e).nodes.map Nod.d))], rfl, fun o ho => ?_, fun o ho h1 => ?_, kK bA (kK (obOkD _) k0), fun o ho => ?_, ?_⟩
  · have : o = 1 := by simpa [keys, lk0] using ho
    subst this; rfl
  · by_cases e1 : o = 1
    · subst e1; cases h1
    · have : o = 2 := by simpa [keys, lk0, e1] using ho
      subst this; rfl
  · have : o = 2 := by simpa using (show o ∈ [2] from ho)
    subst this; rfl
  refine oC (op_stm ty26_WrldE rfl rfl rfl) ?_
  refine oN ?_
  refine aT ?_
  repeat first | refine rS ?_ | refine rB ?_
  refine ⟨_, _, res1C (ol := [(2, .arr ((doF w e).nodes.map Nod.d))]) ty26_WrldE rfl rfl (fun o ho => ?_) (olk rfl (obOkD _) oln) noS, rfl, rfl⟩
  have : o = 2 := by simpa using (show o ∈ [2] from ho)
  subst this; rfl
theorem worldCalmBad_d (w : Wrld) (pays : List Pay) (h : (worldOk w && decide (pays.length ≤ 30)) = false) : CtP Tryz.prog 28 [.v w, .v pays] (.v Wrld.zero.d) := by
  have hl : worldOk w = true → (30 : Int) < (pays.length : Int) := fun e => by
    rw [e] at h
    simp at h
    omega
  clear h
  refine Ct.intro Tryz.func28 rfl rfl ?_
  all_goals refine aS (aR ?_)
  all_goals refine oC (op_box (o := 0) ty26 rfl (Conv.of rfl) rfl rfl) ?_
  all_goals refine oC (oX (o := 1) z26_WrldD rfl rfl) ?_
  all_goals refine oN ?_
  refine aS (aST (s' := mkSt 30 [(1, .v pays), (4, .box 1 (IsLens.whole WrldD)), (15, .v true)] [(1, .cell WrldD.zero)]) ?_ ?_)
  · all_goals refine aR ?_
    all_goals refine oC (oD ty26 rfl rfl rfl) ?_
    all_goals refine oC (oL fb43 (.cons rfl (Conv.of rfl) (.nil _)) (worldOk_ct _) (aK rfl rfl aK0) rfl rfl) ?_
    all_goals refine oC (op_not rfl rfl) ?_
    all_goals refine oC (oM rfl (Conv.of rfl) rfl) ?_
    all_goals refine g_split (t := 11) rfl (fun h => ?_) (fun h => ?_)
    all_goals first | refine oC (gF rfl rfl rfl rfl rfl) ?_ | refine oC (gN rfl rfl rfl (oM rfl (Conv.of rfl) rfl)) ?_
    all_goals first | refine oC (gF rfl rfl rfl rfl rfl) ?_ | refine oC (gN rfl rfl rfl (oE sl61 rfl rfl)) ?_
    all_goals first | refine oC (gF rfl rfl rfl rfl rfl) ?_ | refine oC (gN rfl rfl rfl (op_gtr rfl rfl rfl)) ?_
    all_goals refine oC (oQ rfl rfl rfl rfl) ?_
    all_goals refine oN ?_
    all_goals exact Le.mk rfl (tle rfl (rfl) rfl (tlb rfl rfl rfl (tle rfl (by first | rfl | (show AV.v _ = AV.v _; simp_all; try omega)) rfl tln))) (olk rfl (by exact obOkDc _) oln) noS
  refine aC rfl (fun h2 => ?_) (fun h2 => absurd h2 (by decide))
  all_goals refine aS (aR ?_)
  all_goals refine oC (op_build (.nil _) z26_WrldD rfl pl26 rfl) ?_
  all_goals refine oC (op_stm ty26_WrldD rfl rfl rfl) ?_
  all_goals refine oN ?_
  refine aT ?_
  repeat first | refine rS ?_ | refine rB ?_
  exact ⟨_, _, res1C (ol := []) ty26_WrldD rfl rfl (by intro o ho; cases ho) trivial noS, rfl, rfl⟩
theorem worldCalmA_d (w : Wrld) (pays : List Pay) (h : worldOk w = true) (hp : pays.length ≤ 30) : Ct Tryz.prog 28 [.v w, .v pays] noObj (fun r1 h1 => r1 = .v (WrldE.mk (pays.foldl calmF w).epoch (.ref 2) ⟨(pays.foldl calmF w).log.map Vote.d, true⟩ (pays.foldl calmF w).bad) ∧ h1 = obs [(2, .arr ((pays.foldl calmF w).nodes.map Nod.d))]) := by
  have hf := (worldOk_iff.1 h).fx.fine
  refine Ct.intro Tryz.func28 rfl rfl ?_
  all_goals refine aS (aR ?_)
  all_goals refine oC (op_box (o := 5) ty26 rfl (Conv.of rfl) rfl rfl) ?_
  all_goals refine oC (oX (o := 6) z26_WrldE rfl rfl) ?_
  all_goals refine oN ?_
  refine aS (aST (s' := mkSt 30 [(1, .v pays), (2, .box 5 (IsLens.whole Wrld)), (4, .box 6 (IsLens.whole WrldE)), (15, .v false)] [(5, .cell w), (6, .cell WrldE.zero)]) ?_ ?_)
  · all_goals refine aR ?_
    all_goals refine oC (oD ty26_Wrld rfl rfl rfl) ?_
    all_goals refine oC (oL fb43 (.cons rfl (Conv.of rfl) (.nil _)) (worldOk_ct _) (aK rfl rfl aK0) rfl rfl) ?_
    all_goals refine oC (op_not rfl rfl) ?_
    all_goals refine oC (oM rfl (Conv.of rfl) rfl) ?_
    all_goals refine g_split (t := 11) rfl (fun h => ?_) (fun h => ?_)
    all_goals first | refine oC (gF rfl rfl rfl rfl rfl) ?_ | refine oC (gN rfl rfl rfl (oM rfl (Conv.of rfl) rfl)) ?_
    all_goals first | refine oC (gF rfl rfl rfl rfl rfl) ?_ | refine oC (gN rfl rfl rfl (oE sl61 rfl rfl)) ?_
    all_goals first | refine oC (gF rfl rfl rfl rfl rfl) ?_ | refine oC (gN rfl rfl rfl (op_gtr rfl rfl rfl)) ?_
    all_goals refine oC (oQ rfl rfl rfl rfl) ?_
    all_goals refine oN ?_
    all_goals exact Le.mk rfl (tle rfl (rfl) rfl (tlb rfl rfl rfl (tlb rfl rfl rfl (tle rfl (by (show AV.v _ = AV.v _; simp_all; try omega)) rfl tln)))) (olk rfl (by exact obOkDc _) (olk rfl (by exact obOkE0) oln)) noS
  refine aC rfl (fun h2 => absurd h2 (by decide)) (fun h2 => ?_)
  refine aW ?_
  all_goals refine aS (aR ?_)
  all_goals refine oC (oD ty26_Wrld rfl rfl rfl) ?_
  refine awpOps_callO [] rfl fb66 (.cons rfl (Conv.of rfl) (.nil _)) (copiedP_w w hf) ols0 k0 (argOk' rfl rfl argO0) rfl ?_
  rintro r h' ⟨rfl, rfl⟩
  refine ⟨[(1, .arr w.nodes)], rfl, (fun o ho => by cases ho), fun o ho _ => ?_, kK bA k0, fun o ho => ?_, ?_⟩
  · have : o = 1 := by simpa [keys, lk0] using ho
    subst this; rfl
  · have : o = 1 := by simpa using (show o ∈ [1] from ho)
    subst this; rfl
  all_goals refine oC (oX (o := 0) z26_WrldA rfl rfl) ?_
  all_goals refine oC (op_st ty26_WrldA rfl rfl (Conv.of rfl) rfl) ?_
  all_goals refine oN ?_
  all_goals refine aS (aS (aR ?_))
  all_goals refine oC (oM rfl (Conv.of rfl) rfl) ?_
  all_goals refine oC (oE sl61 rfl rfl) ?_
  all_goals refine oC (oM rfl (Conv.of rfl) rfl) ?_
  all_goals refine oN ?_
  refine aB ?_
  refine awp_loop' (fun n s => ∃ (k : Nat), ∃ (hn : n + k = pays.length), s = mkSt 30 [(4, .box 6 (IsLens.whole WrldE)), (5, .box 0 (IsLens.whole WrldA)), (19, .v pays), (20, .v (pays.length : Int)), (21, .v (k : Int))] [(0, .cell (wA ((pays.take k).foldl calmF w))), (1, .arr ((pays.take k).foldl calmF w).nodes), (6, .cell WrldE.zero)]) (pays.length) ⟨0, by omega, rfl⟩ (Le.mk rfl (tlb rfl rfl rfl (tlb rfl rfl rfl (tle rfl (rfl) rfl (tle rfl (rfl) rfl (tle rfl (rfl) rfl tln))))) (olk (by rfl) (by exact obOkW rfl) (olk (by rfl) (by exact obOkD _) (olk rfl (by exact obOkE0) oln))) noS) ?_
  rintro n s ⟨k, hn, rfl⟩
  have hfine : Fine ((pays.take k).foldl calmF w) := calmFold_fine _ hf
  all_goals refine aS (aR ?_)
  all_goals refine oC (oLt rfl rfl rfl) ?_
  all_goals refine oN ?_
  refine aS (aC rfl (fun h => ?_) (fun h => ?_))
  · have hlt : k < pays.length := by simpa using h
    have hx : pays[k]? = some pays[k] := List.getElem?_eq_getElem hlt
    refine aW ?_
    refine aS (aB ?_)
    all_goals refine aS (aR ?_)
    all_goals refine oC (op_ix sl61 rfl rfl rfl (by omega) hx) ?_
    all_goals refine oC (oDR ty75 rfl rfl) ?_
    all_goals refine oC (oX (o := 7) z75 rfl rfl) ?_
    all_goals refine oC (op_st ty75 rfl rfl (Conv.of rfl) rfl) ?_
    all_goals refine oN ?_
    all_goals refine aR ?_
    all_goals refine oC (oD ty75 rfl rfl rfl) ?_
    all_goals refine oC (oLO fb84 (.cons rfl (Conv.of rfl) (.cons rfl (Conv.of rfl) (.nil _))) (calm_ct _ pays[k] hfine) (olsk rfl (olsk rfl ols0)) (kK (by exact obOkW rfl) (kK (by exact bA) k0)) (kK (by exact obOkW rfl) (kK (by exact bA) k0)) rfl (argOb rfl rfl rfl (argOk' rfl rfl argO0)) (fun o ho => by cases ho) rfl) ?_
    all_goals refine oN ?_
    all_goals refine aR ?_
    all_goals refine oC (oP rfl rfl rfl (by omega)) ?_
    all_goals refine oC (oM rfl (Conv.of rfl) rfl) ?_
    all_goals refine oN ?_
    repeat first | refine nS ?_ | refine nB ?_
    exact ⟨n - 1, _, by omega, ⟨k + 1, by omega, rfl⟩, Le.mk rfl (tlb rfl rfl rfl (tlb rfl rfl rfl (tle rfl (rfl) rfl (tle rfl (rfl) rfl (tle rfl (rfl) rfl tln))))) (olk (by (rw [foldl_at calmF _ hx]; rfl)) (by exact obOkW rfl) (olk (by (rw [foldl_at calmF _ hx]; rfl)) (by exact obOkD _) (olk rfl (by exact obOkE0) oln))) noS⟩
  · refine aE ?_
    repeat refine ex_seq ?_
    refine eB ?_
    have hk : pays.length ≤ k := by simpa using h
    have hp2 : (pays.take k).foldl calmF w = pays.foldl calmF w := by rw [take_end hk]
    rw [hp2] at hfine ⊢
    all_goals refine aS (aR ?_)
    all_goals refine oC (oD ty26_WrldA rfl rfl rfl) ?_
    refine awpOps_callO [(1, .arr (pays.foldl calmF w).nodes)] rfl fb66 (.cons rfl (Conv.of rfl) (.nil _)) (copiedA_dw _ hfine) (olsk rfl ols0) (kK bA k0) (argOb rfl rfl rfl argO0) rfl ?_
    rintro r h' ⟨rfl, rfl⟩
    refine ⟨[(1, .arr (pays.foldl calmF w).nodes), (2, .arr ((pays.foldl calmF w).nodes.map Nod.d))], rfl, fun o ho => ?_, fun o ho h1 => ?_, kK bA (kK (obOkD _) k0), fun o ho => ?_, ?_⟩
    · have : o = 1 := by simpa [keys, lk0] using ho
      subst this; rfl
    · by_cases e : o = 1
      · subst e; cases h1
      · have : o = 2 := by simpa [keys, lk0, e] using ho
        subst this; rfl
    · have : o = 2 := by simpa using (show o ∈ [2] from ho)
      subst this; rfl
    all_goals refine oC (op_stm ty26_WrldE rfl rfl rfl) ?_
    all_goals refine oN ?_
    refine aT ?_
    repeat first | refine rS ?_ | refine rB ?_
    refine ⟨_, _, res1C (ol := [(2, .arr ((pays.foldl calmF w).nodes.map Nod.d))]) ty26_WrldE rfl rfl (fun o ho => ?_) (olk rfl (obOkD _) oln) noS, rfl, rfl⟩
    have : o = 2 := by simpa using (show o ∈ [2] from ho)
    subst this; rfl
theorem playBad_d (bad : Int) (evs : List Evt) (hb : within bad 0 4 = false) : CtP Tryz.prog 17 [.v bad, .v evs] (.tup [.v Wrld.zero.d, .v false]) := by
  refine Ct.intro Tryz.func17 rfl rfl ?_
  all_goals refine aS (aR ?_)
  all_goals refine oC (oX (o := 0) z26_WrldD rfl rfl) ?_
  all_goals refine oC (oA rfl (Conv.of rfl) rfl) ?_
  all_goals refine oN ?_
  all_goals refine aS (aR ?_)
  all_goals refine oC (oM rfl (Conv.of rfl) rfl) ?_
  all_goals refine oC (oL fb64 (.cons rfl (Conv.of rfl) (.nil _)) (worldNewBad_ct bad hb) (aK rfl rfl aK0) rfl rfl) ?_
  all_goals refine oC (oM rfl (Conv.of rfl) rfl) ?_
  all_goals refine oC (op_ext rfl rfl rfl) ?_
  all_goals refine oC (op_ext rfl rfl rfl) ?_
  all_goals refine oC (oX (o := 1) z26_WrldA rfl rfl) ?_
  all_goals refine oC (op_st ty26_WrldA rfl rfl (Conv.of rfl) rfl) ?_
  all_goals refine oC (oA rfl (Conv.of rfl) rfl) ?_
  all_goals refine oN ?_
  all_goals refine aS (aS (aR ?_))
  all_goals refine oC (oM rfl (Conv.of rfl) rfl) ?_
  all_goals refine oC (op_not rfl rfl) ?_
  all_goals refine oC (oM rfl (Conv.of rfl) rfl) ?_
  all_goals refine g_lit (t := 17) (b := true) rfl ?_
  all_goals refine oC (gF rfl rfl rfl rfl rfl) ?_
  all_goals refine oC (gF rfl rfl rfl rfl rfl) ?_
  all_goals refine oC (gF rfl rfl rfl rfl rfl) ?_
  all_goals refine oC (oQ rfl rfl rfl rfl) ?_
  all_goals refine oN ?_
  refine aC rfl (fun h => ?_) (fun h => absurd h (by decide))
  all_goals refine aS (aR ?_)
  all_goals refine oC (op_build (.nil _) z26_WrldD rfl pl26 rfl) ?_
  all_goals refine oC (op_stm ty26_WrldD rfl rfl rfl) ?_
  all_goals refine oC (oA rfl (Conv.of rfl) rfl) ?_
  all_goals refine oN ?_
  refine aT ?_
  repeat first | refine rS ?_ | refine rB ?_
  exact ⟨_, _, rNM (ol := []) (.cell ty26_WrldD rfl rfl (.keep (.v rfl (Conv.of rfl)) (.nil _))) rfl (fun o ho => absurd (show o ∈ ([] : List Nat) from ho) (by simp)) oln noS, rfl, rfl⟩
theorem playLong_d (bad : Int) (evs : List Evt) (hb : within bad 0 4 = true) (hl : 70 < evs.length) : CtP Tryz.prog 17 [.v bad, .v evs] (.tup [.v Wrld.zero.d, .v false]) := by
  refine Ct.intro Tryz.func17 rfl rfl ?_
  all_goals refine aS (aR ?_)
  all_goals refine oC (oX (o := 5) z26_WrldD rfl rfl) ?_
  all_goals refine oC (oA rfl (Conv.of rfl) rfl) ?_
  all_goals refine oN ?_
  all_goals refine aS (aR ?_)
  all_goals refine oC (oM rfl (Conv.of rfl) rfl) ?_
  refine awpOps_callO [] rfl fb64 (.cons rfl (Conv.of rfl) (.nil _)) (worldNew_ct bad hb) ols0 k0 (argOk' rfl rfl argO0) rfl ?_
  rintro r h' ⟨rfl, rfl⟩
  refine ⟨[(1, .arr (newW bad).nodes)], rfl, (fun o ho => by cases ho), fun o ho _ => ?_, kK bA k0, fun o ho => ?_, ?_⟩
  · have : o = 1 := by simpa [keys, lk0] using ho
    subst this; rfl
  · have : o = 1 := by simpa using (show o ∈ [1] from ho)
    subst this; rfl
  all_goals refine oC (oM rfl (Conv.of rfl) rfl) ?_
  all_goals refine oC (op_ext rfl rfl rfl) ?_
  all_goals refine oC (op_ext rfl rfl rfl) ?_
  all_goals refine oC (oX (o := 0) z26_WrldA rfl rfl) ?_
  all_goals refine oC (op_st ty26_WrldA rfl rfl (Conv.of rfl) rfl) ?_
  all_goals refine oC (oA rfl (Conv.of rfl) rfl) ?_
  all_goals refine oN ?_
  all_goals refine aS (aS (aR ?_))
  all_goals refine oC (oM rfl (Conv.of rfl) rfl) ?_
  all_goals refine oC (op_not rfl rfl) ?_
  all_goals refine oC (oM rfl (Conv.of rfl) rfl) ?_
  all_goals refine g_lit (t := 17) (b := false) rfl ?_
  all_goals refine oC (gN rfl rfl rfl (oM rfl (Conv.of rfl) rfl)) ?_
  all_goals refine oC (gN rfl rfl rfl (oE sl45 rfl rfl)) ?_
  all_goals refine oC (gN rfl rfl rfl (op_gtr rfl rfl rfl)) ?_
  all_goals refine oC (oQ rfl rfl rfl rfl) ?_
  all_goals refine oN ?_
  refine aC rfl (fun h => ?_) (fun h => ?_)
  · all_goals refine aS (aR ?_)
    all_goals refine oC (op_build (.nil _) z26_WrldD rfl pl26 rfl) ?_
    all_goals refine oC (op_stm ty26_WrldD rfl rfl rfl) ?_
    all_goals refine oC (oA rfl (Conv.of rfl) rfl) ?_
    all_goals refine oN ?_
    refine aT ?_
    repeat first | refine rS ?_ | refine rB ?_
    exact ⟨_, _, rNM (ol := []) (.cell ty26_WrldD rfl rfl (.keep (.v rfl (Conv.of rfl)) (.nil _))) rfl (fun o ho => absurd (show o ∈ ([] : List Nat) from ho) (by simp)) oln noS, rfl, rfl⟩
  · exfalso
    simp at h
    omega
theorem playA_d (bad : Int) (evs : List Evt) (hb : within bad 0 4 = true) (hl : evs.length ≤ 70) : Ct Tryz.prog 17 [.v bad, .v evs] noObj (fun r1 h1 => r1 = .tup [.v (WrldE.mk (playF bad evs).epoch (.ref 2) ⟨(playF bad evs).log.map Vote.d, true⟩ (playF bad evs).bad), .v true] ∧ h1 = obs [(2, .arr ((playF bad evs).nodes.map Nod.d))]) := by
  refine Ct.intro Tryz.func17 rfl rfl ?_
  all_goals refine aS (aR ?_)
  all_goals refine oC (oX (o := 5) z26_WrldE rfl rfl) ?_
  all_goals refine oC (oA rfl (Conv.of rfl) rfl) ?_
  all_goals refine oN ?_
  all_goals refine aS (aR ?_)
  all_goals refine oC (oM rfl (Conv.of rfl) rfl) ?_
  refine awpOps_callO [] rfl fb64 (.cons rfl (Conv.of rfl) (.nil _)) (worldNew_ct bad hb) ols0 k0 (argOk' rfl rfl argO0) rfl ?_
  rintro r h' ⟨rfl, rfl⟩
  refine ⟨[(1, .arr (newW bad).nodes)], rfl, (fun o ho => by cases ho), fun o ho _ => ?_, kK bA k0, fun o ho => ?_, ?_⟩
  · have : o = 1 := by simpa [keys, lk0] using ho
    subst this; rfl
  · have : o = 1 := by simpa using (show o ∈ [1] from ho)
    subst this; rfl
  all_goals refine oC (oM rfl (Conv.of rfl) rfl) ?_
  all_goals refine oC (op_ext rfl rfl rfl) ?_
  all_goals refine oC (op_ext rfl rfl rfl) ?_
  all_goals refine oC (oX (o := 0) z26_WrldA rfl rfl) ?_
  all_goals refine oC (op_st ty26_WrldA rfl rfl (Conv.of rfl) rfl) ?_
  all_goals refine oC (oA rfl (Conv.of rfl) rfl) ?_
  all_goals refine oN ?_
  all_goals refine aS (aS (aR ?_))
  all_goals refine oC (oM rfl (Conv.of rfl) rfl) ?_
  all_goals refine oC (op_not rfl rfl) ?_
  all_goals refine oC (oM rfl (Conv.of rfl) rfl) ?_
  all_goals refine g_lit (t := 17) (b := false) rfl ?_
  all_goals refine oC (gN rfl rfl rfl (oM rfl (Conv.of rfl) rfl)) ?_
  all_goals refine oC (gN rfl rfl rfl (oE sl45 rfl rfl)) ?_
  all_goals refine oC (gN rfl rfl rfl (op_gtr rfl rfl rfl)) ?_
  all_goals refine oC (oQ rfl rfl rfl rfl) ?_
  all_goals refine oN ?_
  refine aC rfl (fun h => ?_) (fun h => ?_)
  · exfalso
    simp at h
    omega
  · refine aW ?_
    all_goals refine aS (aS (aR ?_))
    all_goals refine oC (oM rfl (Conv.of rfl) rfl) ?_
    all_goals refine oC (oE sl45 rfl rfl) ?_
    all_goals refine oC (oM rfl (Conv.of rfl) rfl) ?_
    all_goals refine oN ?_
    refine aB ?_
    refine awp_loop' (fun n s => ∃ (k : Nat), ∃ (hn : n + k = evs.length), s = mkSt 34 [(4, .box 5 (IsLens.whole WrldE)), (6, .box 0 (IsLens.whole WrldA)), (23, .v evs), (24, .v (evs.length : Int)), (25, .v (k : Int))] [(0, .cell (wA ((evs.take k).foldl doF (newW bad)))), (1, .arr ((evs.take k).foldl doF (newW bad)).nodes), (5, .cell WrldE.zero)]) (evs.length) ⟨0, by omega, rfl⟩ (Le.mk rfl (tlb rfl rfl rfl (tlb rfl rfl rfl (tle rfl (rfl) rfl (tle rfl (rfl) rfl (tle rfl (rfl) rfl tln))))) (olk (by rfl) (by exact obOkW rfl) (olk (by rfl) (by exact obOkD _) (olk rfl (by exact obOkE0) oln))) noS) ?_
    rintro n s ⟨k, hn, rfl⟩
    have hfine : Fine ((evs.take k).foldl doF (newW bad)) := foldl_fine _ (newW_fine bad)
    all_goals refine aS (aR ?_)
    all_goals refine oC (oLt rfl rfl rfl) ?_
    all_goals refine oN ?_
    refine aS (aC rfl (fun h => ?_) (fun h => ?_))
    · have hlt : k < evs.length := by simpa using h
      have hx : evs[k]? = some evs[k] := List.getElem?_eq_getElem hlt
      refine aW ?_
      refine aS (aB ?_)
      all_goals refine aS (aR ?_)
      all_goals refine oC (op_ix sl45 rfl rfl rfl (by omega) hx) ?_
      all_goals refine oC (oDR ty77 rfl rfl) ?_
      all_goals refine oC (oX (o := 6) z77 rfl rfl) ?_
      all_goals refine oC (op_st ty77 rfl rfl (Conv.of rfl) rfl) ?_
      all_goals refine oN ?_
      all_goals refine aR ?_
      all_goals refine oC (oD ty77 rfl rfl rfl) ?_
      all_goals refine oC (oLO fb65 (.cons rfl (Conv.of rfl) (.cons rfl (Conv.of rfl) (.nil _))) (do_ct _ evs[k] hfine) (olsk rfl (olsk rfl ols0)) (kK (by exact obOkW rfl) (kK (by exact bA) k0)) (kK (by exact obOkW rfl) (kK (by exact bA) k0)) rfl (argOb rfl rfl rfl (argOk' rfl rfl argO0)) (fun o ho => by cases ho) rfl) ?_
      all_goals refine oN ?_
      all_goals refine aR ?_
      all_goals refine oC (oP rfl rfl rfl (by omega)) ?_
      all_goals refine oC (oM rfl (Conv.of rfl) rfl) ?_
      all_goals refine oN ?_
      repeat first | refine nS ?_ | refine nB ?_
      exact ⟨n - 1, _, by omega, ⟨k + 1, by omega, rfl⟩, Le.mk rfl (tlb rfl rfl rfl (tlb rfl rfl rfl (tle rfl (rfl) rfl (tle rfl (rfl) rfl (tle rfl (rfl) rfl tln))))) (olk (by (rw [foldl_at doF _ hx]; rfl)) (by exact obOkW rfl) (olk (by (rw [foldl_at doF _ hx]; rfl)) (by exact obOkD _) (olk rfl (by exact obOkE0) oln))) noS⟩
    · refine aE ?_
      repeat refine ex_seq ?_
      refine eB ?_
      have hk : evs.length ≤ k := by simpa using h
      have hp : (evs.take k).foldl doF (newW bad) = playF bad evs := by rw [take_end hk]; rfl
      rw [hp] at hfine ⊢
      all_goals refine aS (aR ?_)
      all_goals refine oC (oD ty26_WrldA rfl rfl rfl) ?_
      refine awpOps_callO [(1, .arr (playF bad evs).nodes)] rfl fb66 (.cons rfl (Conv.of rfl) (.nil _)) (copiedA_dw _ hfine) (olsk rfl ols0) (kK bA k0) (argOb rfl rfl rfl argO0) rfl ?_
      rintro r h' ⟨rfl, rfl⟩
      refine ⟨[(1, .arr (playF bad evs).nodes), (2, .arr ((playF bad evs).nodes.map Nod.d))], rfl, fun o ho => ?_, fun o ho h1 => ?_, kK bA (kK (obOkD _) k0), fun o ho => ?_, ?_⟩
      · have : o = 1 := by simpa [keys, lk0] using ho
        subst this; rfl
      · by_cases e : o = 1
        · subst e; cases h1
        · have : o = 2 := by simpa [keys, lk0, e] using ho
          subst this; rfl
      · have : o = 2 := by simpa using (show o ∈ [2] from ho)
        subst this; rfl
      all_goals refine oC (op_stm ty26_WrldE rfl rfl rfl) ?_
      all_goals refine oC (oA rfl (Conv.of rfl) rfl) ?_
      all_goals refine oN ?_
      refine aT ?_
      repeat first | refine rS ?_ | refine rB ?_
      refine ⟨_, _, rNM (ol := [(2, .arr ((playF bad evs).nodes.map Nod.d))]) (.cell ty26_WrldE rfl rfl (.keep (.v rfl (Conv.of rfl)) (.nil _))) rfl (fun o ho => ?_) (olk rfl (obOkD _) oln) noS, rfl, rfl⟩
      have : o = 2 := by simpa using (show o ∈ [2] from ho)
      subst this; rfl
theorem big4d {w : Wrld} (h : w.nodes.length = 4) : (w.nodes.map Nod.d).length ≤ big := by rw [List.length_map, h]; decide
theorem worldDo_d (w : Wrld) (e : Evt) : CtP Tryz.prog 34 [.v w, .v e] (.v (worldDoR w e).d) := by
  unfold worldDoR
  cases h : worldOk w with
  | false => exact worldDoBad_d w e h
  | true => exact ct_ownW (big4d (doF_fine e (worldOk_iff.1 h).fx.fine).four) (worldDoA_d w e h)
theorem worldCalm_d (w : Wrld) (pays : List Pay) : CtP Tryz.prog 28 [.v w, .v pays] (.v (worldCalmR w pays).d) := by
  unfold worldCalmR
  cases h : worldOk w && decide (pays.length ≤ 30) with
  | false => exact worldCalmBad_d w pays h
  | true =>
    simp only [Bool.and_eq_true, decide_eq_true_eq] at h
    exact ct_ownW (big4d (calmFold_fine _ (worldOk_iff.1 h.1).fx.fine).four) (worldCalmA_d w pays h.1 h.2)
theorem play_d (bad : Int) (evs : List Evt) : CtP Tryz.prog 17 [.v bad, .v evs] (.tup [.v (playR bad evs).1.d, .v (playR bad evs).2]) := by
  unfold playR
  cases hb : within bad 0 4 with
  | false => exact playBad_d bad evs hb
  | true =>
    by_cases hl : evs.length ≤ 70
    · simp only [hl, decide_true, Bool.and_self, if_true]
      exact ct_ownWB (big4d (play4 bad evs)) (playA_d bad evs hb hl)
    · simp only [hl, decide_false, Bool.and_false]
      exact playLong_d bad evs hb (by omega)
end Go.Proofs.YtmhmeppocbcmeaaGreat

/- What further draws give. -/
set_option linter.unusedVariables false
set_option linter.unusedSimpArgs false
namespace Go.Wt
def gi (l : List Int) (i : Int) : Int := l.getD i.toNat 0
def anyPayF (r : Rd) : Pay × Rd :=
  if pk (nx r 3) 12 = 0 then ({ payV r with to := (payV r).frm }, nx r 4) else
  if pk (nx r 3) 12 = 1 then ({ payV r with sum := gi [0, 10] (pk (nx r 4) 2) }, nx r 5) else
  if pk (nx r 3) 12 = 2 then ({ payV r with frm := gi [0, 4] (pk (nx r 4) 2) }, nx r 5) else (payV r, nx r 4)
/-- A chain, seldom spoilt. -/
def offAt (c : List Itm) (r : Rd) : List Itm × Rd :=
  if pk r 16 = 0 then (c ++ [⟨pk (nx r 1) 4, (anyPayF (nx r 2)).1⟩], (anyPayF (nx r 2)).2) else
  if pk r 16 = 1 then (if 0 < c.length then (c.set (pk (nx r 1) c.length).toNat { c.getD (pk (nx r 1) c.length).toNat Itm.zero with epoch := gi [0, 30, 31] (pk (nx r 2) 3) }, nx r 3) else (c, nx r 1)) else
  if pk r 16 = 2 then (if 0 < c.length then (c.set (pk (nx r 1) c.length).toNat { c.getD (pk (nx r 1) c.length).toNat Itm.zero with pay := (anyPayF (nx r 2)).1 }, (anyPayF (nx r 2)).2) else (c, nx r 1)) else (c, nx r 1)
def offF (r : Rd) : List Itm × Rd := offAt (chainV r) (chainR r)
/-- A vote's chain, if nothing is drawn. -/
def voteC (c : List Itm) (r : Rd) : List Itm × Rd :=
  if c.length = 0 then (if 0 < pk r 4 then ([⟨1 + pk (nx r 1) 3, payV (nx r 2)⟩], nx r 5) else (c, nx r 1)) else (c, r)
def voteB (b : Int) (r : Rd) : Int × Rd := if pk r 16 = 0 then (gi [0, 5] (pk (nx r 1) 2), nx r 2) else (b, nx r 1)
def voteDF (r : Rd) : Vote × Rd :=
  (⟨(voteB (1 + pk r 4) (voteC (offF (nx r 1)).1 (offF (nx r 1)).2).2).1, (voteC (offF (nx r 1)).1 (offF (nx r 1)).2).1⟩, (voteB (1 + pk r 4) (voteC (offF (nx r 1)).1 (offF (nx r 1)).2).2).2)
instance (n : Nod) : Grow Vote (.v (sN n).seen) n.seen := inferInstanceAs (Grow Vote (.v (OList.mk n.seen true)) n.seen)
instance (w : Wrld) : Grow Vote (.v (sW w).log) w.log := inferInstanceAs (Grow Vote (.v (OList.mk w.log true)) w.log)
/-- A world of a drawn one's size. -/
structure Lw (w : Wrld) : Prop where
  ep : -100 ≤ w.epoch ∧ w.epoch ≤ 100
  four : w.nodes.length = 4
  ll : w.log.length ≤ 100
  lc : ∀ v ∈ w.log, v.chain.length ≤ 30
  sl : ∀ n ∈ w.nodes, n.seen.length ≤ 100 ∧ ∀ v ∈ n.seen, v.chain.length ≤ 30
end Go.Wt

/- The reference: further draws. -/
set_option linter.unusedVariables false
set_option linter.unusedSimpArgs false
namespace Go.Proofs.YtmhmeppocbcmeaaGreat
open Go Go.Wt
end Go.Proofs.YtmhmeppocbcmeaaGreat

/- The reference: draws of events in a plain world. -/
set_option linter.unusedVariables false
set_option linter.unusedSimpArgs false
namespace Go.Proofs.YtmhmeppocbcmeaaGreat
open Go Go.Wt
end Go.Proofs.YtmhmeppocbcmeaaGreat

/- The reference: drawn worlds, and what happens in them. -/
set_option linter.unusedVariables false
set_option linter.unusedSimpArgs false
namespace Go.Proofs.YtmhmeppocbcmeaaGreat
open Go Go.Wt
end Go.Proofs.YtmhmeppocbcmeaaGreat

/- The reference: a drawn world and an event; a drawn world and payments. -/
set_option linter.unusedVariables false
set_option linter.unusedSimpArgs false
namespace Go.Proofs.YtmhmeppocbcmeaaGreat
open Go Go.Wt
end Go.Proofs.YtmhmeppocbcmeaaGreat

/- The reference: votes, nodes and worlds in form; copies. -/
set_option linter.unusedVariables false
set_option linter.unusedSimpArgs false
namespace Go.Proofs.YtmhmeppocbcmeaaGreat
open Go Go.Wt
theorem sVotesOk_ct (l : List Vote) : CtP Tryz.prog 51 [.v l] (.v (votesOk l)) := by
  refine Ct.intro Tryz.func51 rfl rfl ?_
  refine awp_bigL 0 rfl (fun hB => ?_)
  all_goals refine aS (aR ?_)
  all_goals refine oC (oA rfl (Conv.of rfl) rfl) ?_
  all_goals refine oN ?_
  all_goals refine aS (aS (aR ?_))
  all_goals refine oC (oA rfl (Conv.of rfl) rfl) ?_
  all_goals refine oN ?_
  refine aB ?_
  refine awp_loop' (fun n_ s => ∃ (k : Nat), ∃ (hn : n_ + k = l.length), ∃ (hall : votesOk l = votesOkFrom (l.take k) (l.drop k)), s = mkSt 26 [(0, .v l), (3, .v (k : Int))] []) (l.length) ⟨0, by omega, rfl, rfl⟩ (Le.mk rfl (tle rfl (rfl) rfl (tle rfl (rfl) rfl tln)) oln noS) ?_
  rintro n_ s ⟨k, hn, hall, rfl⟩
  all_goals refine aS (aS (aR ?_))
  all_goals refine oC (oM rfl (Conv.of rfl) rfl) ?_
  all_goals refine oC (oM rfl (Conv.of rfl) rfl) ?_
  all_goals refine oC (oE sl24 rfl rfl) ?_
  all_goals refine oC (oLt rfl rfl rfl) ?_
  all_goals refine oN ?_
  refine aC rfl (fun h => ?_) (fun h => ?_)
  · have hlt : k < l.length := by simpa using h
    have hx : l[k]? = some l[k] := List.getElem?_eq_getElem hlt
    generalize l[k] = x at hx
    have hs := votesOk_drop hx
    refine aW ?_
    refine aS (aB ?_)
    refine aST (s' := mkSt 26 [(0, .v l), (3, .v (k : Int)), (25, .v (!(voteOk x && !decide (x ∈ l.take k))))] []) ?_ ?_
    · all_goals refine dS ?_
      all_goals refine dC (oM rfl (Conv.of rfl) rfl) ?_
      all_goals refine dC (oM rfl (Conv.of rfl) rfl) ?_
      all_goals refine dC (op_ix sl24 rfl rfl rfl (by omega) hx) ?_
      all_goals refine dC (oDR ty38 rfl rfl) ?_
      all_goals refine dC (oL fb108 (.cons rfl (Conv.of rfl) (.nil _)) (l3Vote_ct _) (aK rfl rfl aK0) rfl rfl) ?_
      all_goals refine dC (op_not rfl rfl) ?_
      all_goals refine dC (oM rfl (Conv.of rfl) rfl) ?_
      all_goals refine dr_split (t := 16) rfl (fun h => ?_) (fun h => ?_)
      all_goals first | refine dC (gF rfl rfl rfl rfl rfl) ?_ | refine dC (gN rfl rfl rfl (oM rfl (Conv.of rfl) rfl)) ?_
      all_goals first | refine dC (gF rfl rfl rfl rfl rfl) ?_ | refine dC (gN rfl rfl rfl (oM rfl (Conv.of rfl) rfl)) ?_
      all_goals first | refine dC (gF rfl rfl rfl rfl rfl) ?_ | refine dC (gN rfl rfl rfl (op_slh sl24 rfl rfl rfl ⟨by omega, by omega⟩)) ?_
      all_goals first | refine dC (gF rfl rfl rfl rfl rfl) ?_ | refine dC (gN rfl rfl rfl (oM rfl (Conv.of rfl) rfl)) ?_
      all_goals first | refine dC (gF rfl rfl rfl rfl rfl) ?_ | refine dC (gN rfl rfl rfl (oM rfl (Conv.of rfl) rfl)) ?_
      all_goals first | refine dC (gF rfl rfl rfl rfl rfl) ?_ | refine dC (gN rfl rfl rfl (op_ix sl24 rfl rfl rfl (by omega) hx)) ?_
      all_goals first | refine dC (gF rfl rfl rfl rfl rfl) ?_ | refine dC (gN rfl rfl rfl (oDR ty38 rfl rfl)) ?_
      all_goals first | refine dC (gF rfl rfl rfl rfl rfl) ?_ | refine dC (gN rfl rfl rfl (oL fb106 (.cons rfl (Conv.of rfl) (.cons rfl (Conv.of rfl) (.nil _))) (l3Has_ct _ _) (aK rfl rfl (aK rfl rfl aK0)) rfl rfl)) ?_
      all_goals refine dC (oQ rfl rfl rfl rfl) ?_
      all_goals refine dr_nil mixed rfl ?_
      all_goals exact Le.mk rfl (tle rfl (rfl) rfl (tle rfl (rfl) rfl (tle rfl (by (clear hall hs; simp_all)) rfl tln))) oln noS
    refine aC rfl (fun h => ?_) (fun h => ?_)
    · all_goals refine aS (aR ?_)
      all_goals refine oC (oA rfl (Conv.of rfl) rfl) ?_
      all_goals refine oN ?_
      refine aT ?_
      repeat first | refine rS ?_ | refine rB ?_
      refine finP (.v rfl (Conv.of rfl)) rfl ?_
      show AV.v false = _
      rw [hall, hs, not_t h, Bool.false_and]
    · refine aW ?_
      all_goals refine aR ?_
      all_goals refine oC (oM rfl (Conv.of rfl) rfl) ?_
      all_goals refine oC (oP rfl rfl rfl (by omega)) ?_
      all_goals refine oC (oA rfl (Conv.of rfl) rfl) ?_
      all_goals refine oN ?_
      repeat first | refine nS ?_ | refine nB ?_
      exact ⟨n_ - 1, _, by omega, ⟨k + 1, by omega, by rw [hall, hs, not_f h, Bool.true_and], rfl⟩, Le.mk rfl (tle rfl (rfl) rfl (tle rfl (rfl) rfl tln)) oln noS⟩
  · refine aE ?_
    repeat refine ex_seq ?_
    refine eB ?_
    have hk : l.length ≤ k := by simpa using h
    all_goals refine aS (aR ?_)
    all_goals refine oC (oA rfl (Conv.of rfl) rfl) ?_
    all_goals refine oN ?_
    refine aT ?_
    repeat first | refine rS ?_ | refine rB ?_
    refine finP (.v rfl (Conv.of rfl)) rfl ?_
    show AV.v true = _
    rw [hall, drop_end hk]; rfl
set_option maxHeartbeats 4000000 in
theorem sNodeOk_ct (n : Nod) : CtP Tryz.prog 52 [.v n] (.v (nodeOk n)) := by
  refine Ct.intro Tryz.func52 rfl rfl ?_
  all_goals refine aS (aR ?_)
  all_goals refine oC (op_box (o := 0) ty90 rfl (Conv.of rfl) rfl rfl) ?_
  all_goals refine oC (oA rfl (Conv.of rfl) rfl) ?_
  all_goals refine oN ?_
  refine aS (aST (s' := mkSt 66 [(1, .box 0 (IsLens.whole Nod)), (34, .v (!nodeOk0 n))] [(0, .cell n)]) ?_ ?_)
  · all_goals refine aR ?_
    all_goals refine oC (oF f90_0 rfl rfl) ?_
    all_goals refine oC (oD ty3 rfl rfl rfl) ?_
    all_goals refine oC (oL fb50 (.cons rfl (Conv.of rfl) (.cons rfl (Conv.of rfl) (.cons rfl (Conv.of rfl) (.nil _)))) (l6In_ct _ _ _) (aK rfl rfl (aK rfl rfl (aK rfl rfl aK0))) rfl rfl) ?_
    all_goals refine oC (op_not rfl rfl) ?_
    all_goals refine oC (oM rfl (Conv.of rfl) rfl) ?_
    all_goals refine g_split (t := 9) rfl (fun h => ?_) (fun h => ?_)
    all_goals first | refine oC (gF rfl rfl rfl rfl rfl) ?_ | refine oC (gN rfl rfl rfl (oF f90_1 rfl rfl)) ?_
    all_goals first | refine oC (gF rfl rfl rfl rfl rfl) ?_ | refine oC (gN rfl rfl rfl (oD ty3 rfl rfl rfl)) ?_
    all_goals first | refine oC (gF rfl rfl rfl rfl rfl) ?_ | refine oC (gN rfl rfl rfl (oL fb50 (.cons rfl (Conv.of rfl) (.cons rfl (Conv.of rfl) (.cons rfl (Conv.of rfl) (.nil _)))) (l6In_ct _ _ _) (aK rfl rfl (aK rfl rfl (aK rfl rfl aK0))) rfl rfl)) ?_
    all_goals first | refine oC (gF rfl rfl rfl rfl rfl) ?_ | refine oC (gN rfl rfl rfl (op_not rfl rfl)) ?_
    all_goals refine oC (oQ rfl rfl rfl rfl) ?_
    all_goals refine oC (oM rfl (Conv.of rfl) rfl) ?_
    all_goals first | refine g_lit (t := 15) (b := true) rfl ?_ | refine g_split (t := 15) rfl (fun h => ?_) (fun h => ?_)
    all_goals first | refine oC (gF rfl rfl rfl rfl rfl) ?_ | refine oC (gN rfl rfl rfl (oF f90_2 rfl rfl)) ?_
    all_goals first | refine oC (gF rfl rfl rfl rfl rfl) ?_ | refine oC (gN rfl rfl rfl (oD ty3 rfl rfl rfl)) ?_
    all_goals first | refine oC (gF rfl rfl rfl rfl rfl) ?_ | refine oC (gN rfl rfl rfl (oF f90_1 rfl rfl)) ?_
    all_goals first | refine oC (gF rfl rfl rfl rfl rfl) ?_ | refine oC (gN rfl rfl rfl (oD ty3 rfl rfl rfl)) ?_
    all_goals first | refine oC (gF rfl rfl rfl rfl rfl) ?_ | refine oC (gN rfl rfl rfl (oL fb50 (.cons rfl (Conv.of rfl) (.cons rfl (Conv.of rfl) (.cons rfl (Conv.of rfl) (.nil _)))) (l6In_ct _ _ _) (aK rfl rfl (aK rfl rfl (aK rfl rfl aK0))) rfl rfl)) ?_
    all_goals first | refine oC (gF rfl rfl rfl rfl rfl) ?_ | refine oC (gN rfl rfl rfl (op_not rfl rfl)) ?_
    all_goals refine oC (oQ rfl rfl rfl rfl) ?_
    all_goals refine oC (oM rfl (Conv.of rfl) rfl) ?_
    all_goals first | refine g_lit (t := 23) (b := true) rfl ?_ | refine g_split (t := 23) rfl (fun h => ?_) (fun h => ?_)
    all_goals first | refine oC (gF rfl rfl rfl rfl rfl) ?_ | refine oC (gN rfl rfl rfl (oF f90_3 rfl rfl)) ?_
    all_goals first | refine oC (gF rfl rfl rfl rfl rfl) ?_ | refine oC (gN rfl rfl rfl (oD ty24 rfl rfl rfl)) ?_
    all_goals first | refine oC (gF rfl rfl rfl rfl rfl) ?_ | refine oC (gN rfl rfl rfl (oE sl24 rfl rfl)) ?_
    all_goals first | refine oC (gF rfl rfl rfl rfl rfl) ?_ | refine oC (gN rfl rfl rfl (op_gtr rfl rfl rfl)) ?_
    all_goals refine oC (oQ rfl rfl rfl rfl) ?_
    all_goals refine oC (oM rfl (Conv.of rfl) rfl) ?_
    all_goals first | refine g_lit (t := 29) (b := true) rfl ?_ | refine g_split (t := 29) rfl (fun h => ?_) (fun h => ?_)
    all_goals first | refine oC (gF rfl rfl rfl rfl rfl) ?_ | refine oC (gN rfl rfl rfl (oF f90_3 rfl rfl)) ?_
    all_goals first | refine oC (gF rfl rfl rfl rfl rfl) ?_ | refine oC (gN rfl rfl rfl (oD ty24 rfl rfl rfl)) ?_
    all_goals first | refine oC (gF rfl rfl rfl rfl rfl) ?_ | refine oC (gN rfl rfl rfl (oL fb51 (.cons rfl (Conv.of rfl) (.nil _)) (sVotesOk_ct _) (aK rfl rfl aK0) rfl rfl)) ?_
    all_goals first | refine oC (gF rfl rfl rfl rfl rfl) ?_ | refine oC (gN rfl rfl rfl (op_not rfl rfl)) ?_
    all_goals refine oC (oQ rfl rfl rfl rfl) ?_
    all_goals refine oN ?_
    all_goals exact Le.mk rfl (tlb rfl rfl rfl (tle rfl (by (show AV.v _ = AV.v _; unfold nodeOk0; simp_all; try omega)) rfl tln)) (olk rfl (by exact bC) oln) noS
  refine aC rfl (fun h => ?_) (fun h => ?_)
  · all_goals refine aS (aR ?_)
    all_goals refine oC (oA rfl (Conv.of rfl) rfl) ?_
    all_goals refine oN ?_
    refine aT ?_
    repeat first | refine rS ?_ | refine rB ?_
    refine finP (.v rfl (Conv.of rfl)) rfl ?_
    show AV.v false = _
    rw [nodeOk, not_t h]; rfl
  · have h0 := not_f h
    have h0' := h0
    simp only [nodeOk0, Bool.and_eq_true] at h0'
    have hvo := votesOk_mem h0'.2
    have hall0 : nodeOk n = !(n.seen.any (late n)) := by rw [nodeOk, h0, Bool.true_and]
    refine aW ?_
    all_goals refine aS (aS (aR ?_))
    all_goals refine oC (oA rfl (Conv.of rfl) rfl) ?_
    all_goals refine oN ?_
    refine aB ?_
    refine awp_loop' (fun n_ s => ∃ (k : Nat), ∃ (hn : n_ + k = n.seen.length), ∃ (hall : nodeOk n = !((n.seen.drop k).any (late n))), s = mkSt 66 [(1, .box 0 (IsLens.whole Nod)), (3, .v (k : Int))] [(0, .cell n)]) (n.seen.length) ⟨0, by omega, hall0, rfl⟩ (Le.mk rfl (tlb rfl rfl rfl (tle rfl (rfl) rfl tln)) (olk rfl (by exact bC) oln) noS) ?_
    rintro n_ s ⟨k, hn, hall, rfl⟩
    all_goals refine aS (aS (aR ?_))
    all_goals refine oC (oM rfl (Conv.of rfl) rfl) ?_
    all_goals refine oC (oF f90_3 rfl rfl) ?_
    all_goals refine oC (oD ty24 rfl rfl rfl) ?_
    refine awpOps_bigL 37 rfl (fun hB => ?_)
    all_goals refine oC (oE sl24 rfl rfl) ?_
    all_goals refine oC (oLt rfl rfl rfl) ?_
    all_goals refine oN ?_
    refine aC rfl (fun h => ?_) (fun h => ?_)
    · have hlt : k < n.seen.length := by simpa using h
      have hx : n.seen[k]? = some n.seen[k] := List.getElem?_eq_getElem hlt
      generalize n.seen[k] = x at hx
      have hp := voteOk_pos (hvo x (List.mem_of_getElem? hx))
      have hcl := chainOk_len (voteOk_chain (hvo x (List.mem_of_getElem? hx)))
      have hd := drop_at hx
      have hy : x.chain[((x.chain.length : Int) - 1).toNat]? = some (x.chain[x.chain.length - 1]'(by omega)) := by
        rw [show ((x.chain.length : Int) - 1).toNat = x.chain.length - 1 by omega]; exact List.getElem?_eq_getElem (by omega)
      have hle : lastEp x.chain = (x.chain[x.chain.length - 1]'(by omega)).epoch := lastEp_get (List.getElem?_eq_getElem (by omega))
      generalize x.chain[x.chain.length - 1]'(by omega) = y at hy hle
      have hlate : late n x = (decide (x.by_ = n.id) && decide (n.voted < y.epoch)) := by unfold late; rw [hle]
      refine aW ?_
      refine aS (aB ?_)
      all_goals refine aS (aR ?_)
      all_goals refine oC (oF f90_3 rfl rfl) ?_
      all_goals refine oC (oD ty24 rfl rfl rfl) ?_
      all_goals refine oC (oM rfl (Conv.of rfl) rfl) ?_
      all_goals refine oC (op_ix sl24 rfl rfl rfl (by omega) hx) ?_
      all_goals refine oC (oDR ty38 rfl rfl) ?_
      all_goals refine oC (oX (o := 1) z38 rfl rfl) ?_
      all_goals refine oC (op_st ty38 rfl rfl (Conv.of rfl) rfl) ?_
      all_goals refine oN ?_
      refine aST (s' := mkSt 66 [(1, .box 0 (IsLens.whole Nod)), (3, .v (k : Int)), (65, .v (late n x))] [(0, .cell n)]) ?_ ?_
      · all_goals refine dS ?_
        all_goals refine dC (oF f38_0 rfl rfl) ?_
        all_goals refine dC (oD ty3 rfl rfl rfl) ?_
        all_goals refine dC (oF f90_0 rfl rfl) ?_
        all_goals refine dC (oD ty3 rfl rfl rfl) ?_
        all_goals refine dC (op_eql rfl rfl rfl) ?_
        all_goals refine dC (oM rfl (Conv.of rfl) rfl) ?_
        all_goals refine dr_split (t := 52) rfl (fun h => ?_) (fun h => ?_)
        all_goals first | refine dC (gF rfl rfl rfl rfl rfl) ?_ | refine dC (gN rfl rfl rfl (oF f38_1 rfl rfl)) ?_
        all_goals first | refine dC (gF rfl rfl rfl rfl rfl) ?_ | refine dC (gN rfl rfl rfl (oD ty27 rfl rfl rfl)) ?_
        all_goals first | refine dC (gF rfl rfl rfl rfl rfl) ?_ | refine dC (gN rfl rfl rfl (oF f38_1 rfl rfl)) ?_
        all_goals first | refine dC (gF rfl rfl rfl rfl rfl) ?_ | refine dC (gN rfl rfl rfl (oD ty27 rfl rfl rfl)) ?_
        all_goals first | refine dC (gF rfl rfl rfl rfl rfl) ?_ | refine dC (gN rfl rfl rfl (oE sl27 rfl rfl)) ?_
        all_goals first | refine dC (gF rfl rfl rfl rfl rfl) ?_ | refine dC (gN rfl rfl rfl (op_sub rfl rfl rfl (by omega))) ?_
        all_goals first | refine dC (gF rfl rfl rfl rfl rfl) ?_ | refine dC (gN rfl rfl rfl (op_ix sl27 rfl rfl rfl (by omega) hy)) ?_
        all_goals first | refine dC (gF rfl rfl rfl rfl rfl) ?_ | refine dC (gN rfl rfl rfl (oFR f143_0 rfl rfl)) ?_
        all_goals first | refine dC (gF rfl rfl rfl rfl rfl) ?_ | refine dC (gN rfl rfl rfl (oDR ty3 rfl rfl)) ?_
        all_goals first | refine dC (gF rfl rfl rfl rfl rfl) ?_ | refine dC (gN rfl rfl rfl (oF f90_2 rfl rfl)) ?_
        all_goals first | refine dC (gF rfl rfl rfl rfl rfl) ?_ | refine dC (gN rfl rfl rfl (oD ty3 rfl rfl rfl)) ?_
        all_goals first | refine dC (gF rfl rfl rfl rfl rfl) ?_ | refine dC (gN rfl rfl rfl (op_gtr rfl rfl rfl)) ?_
        all_goals refine dC (oQ rfl rfl rfl rfl) ?_
        all_goals refine dr_nil mixed rfl ?_
        all_goals exact Le.mk rfl (tlb rfl rfl rfl (tle rfl (rfl) rfl (tle rfl (by (show AV.v _ = AV.v _; rw [hlate]; clear hall hd hall0; simp_all)) rfl tln))) (olk rfl (by exact bC) oln) noS
      refine aC rfl (fun h2 => ?_) (fun h2 => ?_)
      · all_goals refine aS (aR ?_)
        all_goals refine oC (oA rfl (Conv.of rfl) rfl) ?_
        all_goals refine oN ?_
        refine aT ?_
        repeat first | refine rS ?_ | refine rB ?_
        refine finP (.v rfl (Conv.of rfl)) rfl ?_
        show AV.v false = _
        rw [hall, hd, List.any_cons, h2]; rfl
      · refine aW ?_
        all_goals refine aR ?_
        all_goals refine oC (oM rfl (Conv.of rfl) rfl) ?_
        all_goals refine oC (oP rfl rfl rfl (by omega)) ?_
        all_goals refine oC (oA rfl (Conv.of rfl) rfl) ?_
        all_goals refine oN ?_
        repeat first | refine nS ?_ | refine nB ?_
        exact ⟨n_ - 1, _, by omega, ⟨k + 1, by omega, by rw [hall, hd, List.any_cons, h2, Bool.false_or], rfl⟩, Le.mk rfl (tlb rfl rfl rfl (tle rfl (rfl) rfl tln)) (olk rfl (by exact bC) oln) noS⟩
    · refine aE ?_
      repeat refine ex_seq ?_
      refine eB ?_
      have hk : n.seen.length ≤ k := by simpa using h
      all_goals refine aS (aR ?_)
      all_goals refine oC (oA rfl (Conv.of rfl) rfl) ?_
      all_goals refine oN ?_
      refine aT ?_
      repeat first | refine rS ?_ | refine rB ?_
      refine finP (.v rfl (Conv.of rfl)) rfl ?_
      show AV.v true = _
      rw [hall, drop_end hk]; rfl
theorem l21All_ct (w : Wrld) (l : List Vote) : CtP Tryz.prog 48 [.v w, .v l] (.v (!(l.any fun v => !shownB w v))) := by
  refine Ct.intro Tryz.func48 rfl rfl ?_
  refine awp_bigL 1 rfl (fun hB => ?_)
  all_goals refine aS (aR ?_)
  all_goals refine oC (op_box (o := 0) ty26 rfl (Conv.of rfl) rfl rfl) ?_
  all_goals refine oC (oA rfl (Conv.of rfl) rfl) ?_
  all_goals refine oN ?_
  all_goals refine aS (aS (aR ?_))
  all_goals refine oC (oA rfl (Conv.of rfl) rfl) ?_
  all_goals refine oN ?_
  refine aB ?_
  refine awp_loop' (fun n_ s => ∃ (k : Nat), ∃ (hn : n_ + k = l.length), ∃ (hall : (l.any fun v => !shownB w v) = ((l.drop k).any fun v => !shownB w v)), s = mkSt 30 [(1, .v l), (2, .box 0 (IsLens.whole Wrld)), (5, .v (k : Int))] [(0, .cell w)]) (l.length) ⟨0, by omega, rfl, rfl⟩ (Le.mk rfl (tle rfl (rfl) rfl (tlb rfl rfl rfl (tle rfl (rfl) rfl tln))) (olk rfl (by exact bC) oln) noS) ?_
  rintro n_ s ⟨k, hn, hall, rfl⟩
  all_goals refine aS (aS (aR ?_))
  all_goals refine oC (oM rfl (Conv.of rfl) rfl) ?_
  all_goals refine oC (oM rfl (Conv.of rfl) rfl) ?_
  all_goals refine oC (oE sl24 rfl rfl) ?_
  all_goals refine oC (oLt rfl rfl rfl) ?_
  all_goals refine oN ?_
  refine aC rfl (fun h => ?_) (fun h => ?_)
  · have hlt : k < l.length := by simpa using h
    have hx : l[k]? = some l[k] := List.getElem?_eq_getElem hlt
    generalize l[k] = x at hx
    have hd := drop_at hx
    refine aW ?_
    refine aS (aB ?_)
    refine aST (s' := mkSt 30 [(1, .v l), (2, .box 0 (IsLens.whole Wrld)), (5, .v (k : Int)), (29, .v (!shownB w x))] [(0, .cell w)]) ?_ ?_
    · all_goals refine dS ?_
      all_goals refine dC (oM rfl (Conv.of rfl) rfl) ?_
      all_goals refine dC (oM rfl (Conv.of rfl) rfl) ?_
      all_goals refine dC (op_ix sl24 rfl rfl rfl (by omega) hx) ?_
      all_goals refine dC (oFR f38_0 rfl rfl) ?_
      all_goals refine dC (oDR ty3 rfl rfl) ?_
      all_goals refine dC (oF f26_3 rfl rfl) ?_
      all_goals refine dC (oD ty3 rfl rfl rfl) ?_
      all_goals refine dC (op_neq rfl rfl rfl) ?_
      all_goals refine dC (oM rfl (Conv.of rfl) rfl) ?_
      all_goals refine dr_split (t := 20) rfl (fun h => ?_) (fun h => ?_)
      all_goals first | refine dC (gF rfl rfl rfl rfl rfl) ?_ | refine dC (gN rfl rfl rfl (oF f26_2 rfl rfl)) ?_
      all_goals first | refine dC (gF rfl rfl rfl rfl rfl) ?_ | refine dC (gN rfl rfl rfl (oD ty24 rfl rfl rfl)) ?_
      all_goals first | refine dC (gF rfl rfl rfl rfl rfl) ?_ | refine dC (gN rfl rfl rfl (oM rfl (Conv.of rfl) rfl)) ?_
      all_goals first | refine dC (gF rfl rfl rfl rfl rfl) ?_ | refine dC (gN rfl rfl rfl (oM rfl (Conv.of rfl) rfl)) ?_
      all_goals first | refine dC (gF rfl rfl rfl rfl rfl) ?_ | refine dC (gN rfl rfl rfl (op_ix sl24 rfl rfl rfl (by omega) hx)) ?_
      all_goals first | refine dC (gF rfl rfl rfl rfl rfl) ?_ | refine dC (gN rfl rfl rfl (oDR ty38 rfl rfl)) ?_
      all_goals first | refine dC (gF rfl rfl rfl rfl rfl) ?_ | refine dC (gN rfl rfl rfl (oL fb106 (.cons rfl (Conv.of rfl) (.cons rfl (Conv.of rfl) (.nil _))) (l3Has_ct _ _) (aK rfl rfl (aK rfl rfl aK0)) rfl rfl)) ?_
      all_goals first | refine dC (gF rfl rfl rfl rfl rfl) ?_ | refine dC (gN rfl rfl rfl (op_not rfl rfl)) ?_
      all_goals refine dC (oQ rfl rfl rfl rfl) ?_
      all_goals refine dr_nil mixed rfl ?_
      all_goals exact Le.mk rfl (tle rfl (rfl) rfl (tlb rfl rfl rfl (tle rfl (rfl) rfl (tle rfl (by (show AV.v _ = AV.v _; unfold shownB; clear hall hd; simp_all)) rfl tln)))) (olk rfl (by exact bC) oln) noS
    refine aC rfl (fun h2 => ?_) (fun h2 => ?_)
    · all_goals refine aS (aR ?_)
      all_goals refine oC (oA rfl (Conv.of rfl) rfl) ?_
      all_goals refine oN ?_
      refine aT ?_
      repeat first | refine rS ?_ | refine rB ?_
      refine finP (.v rfl (Conv.of rfl)) rfl ?_
      show AV.v false = _
      rw [hall, hd, List.any_cons, h2]; rfl
    · refine aW ?_
      all_goals refine aR ?_
      all_goals refine oC (oM rfl (Conv.of rfl) rfl) ?_
      all_goals refine oC (oP rfl rfl rfl (by omega)) ?_
      all_goals refine oC (oA rfl (Conv.of rfl) rfl) ?_
      all_goals refine oN ?_
      repeat first | refine nS ?_ | refine nB ?_
      exact ⟨n_ - 1, _, by omega, ⟨k + 1, by omega, by rw [hall, hd, List.any_cons, h2, Bool.false_or], rfl⟩, Le.mk rfl (tle rfl (rfl) rfl (tlb rfl rfl rfl (tle rfl (rfl) rfl tln))) (olk rfl (by exact bC) oln) noS⟩
  · refine aE ?_
    repeat refine ex_seq ?_
    refine eB ?_
    have hk : l.length ≤ k := by simpa using h
    all_goals refine aS (aR ?_)
    all_goals refine oC (oA rfl (Conv.of rfl) rfl) ?_
    all_goals refine oN ?_
    refine aT ?_
    repeat first | refine rS ?_ | refine rB ?_
    refine finP (.v rfl (Conv.of rfl)) rfl ?_
    show AV.v true = _
    rw [hall, drop_end hk]; rfl
set_option maxHeartbeats 4000000 in
theorem sWorldOk_ct (w : Wrld) : CtP Tryz.prog 10 [.v w] (.v (worldOk w)) := by
  refine Ct.intro Tryz.func10 rfl rfl ?_
  all_goals refine aS (aR ?_)
  all_goals refine oC (op_box (o := 0) ty26 rfl (Conv.of rfl) rfl rfl) ?_
  all_goals refine oC (oA rfl (Conv.of rfl) rfl) ?_
  all_goals refine oN ?_
  refine aS (aST (s' := mkSt 69 [(1, .box 0 (IsLens.whole Wrld)), (32, .v (!worldOk0 w))] [(0, .cell w)]) ?_ ?_)
  · all_goals refine aR ?_
    all_goals refine oC (oF f26_0 rfl rfl) ?_
    all_goals refine oC (oD ty3 rfl rfl rfl) ?_
    all_goals refine oC (oL fb50 (.cons rfl (Conv.of rfl) (.cons rfl (Conv.of rfl) (.cons rfl (Conv.of rfl) (.nil _)))) (l6In_ct _ _ _) (aK rfl rfl (aK rfl rfl (aK rfl rfl aK0))) rfl rfl) ?_
    all_goals refine oC (op_not rfl rfl) ?_
    all_goals refine oC (oM rfl (Conv.of rfl) rfl) ?_
    all_goals refine g_split (t := 9) rfl (fun h => ?_) (fun h => ?_)
    all_goals first | refine oC (gF rfl rfl rfl rfl rfl) ?_ | refine oC (gN rfl rfl rfl (oF f26_3 rfl rfl)) ?_
    all_goals first | refine oC (gF rfl rfl rfl rfl rfl) ?_ | refine oC (gN rfl rfl rfl (oD ty3 rfl rfl rfl)) ?_
    all_goals first | refine oC (gF rfl rfl rfl rfl rfl) ?_ | refine oC (gN rfl rfl rfl (oL fb50 (.cons rfl (Conv.of rfl) (.cons rfl (Conv.of rfl) (.cons rfl (Conv.of rfl) (.nil _)))) (l6In_ct _ _ _) (aK rfl rfl (aK rfl rfl (aK rfl rfl aK0))) rfl rfl)) ?_
    all_goals first | refine oC (gF rfl rfl rfl rfl rfl) ?_ | refine oC (gN rfl rfl rfl (op_not rfl rfl)) ?_
    all_goals refine oC (oQ rfl rfl rfl rfl) ?_
    all_goals refine oC (oM rfl (Conv.of rfl) rfl) ?_
    all_goals first | refine g_lit (t := 15) (b := true) rfl ?_ | refine g_split (t := 15) rfl (fun h => ?_) (fun h => ?_)
    all_goals first | refine oC (gF rfl rfl rfl rfl rfl) ?_ | refine oC (gN rfl rfl rfl (oF f26_1 rfl rfl)) ?_
    all_goals first | refine oC (gF rfl rfl rfl rfl rfl) ?_ | refine oC (gN rfl rfl rfl (oD ty23 rfl rfl rfl)) ?_
    all_goals first | refine oC (gF rfl rfl rfl rfl rfl) ?_ | refine oC (gN rfl rfl rfl (oE sl23 rfl rfl)) ?_
    all_goals first | refine oC (gF rfl rfl rfl rfl rfl) ?_ | refine oC (gN rfl rfl rfl (op_neq rfl rfl rfl)) ?_
    all_goals refine oC (oQ rfl rfl rfl rfl) ?_
    all_goals refine oC (oM rfl (Conv.of rfl) rfl) ?_
    all_goals first | refine g_lit (t := 21) (b := true) rfl ?_ | refine g_split (t := 21) rfl (fun h => ?_) (fun h => ?_)
    all_goals first | refine oC (gF rfl rfl rfl rfl rfl) ?_ | refine oC (gN rfl rfl rfl (oF f26_2 rfl rfl)) ?_
    all_goals first | refine oC (gF rfl rfl rfl rfl rfl) ?_ | refine oC (gN rfl rfl rfl (oD ty24 rfl rfl rfl)) ?_
    all_goals first | refine oC (gF rfl rfl rfl rfl rfl) ?_ | refine oC (gN rfl rfl rfl (oE sl24 rfl rfl)) ?_
    all_goals first | refine oC (gF rfl rfl rfl rfl rfl) ?_ | refine oC (gN rfl rfl rfl (op_gtr rfl rfl rfl)) ?_
    all_goals refine oC (oQ rfl rfl rfl rfl) ?_
    all_goals refine oC (oM rfl (Conv.of rfl) rfl) ?_
    all_goals first | refine g_lit (t := 27) (b := true) rfl ?_ | refine g_split (t := 27) rfl (fun h => ?_) (fun h => ?_)
    all_goals first | refine oC (gF rfl rfl rfl rfl rfl) ?_ | refine oC (gN rfl rfl rfl (oF f26_2 rfl rfl)) ?_
    all_goals first | refine oC (gF rfl rfl rfl rfl rfl) ?_ | refine oC (gN rfl rfl rfl (oD ty24 rfl rfl rfl)) ?_
    all_goals first | refine oC (gF rfl rfl rfl rfl rfl) ?_ | refine oC (gN rfl rfl rfl (oL fb51 (.cons rfl (Conv.of rfl) (.nil _)) (sVotesOk_ct _) (aK rfl rfl aK0) rfl rfl)) ?_
    all_goals first | refine oC (gF rfl rfl rfl rfl rfl) ?_ | refine oC (gN rfl rfl rfl (op_not rfl rfl)) ?_
    all_goals refine oC (oQ rfl rfl rfl rfl) ?_
    all_goals refine oN ?_
    all_goals exact Le.mk rfl (tlb rfl rfl rfl (tle rfl (by (show AV.v _ = AV.v _; unfold worldOk0; simp_all; try omega)) rfl tln)) (olk rfl (by exact bC) oln) noS
  refine aC rfl (fun h => ?_) (fun h => ?_)
  · all_goals refine aS (aR ?_)
    all_goals refine oC (oA rfl (Conv.of rfl) rfl) ?_
    all_goals refine oN ?_
    refine aT ?_
    repeat first | refine rS ?_ | refine rB ?_
    refine finP (.v rfl (Conv.of rfl)) rfl ?_
    show AV.v false = _
    simp [worldOk, not_t h]
  · have h0 := not_f h
    have heq : worldOk w = nodesOkFrom w w.nodes 0 := by rw [worldOk, h0, Bool.true_and]
    have h04 : w.nodes.length = 4 := by have := h0; simp only [worldOk0, Bool.and_eq_true, decide_eq_true_eq] at this; exact this.1.1.2
    refine aW ?_
    all_goals refine aS (aS (aR ?_))
    all_goals refine oC (oA rfl (Conv.of rfl) rfl) ?_
    all_goals refine oN ?_
    refine aB ?_
    refine awp_loop' (fun n_ s => ∃ (k : Nat), ∃ (hn : n_ + k = 4), ∃ (hall : worldOk w = nodesOkFrom w (w.nodes.drop k) k), s = mkSt 69 [(1, .box 0 (IsLens.whole Wrld)), (3, .v (k : Int))] [(0, .cell w)]) (4) ⟨0, by omega, heq, rfl⟩ (Le.mk rfl (tlb rfl rfl rfl (tle rfl (rfl) rfl tln)) (olk rfl (by exact bC) oln) noS) ?_
    rintro n_ s ⟨k, hn, hall, rfl⟩
    all_goals refine aS (aS (aR ?_))
    all_goals refine oC (oM rfl (Conv.of rfl) rfl) ?_
    all_goals refine oC (oF f26_1 rfl rfl) ?_
    all_goals refine oC (oD ty23 rfl rfl rfl) ?_
    all_goals refine oC (oE sl23 rfl rfl) ?_
    all_goals refine oC (oLt rfl rfl rfl) ?_
    all_goals refine oN ?_
    refine aC rfl (fun h => ?_) (fun h => ?_)
    · have hlt : k < w.nodes.length := by simpa using h
      have hx : w.nodes[k]? = some w.nodes[k] := List.getElem?_eq_getElem hlt
      generalize w.nodes[k] = a at hx
      have hs := nodesOk_drop (w := w) hx
      refine aW ?_
      refine aS (aB ?_)
      all_goals refine aS (aR ?_)
      all_goals refine oC (oF f26_1 rfl rfl) ?_
      all_goals refine oC (oD ty23 rfl rfl rfl) ?_
      all_goals refine oC (oM rfl (Conv.of rfl) rfl) ?_
      all_goals refine oC (op_ix sl23 rfl rfl rfl (by omega) hx) ?_
      all_goals refine oC (oDR ty90 rfl rfl) ?_
      all_goals refine oC (oX (o := 1) z90 rfl rfl) ?_
      all_goals refine oC (op_st ty90 rfl rfl (Conv.of rfl) rfl) ?_
      all_goals refine oN ?_
      refine aST (s' := mkSt 69 [(1, .box 0 (IsLens.whole Wrld)), (3, .v (k : Int)), (68, .v (!nodeIn w k a))] [(0, .cell w)]) ?_ ?_
      · all_goals refine aR ?_
        all_goals refine oC (oD ty90 rfl rfl rfl) ?_
        all_goals refine oC (oL fb52 (.cons rfl (Conv.of rfl) (.nil _)) (sNodeOk_ct _) (aK rfl rfl aK0) rfl rfl) ?_
        all_goals refine oC (op_not rfl rfl) ?_
        all_goals refine oC (oM rfl (Conv.of rfl) rfl) ?_
        all_goals refine g_split (t := 48) rfl (fun h => ?_) (fun h => ?_)
        all_goals first | refine oC (gF rfl rfl rfl rfl rfl) ?_ | refine oC (gN rfl rfl rfl (oF f90_0 rfl rfl)) ?_
        all_goals first | refine oC (gF rfl rfl rfl rfl rfl) ?_ | refine oC (gN rfl rfl rfl (oD ty3 rfl rfl rfl)) ?_
        all_goals first | refine oC (gF rfl rfl rfl rfl rfl) ?_ | refine oC (gN rfl rfl rfl (oM rfl (Conv.of rfl) rfl)) ?_
        all_goals first | refine oC (gF rfl rfl rfl rfl rfl) ?_ | refine oC (gN rfl rfl rfl (oP rfl rfl rfl (by omega))) ?_
        all_goals first | refine oC (gF rfl rfl rfl rfl rfl) ?_ | refine oC (gN rfl rfl rfl (op_neq rfl rfl rfl)) ?_
        all_goals refine oC (oQ rfl rfl rfl rfl) ?_
        all_goals refine oC (oM rfl (Conv.of rfl) rfl) ?_
        all_goals first | refine g_lit (t := 55) (b := true) rfl ?_ | refine g_split (t := 55) rfl (fun h => ?_) (fun h => ?_)
        all_goals first | refine oC (gF rfl rfl rfl rfl rfl) ?_ | refine oC (gN rfl rfl rfl (oF f90_1 rfl rfl)) ?_
        all_goals first | refine oC (gF rfl rfl rfl rfl rfl) ?_ | refine oC (gN rfl rfl rfl (oD ty3 rfl rfl rfl)) ?_
        all_goals first | refine oC (gF rfl rfl rfl rfl rfl) ?_ | refine oC (gN rfl rfl rfl (oF f26_0 rfl rfl)) ?_
        all_goals first | refine oC (gF rfl rfl rfl rfl rfl) ?_ | refine oC (gN rfl rfl rfl (oD ty3 rfl rfl rfl)) ?_
        all_goals first | refine oC (gF rfl rfl rfl rfl rfl) ?_ | refine oC (gN rfl rfl rfl (op_neq rfl rfl rfl)) ?_
        all_goals refine oC (oQ rfl rfl rfl rfl) ?_
        all_goals refine oC (oM rfl (Conv.of rfl) rfl) ?_
        all_goals first | refine g_lit (t := 62) (b := true) rfl ?_ | refine g_split (t := 62) rfl (fun h => ?_) (fun h => ?_)
        all_goals first | refine oC (gF rfl rfl rfl rfl rfl) ?_ | refine oC (gN rfl rfl rfl (oD ty26 rfl rfl rfl)) ?_
        all_goals first | refine oC (gF rfl rfl rfl rfl rfl) ?_ | refine oC (gN rfl rfl rfl (oF f90_3 rfl rfl)) ?_
        all_goals first | refine oC (gF rfl rfl rfl rfl rfl) ?_ | refine oC (gN rfl rfl rfl (oD ty24 rfl rfl rfl)) ?_
        all_goals first | refine oC (gF rfl rfl rfl rfl rfl) ?_ | refine oC (gN rfl rfl rfl (oL fb48 (.cons rfl (Conv.of rfl) (.cons rfl (Conv.of rfl) (.nil _))) (l21All_ct _ _) (aK rfl rfl (aK rfl rfl aK0)) rfl rfl)) ?_
        all_goals first | refine oC (gF rfl rfl rfl rfl rfl) ?_ | refine oC (gN rfl rfl rfl (op_not rfl rfl)) ?_
        all_goals refine oC (oQ rfl rfl rfl rfl) ?_
        all_goals refine oN ?_
        all_goals exact Le.mk rfl (tlb rfl rfl rfl (tle rfl (rfl) rfl (tle rfl (by (show AV.v _ = AV.v _; unfold nodeIn; clear hall hs; simp_all)) rfl tln))) (olk rfl (by exact bC) oln) noS
      refine aC rfl (fun h2 => ?_) (fun h2 => ?_)
      · all_goals refine aS (aR ?_)
        all_goals refine oC (oA rfl (Conv.of rfl) rfl) ?_
        all_goals refine oN ?_
        refine aT ?_
        repeat first | refine rS ?_ | refine rB ?_
        refine finP (.v rfl (Conv.of rfl)) rfl ?_
        show AV.v false = _
        rw [hall, hs, not_t h2, Bool.false_and]
      · refine aW ?_
        all_goals refine aR ?_
        all_goals refine oC (oM rfl (Conv.of rfl) rfl) ?_
        all_goals refine oC (oP rfl rfl rfl (by omega)) ?_
        all_goals refine oC (oA rfl (Conv.of rfl) rfl) ?_
        all_goals refine oN ?_
        repeat first | refine nS ?_ | refine nB ?_
        exact ⟨n_ - 1, _, by omega, ⟨k + 1, by omega, by rw [hall, hs, not_f h2, Bool.true_and], rfl⟩, Le.mk rfl (tlb rfl rfl rfl (tle rfl (rfl) rfl tln)) (olk rfl (by exact bC) oln) noS⟩
    · refine aE ?_
      repeat refine ex_seq ?_
      refine eB ?_
      have hk : w.nodes.length ≤ k := by simpa using h
      all_goals refine aS (aR ?_)
      all_goals refine oC (oA rfl (Conv.of rfl) rfl) ?_
      all_goals refine oN ?_
      refine aT ?_
      repeat first | refine rS ?_ | refine rB ?_
      refine finP (.v rfl (Conv.of rfl)) rfl ?_
      show AV.v true = _
      rw [hall, drop_end hk]; rfl
theorem l3Copy_ct (l : List Vote) (hl : l.length ≤ 1000000) (hv : ∀ v ∈ l, v.chain.length ≤ 1000000) : CtP Tryz.prog 129 [.v l] (.v (OList.mk l true)) := by
  refine Ct.intro Tryz.func129 rfl rfl ?_
  refine aS (aR ?_)
  refine oC (oA rfl (Conv.of rfl) rfl) ?_
  refine oN ?_
  refine aS (aR ?_)
  refine oC (op_bsl sl24 z38 (.nil _) rfl (by decide) rfl) ?_
  refine oC (op_asl rfl rfl rfl rfl) ?_
  refine oN ?_
  refine aS (aS (aR ?_))
  refine oC (oA rfl (Conv.of rfl) rfl) ?_
  refine oN ?_
  refine aB ?_
  refine awp_loop' (fun n_ s => ∃ (k : Nat), ∃ (hn : n_ + k = l.length), s = mkSt 21 [(0, .v l), (3, .v (OList.mk (l.take k) true)), (4, .v (k : Int))] []) (l.length) ⟨0, by omega, rfl⟩ (Le.mk rfl (tle rfl (rfl) rfl (tle rfl (by rfl) rfl (tle rfl (rfl) rfl tln))) oln noS) ?_
  rintro n_ s ⟨k, hn, rfl⟩
  refine aS (aS (aR ?_))
  refine oC (oM rfl (Conv.of rfl) rfl) ?_
  refine oC (oM rfl (Conv.of rfl) rfl) ?_
  refine oC (oE sl24 rfl rfl) ?_
  refine oC (oLt rfl rfl rfl) ?_
  refine oN ?_
  refine aC rfl (fun h => ?_) (fun h => ?_)
  · have hlt : k < l.length := by simpa using h
    have hx : l[k]? = some l[k] := List.getElem?_eq_getElem hlt
    have hvk := hv _ (List.getElem_mem hlt)
    generalize l[k] = x at hx hvk
    refine aW ?_
    refine aS (aB ?_)
    refine aR ?_
    refine oC (op_mvl rfl rfl rfl rfl) ?_
    refine oC (oM rfl (Conv.of rfl) rfl) ?_
    refine oC (oM rfl (Conv.of rfl) rfl) ?_
    refine oC (op_ix sl24 rfl rfl rfl (by omega) hx) ?_
    refine oC (oDR ty38 rfl rfl) ?_
    refine oC (oL fb160 (.cons rfl (Conv.of rfl) (.nil _)) (l3VoteCopy_ct x hvk) (aK rfl rfl aK0) rfl rfl) ?_
    refine oC (op_bsl sl24 z38 (.cons rfl (Conv.of rfl) (.nil _)) rfl (by decide) rfl) ?_
    refine oC (op_app sl24 z38 ul24 rfl rfl rfl (by (simp; omega)) (by (simp; omega)) rfl rfl) ?_
    refine oC (op_asl rfl rfl rfl rfl) ?_
    refine oN ?_
    refine aR ?_
    refine oC (oM rfl (Conv.of rfl) rfl) ?_
    refine oC (oP rfl rfl rfl (by omega)) ?_
    refine oC (oA rfl (Conv.of rfl) rfl) ?_
    refine oN ?_
    repeat first | refine nS ?_ | refine nB ?_
    exact ⟨n_ - 1, _, by omega, ⟨k + 1, by omega, rfl⟩, Le.mk rfl (tle rfl (rfl) rfl (tle rfl (by (rw [take_at hx])) rfl (tle rfl (rfl) rfl tln))) oln noS⟩
  · refine aE ?_
    repeat refine ex_seq ?_
    refine eB ?_
    have hk : l.length ≤ k := by simpa using h
    refine aS (aR ?_)
    refine oC (op_mvl rfl rfl rfl rfl) ?_
    refine oC (op_asl rfl rfl rfl rfl) ?_
    refine oN ?_
    refine aT ?_
    repeat first | refine rS ?_ | refine rB ?_
    exact finM rfl rfl (by rw [take_end hk])
theorem l12Copy_ct (n : Nod) (hl : n.seen.length ≤ 1000000) (hv : ∀ v ∈ n.seen, v.chain.length ≤ 1000000) : CtP Tryz.prog 130 [.v n] (.v (sN n)) := by
  refine Ct.intro Tryz.func130 rfl rfl ?_
  refine aS (aR ?_)
  refine oC (op_box (o := 0) ty90 rfl (Conv.of rfl) rfl rfl) ?_
  refine oC (oX (o := 1) z90_NodS rfl rfl) ?_
  refine oN ?_
  refine awp_recell (o := 0) (tb := 1) (β := NodS) (y := fN n) rfl rfl (fun G w ω cs h => nod_fN h) ?_
  refine aS (aR ?_)
  refine oC (oF f90_3_NodS rfl rfl) ?_
  refine oC (op_ldl ty24_OListVote rfl rfl rfl) ?_
  refine oC (oL fb129 (.cons rfl (Conv.of rfl) (.nil _)) (l3Copy_ct n.seen hl hv) (aK rfl rfl aK0) rfl rfl) ?_
  refine oC (oF f90_3_NodS rfl rfl) ?_
  refine oC (op_stm ty24_OListVote rfl rfl rfl) ?_
  refine oN ?_
  refine aS (aR ?_)
  refine oC (op_ldm ty90_NodS rfl rfl rfl) ?_
  refine oC (op_stm ty90_NodS rfl rfl rfl) ?_
  refine oN ?_
  refine aT ?_
  repeat first | refine rS ?_ | refine rB ?_
  exact ⟨_, _, res1C (ol := []) ty90_NodS rfl rfl (fun o ho => absurd (show o ∈ ([] : List Nat) from ho) (by simp)) oln noS, rfl, rfl⟩
end Go.Proofs.YtmhmeppocbcmeaaGreat

/- The reference: a world anew. -/
set_option linter.unusedVariables false
set_option linter.unusedSimpArgs false
namespace Go.Proofs.YtmhmeppocbcmeaaGreat
open Go Go.Wt
set_option maxHeartbeats 4000000 in
theorem l21Copy4_ct (e : Int) (a b c d : Nod) (l : List Vote) (bd : Int) (hl : Gd l) (ha : Gd a.seen) (hb : Gd b.seen) (hc : Gd c.seen) (hd : Gd d.seen) :
    Ct Tryz.prog 76 [.v (Wrld.mk e [a, b, c, d] l bd)] noObj (fun r1 h1 => r1 = .v (WrldS.mk e (.ref 1) ⟨l, true⟩ bd) ∧ h1 = obs [(1, .arr ([sN a, sN b, sN c, sN d] : List NodS))]) := by
  refine Ct.intro Tryz.func76 rfl rfl ?_
  refine aS (aR ?_)
  refine oC (op_box (o := 20) ty26 rfl (Conv.of rfl) rfl rfl) ?_
  refine oC (oX (o := 5) z26_WrldS rfl rfl) ?_
  refine oN ?_
  refine aS (dS ?_)
  refine dC (oF f26_0 rfl rfl) ?_
  refine dC (oD ty3 rfl rfl rfl) ?_
  refine dC (oF f26_2 rfl rfl) ?_
  refine dC (oD ty24 rfl rfl rfl) ?_
  refine dC (oL fb129 (.cons rfl (Conv.of rfl) (.nil _)) (l3Copy_ct l hl.l' hl.v) (aK rfl rfl aK0) rfl rfl) ?_
  refine dC (oF f26_3 rfl rfl) ?_
  refine dC (oD ty3 rfl rfl rfl) ?_
  refine dC (op_buildW (s := 9) (r := 5) (d := 12) (l := l) (e := e) (bd := bd) rfl rfl rfl (one_box rfl) (fun hv => .cons f26_0_WrldH rfl (Conv.of rfl) (.cons f26_2_WrldH rfl (Conv.of rfl) (.cons f26_3_WrldH rfl (Conv.of rfl) (.nil _)))) z26_WrldH pl26 rfl) ?_
  refine dC (oX (o := 0) z26_WrldS rfl rfl) ?_
  refine dC (op_stm ty26_WrldS rfl rfl rfl) ?_
  refine dr_nil mixed rfl ?_
  refine aS (aS (aR ?_))
  refine oC (oA rfl (Conv.of rfl) rfl) ?_
  refine oN ?_
  refine aB ?_
  refine awp_loop' (fun n s => (n = 4 ∧ s = mkSt 32 [(1, .box 20 (IsLens.whole Wrld)), (2, .box 5 (IsLens.whole WrldS)), (3, .box 0 (IsLens.whole WrldS)), (4, .v (0 : Int))] [(0, .cell (WrldS.mk e .nil ⟨l, true⟩ bd)), (5, .cell WrldS.zero), (20, .cell (Wrld.mk e [a, b, c, d] l bd))]) ∨ (n = 3 ∧ s = mkSt 32 [(1, .box 20 (IsLens.whole Wrld)), (2, .box 5 (IsLens.whole WrldS)), (3, .box 0 (IsLens.whole WrldS)), (4, .v (1 : Int))] [(0, .cell (WrldS.mk e (.ref 11) ⟨l, true⟩ bd)), (5, .cell WrldS.zero), (20, .cell (Wrld.mk e [a, b, c, d] l bd)), (11, .arr ([sN a] : List NodS))]) ∨ (n = 2 ∧ s = mkSt 32 [(1, .box 20 (IsLens.whole Wrld)), (2, .box 5 (IsLens.whole WrldS)), (3, .box 0 (IsLens.whole WrldS)), (4, .v (2 : Int))] [(0, .cell (WrldS.mk e (.ref 12) ⟨l, true⟩ bd)), (5, .cell WrldS.zero), (20, .cell (Wrld.mk e [a, b, c, d] l bd)), (12, .arr ([sN a, sN b] : List NodS))]) ∨ (n = 1 ∧ s = mkSt 32 [(1, .box 20 (IsLens.whole Wrld)), (2, .box 5 (IsLens.whole WrldS)), (3, .box 0 (IsLens.whole WrldS)), (4, .v (3 : Int))] [(0, .cell (WrldS.mk e (.ref 13) ⟨l, true⟩ bd)), (5, .cell WrldS.zero), (20, .cell (Wrld.mk e [a, b, c, d] l bd)), (13, .arr ([sN a, sN b, sN c] : List NodS))]) ∨ (n = 0 ∧ s = mkSt 32 [(1, .box 20 (IsLens.whole Wrld)), (2, .box 5 (IsLens.whole WrldS)), (3, .box 0 (IsLens.whole WrldS)), (4, .v (4 : Int))] [(0, .cell (WrldS.mk e (.ref 1) ⟨l, true⟩ bd)), (5, .cell WrldS.zero), (20, .cell (Wrld.mk e [a, b, c, d] l bd)), (1, .arr ([sN a, sN b, sN c, sN d] : List NodS))])) 4 (.inl ⟨rfl, rfl⟩) (Le.mk rfl (tlb rfl rfl rfl (tlb rfl rfl rfl (tlb rfl rfl rfl (tle rfl (rfl) rfl tln)))) (olk rfl (by exact obOkS0) (olk rfl (by exact obOkS0) (olk rfl (by exact bC) oln))) noS) ?_
  rintro n s (⟨rfl, rfl⟩|⟨rfl, rfl⟩|⟨rfl, rfl⟩|⟨rfl, rfl⟩|⟨rfl, rfl⟩)
  · refine aS (aS (aR ?_))
    refine oC (oM rfl (Conv.of rfl) rfl) ?_
    refine oC (oF f26_1 rfl rfl) ?_
    refine oC (oD ty23 rfl rfl rfl) ?_
    refine oC (oE sl23 rfl rfl) ?_
    refine oC (oLt rfl rfl rfl) ?_
    refine oN ?_
    refine aC rfl (fun h => ?_) (fun h => ?_)
    rotate_left
    · simp at h
    refine aW ?_
    refine aS (aB ?_)
    have hx : ([a, b, c, d] : List Nod)[0]? = some a := rfl
    refine dS ?_
    refine dC (oF f26_1_WrldS rfl rfl) ?_
    refine dC (oD ty23_NRef rfl rfl rfl) ?_
    refine dC (oF f26_1 rfl rfl) ?_
    refine dC (oD ty23 rfl rfl rfl) ?_
    refine dC (oM rfl (Conv.of rfl) rfl) ?_
    refine dC (op_ix sl23 rfl rfl rfl (by omega) hx) ?_
    refine dC (oDR ty90 rfl rfl) ?_
    refine dC (oL fb130 (.cons rfl (Conv.of rfl) (.nil _)) (l12Copy_ct a ha.l' ha.v) (aK rfl rfl aK0) rfl rfl) ?_
    refine dC (op_bsm (s := 27) (d := 28) (o := 31) sl23_NodS z90_NodS rfl rfl rfl (by decide) rfl) ?_
    refine dC (op_apMN (o2 := 31) (o' := 11) sl23_NodS z90_NodS ul23 rfl rfl rfl rfl (by simp) (by simp) (by simp) rfl) ?_
    refine dC (oF f26_1_WrldS rfl rfl) ?_
    refine dC (op_st ty23_NRef rfl rfl (Conv.of rfl) rfl) ?_
    refine dr_nil mixed rfl ?_
    refine aR ?_
    refine oC (oM rfl (Conv.of rfl) rfl) ?_
    refine oC (oP rfl rfl rfl (by omega)) ?_
    refine oC (oA rfl (Conv.of rfl) rfl) ?_
    refine oN ?_
    repeat first | refine nS ?_ | refine nB ?_
    exact ⟨3, _, by decide, .inr (.inl ⟨rfl, rfl⟩), Le.mk rfl (tlb rfl rfl rfl (tlb rfl rfl rfl (tlb rfl rfl rfl (tle rfl (rfl) rfl tln)))) (olk rfl (by exact obOkS rfl) (olk rfl (by exact obOkS0) (olk rfl (by exact bC) (olk rfl (by exact bN) oln)))) noS⟩
  · refine aS (aS (aR ?_))
    refine oC (oM rfl (Conv.of rfl) rfl) ?_
    refine oC (oF f26_1 rfl rfl) ?_
    refine oC (oD ty23 rfl rfl rfl) ?_
    refine oC (oE sl23 rfl rfl) ?_
    refine oC (oLt rfl rfl rfl) ?_
    refine oN ?_
    refine aC rfl (fun h => ?_) (fun h => ?_)
    rotate_left
    · simp at h
    refine aW ?_
    refine aS (aB ?_)
    have hx : ([a, b, c, d] : List Nod)[1]? = some b := rfl
    refine dS ?_
    refine dC (oF f26_1_WrldS rfl rfl) ?_
    refine dC (oD ty23_NRef rfl rfl rfl) ?_
    refine dC (oF f26_1 rfl rfl) ?_
    refine dC (oD ty23 rfl rfl rfl) ?_
    refine dC (oM rfl (Conv.of rfl) rfl) ?_
    refine dC (op_ix sl23 rfl rfl rfl (by omega) hx) ?_
    refine dC (oDR ty90 rfl rfl) ?_
    refine dC (oL fb130 (.cons rfl (Conv.of rfl) (.nil _)) (l12Copy_ct b hb.l' hb.v) (aK rfl rfl aK0) rfl rfl) ?_
    refine dC (op_bsm (s := 27) (d := 28) (o := 32) sl23_NodS z90_NodS rfl rfl rfl (by decide) rfl) ?_
    refine dC (op_apMA (o := 11) (o2 := 32) (o' := 12) sl23_NodS z90_NodS ul23 rfl rfl rfl rfl rfl rfl (by simp) (by simp) (by simp) rfl) ?_
    refine dC (oF f26_1_WrldS rfl rfl) ?_
    refine dC (op_st ty23_NRef rfl rfl (Conv.of rfl) rfl) ?_
    refine dr_nil mixed rfl ?_
    refine aR ?_
    refine oC (oM rfl (Conv.of rfl) rfl) ?_
    refine oC (oP rfl rfl rfl (by omega)) ?_
    refine oC (oA rfl (Conv.of rfl) rfl) ?_
    refine oN ?_
    repeat first | refine nS ?_ | refine nB ?_
    exact ⟨2, _, by decide, .inr (.inr (.inl ⟨rfl, rfl⟩)), Le.mk rfl (tlb rfl rfl rfl (tlb rfl rfl rfl (tlb rfl rfl rfl (tle rfl (rfl) rfl tln)))) (olk rfl (by exact obOkS rfl) (olk rfl (by exact obOkS0) (olk rfl (by exact bC) (olk rfl (by exact bN) oln)))) noS⟩
  · refine aS (aS (aR ?_))
    refine oC (oM rfl (Conv.of rfl) rfl) ?_
    refine oC (oF f26_1 rfl rfl) ?_
    refine oC (oD ty23 rfl rfl rfl) ?_
    refine oC (oE sl23 rfl rfl) ?_
    refine oC (oLt rfl rfl rfl) ?_
    refine oN ?_
    refine aC rfl (fun h => ?_) (fun h => ?_)
    rotate_left
    · simp at h
    refine aW ?_
    refine aS (aB ?_)
    have hx : ([a, b, c, d] : List Nod)[2]? = some c := rfl
    refine dS ?_
    refine dC (oF f26_1_WrldS rfl rfl) ?_
    refine dC (oD ty23_NRef rfl rfl rfl) ?_
    refine dC (oF f26_1 rfl rfl) ?_
    refine dC (oD ty23 rfl rfl rfl) ?_
    refine dC (oM rfl (Conv.of rfl) rfl) ?_
    refine dC (op_ix sl23 rfl rfl rfl (by omega) hx) ?_
    refine dC (oDR ty90 rfl rfl) ?_
    refine dC (oL fb130 (.cons rfl (Conv.of rfl) (.nil _)) (l12Copy_ct c hc.l' hc.v) (aK rfl rfl aK0) rfl rfl) ?_
    refine dC (op_bsm (s := 27) (d := 28) (o := 33) sl23_NodS z90_NodS rfl rfl rfl (by decide) rfl) ?_
    refine dC (op_apMA (o := 12) (o2 := 33) (o' := 13) sl23_NodS z90_NodS ul23 rfl rfl rfl rfl rfl rfl (by simp) (by simp) (by simp) rfl) ?_
    refine dC (oF f26_1_WrldS rfl rfl) ?_
    refine dC (op_st ty23_NRef rfl rfl (Conv.of rfl) rfl) ?_
    refine dr_nil mixed rfl ?_
    refine aR ?_
    refine oC (oM rfl (Conv.of rfl) rfl) ?_
    refine oC (oP rfl rfl rfl (by omega)) ?_
    refine oC (oA rfl (Conv.of rfl) rfl) ?_
    refine oN ?_
    repeat first | refine nS ?_ | refine nB ?_
    exact ⟨1, _, by decide, .inr (.inr (.inr (.inl ⟨rfl, rfl⟩))), Le.mk rfl (tlb rfl rfl rfl (tlb rfl rfl rfl (tlb rfl rfl rfl (tle rfl (rfl) rfl tln)))) (olk rfl (by exact obOkS rfl) (olk rfl (by exact obOkS0) (olk rfl (by exact bC) (olk rfl (by exact bN) oln)))) noS⟩
  · refine aS (aS (aR ?_))
    refine oC (oM rfl (Conv.of rfl) rfl) ?_
    refine oC (oF f26_1 rfl rfl) ?_
    refine oC (oD ty23 rfl rfl rfl) ?_
    refine oC (oE sl23 rfl rfl) ?_
    refine oC (oLt rfl rfl rfl) ?_
    refine oN ?_
    refine aC rfl (fun h => ?_) (fun h => ?_)
    rotate_left
    · simp at h
    refine aW ?_
    refine aS (aB ?_)
    have hx : ([a, b, c, d] : List Nod)[3]? = some d := rfl
    refine dS ?_
    refine dC (oF f26_1_WrldS rfl rfl) ?_
    refine dC (oD ty23_NRef rfl rfl rfl) ?_
    refine dC (oF f26_1 rfl rfl) ?_
    refine dC (oD ty23 rfl rfl rfl) ?_
    refine dC (oM rfl (Conv.of rfl) rfl) ?_
    refine dC (op_ix sl23 rfl rfl rfl (by omega) hx) ?_
    refine dC (oDR ty90 rfl rfl) ?_
    refine dC (oL fb130 (.cons rfl (Conv.of rfl) (.nil _)) (l12Copy_ct d hd.l' hd.v) (aK rfl rfl aK0) rfl rfl) ?_
    refine dC (op_bsm (s := 27) (d := 28) (o := 34) sl23_NodS z90_NodS rfl rfl rfl (by decide) rfl) ?_
    refine dC (op_apMA (o := 13) (o2 := 34) (o' := 1) sl23_NodS z90_NodS ul23 rfl rfl rfl rfl rfl rfl (by simp) (by simp) (by simp) rfl) ?_
    refine dC (oF f26_1_WrldS rfl rfl) ?_
    refine dC (op_st ty23_NRef rfl rfl (Conv.of rfl) rfl) ?_
    refine dr_nil mixed rfl ?_
    refine aR ?_
    refine oC (oM rfl (Conv.of rfl) rfl) ?_
    refine oC (oP rfl rfl rfl (by omega)) ?_
    refine oC (oA rfl (Conv.of rfl) rfl) ?_
    refine oN ?_
    repeat first | refine nS ?_ | refine nB ?_
    exact ⟨0, _, by decide, .inr (.inr (.inr (.inr (⟨rfl, rfl⟩)))), Le.mk rfl (tlb rfl rfl rfl (tlb rfl rfl rfl (tlb rfl rfl rfl (tle rfl (rfl) rfl tln)))) (olk rfl (by exact obOkS rfl) (olk rfl (by exact obOkS0) (olk rfl (by exact bC) (olk rfl (by exact bN) oln)))) noS⟩
  · refine aS (aS (aR ?_))
    refine oC (oM rfl (Conv.of rfl) rfl) ?_
    refine oC (oF f26_1 rfl rfl) ?_
    refine oC (oD ty23 rfl rfl rfl) ?_
    refine oC (oE sl23 rfl rfl) ?_
    refine oC (oLt rfl rfl rfl) ?_
    refine oN ?_
    refine aC rfl (fun h => ?_) (fun h => ?_)
    · simp at h
    refine aE ?_
    repeat refine ex_seq ?_
    refine eB ?_
    refine aS (aR ?_)
    refine oC (op_ldm ty26_WrldS rfl rfl rfl) ?_
    refine oC (op_stm ty26_WrldS rfl rfl rfl) ?_
    refine oN ?_
    refine aT ?_
    repeat first | refine rS ?_ | refine rB ?_
    refine ⟨_, _, res1C (ol := [(1, .arr ([sN a, sN b, sN c, sN d] : List NodS))]) ty26_WrldS rfl rfl (fun o ho => ?_) (olk rfl bN oln) noS, rfl, rfl⟩
    have : o = 1 := by simpa using (show o ∈ [1] from ho)
    subst this; rfl
theorem l21Copy_ct (w : Wrld) (h : FineX w) : Ct Tryz.prog 76 [.v w] noObj (fun r1 h1 => r1 = .v (sW w) ∧ h1 = obs (so w)) := by
  have h4 := h.four
  have hg := h.fine.log
  have hs := h.fine.seen
  obtain ⟨e, ns, l, bd⟩ := w
  match ns, h4 with
  | [a, b, c, d], _ => exact l21Copy4_ct e a b c d l bd hg (hs a (by simp)) (hs b (by simp)) (hs c (by simp)) (hs d (by simp))
end Go.Proofs.YtmhmeppocbcmeaaGreat

/- The reference: what happens in a world, for outsiders; both: a node hears, for outsiders. -/
set_option linter.unusedVariables false
set_option linter.unusedSimpArgs false
namespace Go.Proofs.YtmhmeppocbcmeaaGreat
open Go Go.Wt
theorem sWorldDoBad_ct (w : Wrld) (e : Evt) (h : worldOk w = false) : CtP Tryz.prog 32 [.v w, .v e] (.v Wrld.zero) := by
  refine Ct.intro Tryz.func32 rfl rfl ?_
  first | refine aS (aR ?_) | refine aS (aS (aR ?_)) | refine aR ?_ | refine aS (aS (aS (aR ?_)))
  first | refine oC (op_box (o := 0) ty26 rfl (Conv.of rfl) rfl rfl) ?_ | refine oC (op_boxm (o := 0) ty26 rfl rfl rfl rfl) ?_
  first | refine oC (op_box (o := 1) ty77 rfl (Conv.of rfl) rfl rfl) ?_ | refine oC (op_boxm (o := 1) ty77 rfl rfl rfl rfl) ?_
  refine oC (oX (o := 2) z26 rfl rfl) ?_
  refine oN ?_
  first | refine aS (aR ?_) | refine aS (aS (aR ?_)) | refine aR ?_ | refine aS (aS (aS (aR ?_)))
  first | refine oC (oD ty26 rfl rfl rfl) ?_ | refine oC (oDR ty26 rfl rfl) ?_ | refine oC (op_lde ty26 rfl rfl (by assumption) rfl) ?_ | refine oC (op_ldl ty26 rfl rfl rfl) ?_ | refine oC (op_ldd ty26 rfl rfl rfl) ?_ | refine oC (op_ldde ty26 rfl rfl (by assumption) rfl) ?_
  refine oC (oL fb10 (.cons rfl (Conv.of rfl) (.nil _)) (sWorldOk_ct _) (aK rfl rfl aK0) rfl rfl) ?_
  refine oC (op_not rfl rfl) ?_
  refine oN ?_
  first | refine aS (aC rfl (fun h2 => ?_) (fun h2 => absurd (not_f h2) (by rw [h]; decide))) | refine aS (aS (aC rfl (fun h2 => ?_) (fun h2 => absurd (not_f h2) (by rw [h]; decide)))) | refine aC rfl (fun h2 => ?_) (fun h2 => absurd (not_f h2) (by rw [h]; decide)) | refine aS (aS (aS (aC rfl (fun h2 => ?_) (fun h2 => absurd (not_f h2) (by rw [h]; decide)))))
  first | refine aS (aR ?_) | refine aS (aS (aR ?_)) | refine aR ?_ | refine aS (aS (aS (aR ?_)))
  refine oC (op_build (.nil _) z26 rfl pl26 rfl) ?_
  first | refine oC (op_st ty26 rfl rfl (Conv.of rfl) rfl) ?_ | refine oC (op_ste ty26 rfl rfl (Conv.of rfl) rfl (by assumption)) ?_ | refine oC (op_stm ty26 rfl rfl rfl) ?_ | refine oC (op_stme ty26 rfl rfl rfl (by assumption)) ?_
  refine oN ?_
  refine aT ?_
  repeat first | refine rS ?_ | refine rB ?_
  exact finP (.rc ty26 rfl rfl) rfl rfl
theorem soFree {w : Wrld} {st : St} (h : st.ob 1 = .free) : ∀ o, keys (so w) o = true → o ∈ (so w).map (·.1) ∧ st.ob o = .free := fun o ho => by
  have : o = 1 := by simpa [keys, lk0] using ho
  subst this
  exact ⟨by simp, h⟩
set_option maxHeartbeats 1000000 in
theorem sWorldDoA_ct (w : Wrld) (e : Evt) (h : worldOk w = true) : Ct Tryz.prog 32 [.v w, .v e] noObj (fun r1 h1 => r1 = .v (sW (doF w e)) ∧ h1 = obs (so (doF w e))) := by
  have hx := (worldOk_iff.1 h).fx
  refine Ct.intro Tryz.func32 rfl rfl ?_
  first | refine aS (aR ?_) | refine aS (aS (aR ?_)) | refine aR ?_ | refine aS (aS (aS (aR ?_)))
  first | refine oC (op_box (o := 5) ty26 rfl (Conv.of rfl) rfl rfl) ?_ | refine oC (op_boxm (o := 5) ty26 rfl rfl rfl rfl) ?_
  first | refine oC (op_box (o := 6) ty77 rfl (Conv.of rfl) rfl rfl) ?_ | refine oC (op_boxm (o := 6) ty77 rfl rfl rfl rfl) ?_
  refine oC (oX (o := 7) z26_WrldS rfl rfl) ?_
  refine oN ?_
  first | refine aS (aR ?_) | refine aS (aS (aR ?_)) | refine aR ?_ | refine aS (aS (aS (aR ?_)))
  first | refine oC (oD ty26 rfl rfl rfl) ?_ | refine oC (oDR ty26 rfl rfl) ?_ | refine oC (op_lde ty26 rfl rfl (by assumption) rfl) ?_ | refine oC (op_ldl ty26 rfl rfl rfl) ?_ | refine oC (op_ldd ty26 rfl rfl rfl) ?_ | refine oC (op_ldde ty26 rfl rfl (by assumption) rfl) ?_
  refine oC (oL fb10 (.cons rfl (Conv.of rfl) (.nil _)) (sWorldOk_ct _) (aK rfl rfl aK0) rfl rfl) ?_
  refine oC (op_not rfl rfl) ?_
  refine oN ?_
  first | refine aS (aC rfl (fun h2 => absurd (not_t h2) (by rw [h]; decide)) (fun h2 => ?_)) | refine aS (aS (aC rfl (fun h2 => absurd (not_t h2) (by rw [h]; decide)) (fun h2 => ?_))) | refine aC rfl (fun h2 => absurd (not_t h2) (by rw [h]; decide)) (fun h2 => ?_) | refine aS (aS (aS (aC rfl (fun h2 => absurd (not_t h2) (by rw [h]; decide)) (fun h2 => ?_))))
  refine aW ?_
  first | refine aS (dS ?_) | refine aS (aS (dS ?_)) | refine dS ?_ | refine aS (aS (aS (dS ?_)))
  first | refine dC (oD ty26 rfl rfl rfl) ?_ | refine dC (oDR ty26 rfl rfl) ?_ | refine dC (op_lde ty26 rfl rfl (by assumption) rfl) ?_ | refine dC (op_ldl ty26 rfl rfl rfl) ?_ | refine dC (op_ldd ty26 rfl rfl rfl) ?_ | refine dC (op_ldde ty26 rfl rfl (by assumption) rfl) ?_
  refine dC (op_callN (ol' := so w) fb76 (.cons rfl (Conv.of rfl) (.nil _)) (l21Copy_ct w hx) (aK rfl rfl aK0) (soFree rfl) (kK bN k0) (inOne rfl) rfl) ?_
  first | refine dC (oD ty77 rfl rfl rfl) ?_ | refine dC (oDR ty77 rfl rfl) ?_ | refine dC (op_lde ty77 rfl rfl (by assumption) rfl) ?_ | refine dC (op_ldl ty77 rfl rfl rfl) ?_ | refine dC (op_ldd ty77 rfl rfl rfl) ?_ | refine dC (op_ldde ty77 rfl rfl (by assumption) rfl) ?_
  refine dC (oLM (s := 10) (pre := []) fb63 (.nil _) rfl (.cons rfl (Conv.of rfl) (.nil _)) (l21Do_ct w e hx) (olsk rfl ols0) (kK (by first | exact bC | exact bA | exact obOkW rfl | exact obOkW0 | exact obOkN | exact obOkS rfl | exact bN | exact obOkS0 | trivial) k0) (kK (by first | exact bC | exact bA | exact obOkW rfl | exact obOkW0 | exact obOkN | exact obOkS rfl | exact bN | exact obOkS0 | trivial) k0) rfl argO0 (argOk' rfl rfl argO0) (inOne rfl) (inOne rfl) rfl) ?_
  refine dC (op_stm ty26_WrldS rfl rfl rfl) ?_
  refine dr_nil mixed rfl ?_
  refine aT ?_
  repeat first | refine rS ?_ | refine rB ?_
  exact ⟨_, _, res1C (ol := so (doF w e)) ty26_WrldS rfl rfl (inOne rfl) (olk rfl bN oln) noS, rfl, rfl⟩
theorem sWorldDo_ct (w : Wrld) (e : Evt) : CtP Tryz.prog 32 [.v w, .v e] (.v (worldDoR w e)) := by
  unfold worldDoR
  cases h : worldOk w with
  | false => exact sWorldDoBad_ct w e h
  | true => exact Ct.frz (sWorldDoA_ct w e h) (frzS_one (big4 (doF_ok e (worldOk_iff.1 h).fx).four))
def nodeHearR (n : Nod) (v : Vote) : Nod × Vote × Bool := if nodeOk n then hearF n v else (.zero, .zero, false)
end Go.Proofs.YtmhmeppocbcmeaaGreat

/- The reference: quiet epochs. -/
set_option linter.unusedVariables false
set_option linter.unusedSimpArgs false
namespace Go.Proofs.YtmhmeppocbcmeaaGreat
open Go Go.Wt
set_option maxHeartbeats 1000000 in
theorem sSpread_ct (w : Wrld) (hw : FineX w) : CtO Tryz.prog 77 [.v (sW w)] (so w) (.v (sW (spreadF w))) (so (spreadF w)) := by
  refine Ct.intro Tryz.func77 rfl rfl ?_
  refine aS (aR ?_)
  refine oC (op_boxm (o := 5) ty26_WrldS rfl rfl rfl rfl) ?_
  refine oC (oX (o := 6) z26_WrldS rfl rfl) ?_
  refine oN ?_
  refine aS (aS (aR ?_))
  refine oC (oA rfl (Conv.of rfl) rfl) ?_
  refine oN ?_
  refine aB ?_
  refine awp_loop' (fun n_ s => ∃ (a : Nat), ∃ (x : Wrld), ∃ (hx : FineX x), ∃ (he : sprF (100 - a) a x = spreadF w), ∃ (hn : n_ + a = 100), s = mkSt 21 [(1, .box 5 (IsLens.whole WrldS)), (2, .box 6 (IsLens.whole WrldS)), (3, .v (a : Int))] [(1, .arr (x.nodes.map sN)), (5, .cell (sW x)), (6, .cell WrldS.zero)]) (100) ⟨0, w, hw, rfl, by omega, rfl⟩ (Le.mk rfl (tlb rfl rfl rfl (tlb rfl rfl rfl (tle rfl (rfl) rfl tln))) (olk rfl (by exact bN) (olk rfl (by exact obOkS rfl) (olk rfl (by exact obOkS0) oln))) (hU (a := so w) rfl)) ?_
  rintro n_ s ⟨a, x, hx, he, hn, rfl⟩
  refine aS (aS (aR ?_))
  refine oC (oM rfl (Conv.of rfl) rfl) ?_
  refine oC (oF f26_2_WrldS rfl rfl) ?_
  refine oC (op_ldl ty24_OListVote rfl rfl rfl) ?_
  refine oC (oE sl24 rfl rfl) ?_
  refine oC (oLt rfl rfl rfl) ?_
  refine oN ?_
  refine aC rfl (fun h => ?_) (fun h => ?_)
  · have ha : a < x.log.length := by simpa [sW] using h
    have hll := hx.ll
    refine aW ?_
    refine aS (aB ?_)
    refine aS (aR ?_)
    refine oC (oA rfl (Conv.of rfl) rfl) ?_
    refine oN ?_
    refine awp_toB (s' := mkSt 21 [(1, .box 5 (IsLens.whole WrldS)), (2, .box 6 (IsLens.whole WrldS)), (3, .v (a : Int))] [(1, .arr ((b4 x a).nodes.map sN)), (5, .cell (sW (b4 x a))), (6, .cell WrldS.zero)]) ?_ ?_
    · refine aB ?_
      refine awp_loop' (fun n_ s => ∃ (k : Nat), ∃ (hk : n_ + k = 4), s = mkSt 21 [(1, .box 5 (IsLens.whole WrldS)), (2, .box 6 (IsLens.whole WrldS)), (3, .v (a : Int)), (4, .v ((k : Int) + 1))] [(1, .arr ((brN x a k).nodes.map sN)), (5, .cell (sW (brN x a k))), (6, .cell WrldS.zero)]) (4) ⟨0, by omega, rfl⟩ (Le.mk rfl (tlb rfl rfl rfl (tlb rfl rfl rfl (tle rfl (rfl) rfl (tle rfl (rfl) rfl tln)))) (olk rfl (by exact bN) (olk rfl (by exact obOkS rfl) (olk rfl (by exact obOkS0) oln))) (hU (a := so w) rfl)) ?_
      rintro n_ s ⟨k, hk, rfl⟩
      refine aS (aS (aR ?_))
      refine oC (oM rfl (Conv.of rfl) rfl) ?_
      refine oC (op_leq rfl rfl rfl) ?_
      refine oN ?_
      refine aC rfl (fun h2 => ?_) (fun h2 => ?_)
      · have hk2 : k < 4 := by simp at h2; omega
        refine aW ?_
        refine aS (aB ?_)
        refine aR ?_
        refine oC (op_ldm ty26_WrldS rfl rfl rfl) ?_
        refine oC (oM rfl (Conv.of rfl) rfl) ?_
        refine oC (oM rfl (Conv.of rfl) rfl) ?_
        refine oC (oLM (s := 16) (pre := []) fb117 (.nil _) rfl (.cons rfl (Conv.of rfl) (.cons rfl (Conv.of rfl) (.nil _))) (l21Bring_ct _ _ _ (brN_ok hx a k)) (olsk rfl ols0) (kK (by exact bN) k0) (kK (by exact bN) k0) rfl argO0 (argOk' rfl rfl (argOk' rfl rfl argO0)) (inOne rfl) (inOne rfl) rfl) ?_
        refine oC (op_stm ty26_WrldS rfl rfl rfl) ?_
        refine oN ?_
        refine aR ?_
        refine oC (oM rfl (Conv.of rfl) rfl) ?_
        refine oC (oP rfl rfl rfl (by omega)) ?_
        refine oC (oA rfl (Conv.of rfl) rfl) ?_
        refine oN ?_
        repeat first | refine nS ?_ | refine nB ?_
        exact ⟨n_ - 1, _, by omega, ⟨k + 1, by omega, rfl⟩, Le.mk rfl (tlb rfl rfl rfl (tlb rfl rfl rfl (tle rfl (rfl) rfl (tle rfl (rfl) rfl tln)))) (olk rfl (by exact bN) (olk rfl (by exact obOkS rfl) (olk rfl (by exact obOkS0) oln))) (hU (a := so w) rfl)⟩
      · refine aE ?_
        repeat refine ex_seq ?_
        refine eB ?_
        have hk4 : k = 4 := by simp at h2; omega
        subst hk4
        all_goals exact Le.mk rfl (tlb rfl rfl rfl (tlb rfl rfl rfl (tle rfl (rfl) rfl tln))) (olk rfl (by exact bN) (olk rfl (by exact obOkS rfl) (olk rfl (by exact obOkS0) oln))) (hU (a := so w) rfl)
    · refine aR ?_
      refine oC (oM rfl (Conv.of rfl) rfl) ?_
      refine oC (oP rfl rfl rfl (by omega)) ?_
      refine oC (oA rfl (Conv.of rfl) rfl) ?_
      refine oN ?_
      repeat first | refine nS ?_ | refine nB ?_
      exact ⟨n_ - 1, _, by omega, ⟨a + 1, b4 x a, b4_ok hx a, (by rw [← he, show 100 - a = (100 - (a + 1)) + 1 by omega, sprF_go ha]), by omega, rfl⟩, Le.mk rfl (tlb rfl rfl rfl (tlb rfl rfl rfl (tle rfl (rfl) rfl tln))) (olk rfl (by exact bN) (olk rfl (by exact obOkS rfl) (olk rfl (by exact obOkS0) oln))) (hU (a := so w) rfl)⟩
  · refine aE ?_
    repeat refine ex_seq ?_
    refine eB ?_
    have ha : ¬ a < x.log.length := by simpa [sW] using h
    rw [sprF_stop ha] at he
    subst he
    refine aS (aR ?_)
    refine oC (op_ldm ty26_WrldS rfl rfl rfl) ?_
    refine oC (op_stm ty26_WrldS rfl rfl rfl) ?_
    refine oN ?_
    refine aT ?_
    repeat first | refine rS ?_ | refine rB ?_
    exact ⟨_, _, res1C (ol := so (spreadF w)) ty26_WrldS rfl rfl (inOne rfl) (olk rfl bN oln) (hU rfl), rfl, rfl⟩
theorem sCalmBad_ct (w : Wrld) (pays : List Pay) (h : (worldOk w && decide (pays.length ≤ 30)) = false) : CtP Tryz.prog 25 [.v w, .v pays] (.v Wrld.zero) := by
  have hl : worldOk w = true → (30 : Int) < (pays.length : Int) := fun e => by
    rw [e] at h
    simp at h
    omega
  clear h
  refine Ct.intro Tryz.func25 rfl rfl ?_
  all_goals refine aS (aR ?_)
  all_goals refine oC (op_box (o := 0) ty26 rfl (Conv.of rfl) rfl rfl) ?_
  all_goals refine oC (oX (o := 1) z26 rfl rfl) ?_
  all_goals refine oN ?_
  refine aS (aST (s' := mkSt 39 [(1, .v pays), (4, .box 1 (IsLens.whole Wrld)), (14, .v true)] [(1, .cell Wrld.zero)]) ?_ ?_)
  · all_goals refine aR ?_
    all_goals refine oC (oD ty26 rfl rfl rfl) ?_
    all_goals refine oC (oL fb10 (.cons rfl (Conv.of rfl) (.nil _)) (sWorldOk_ct _) (aK rfl rfl aK0) rfl rfl) ?_
    all_goals refine oC (op_not rfl rfl) ?_
    all_goals refine oC (oM rfl (Conv.of rfl) rfl) ?_
    all_goals refine g_split (t := 10) rfl (fun h => ?_) (fun h => ?_)
    all_goals first | refine oC (gF rfl rfl rfl rfl rfl) ?_ | refine oC (gN rfl rfl rfl (oM rfl (Conv.of rfl) rfl)) ?_
    all_goals first | refine oC (gF rfl rfl rfl rfl rfl) ?_ | refine oC (gN rfl rfl rfl (oE sl61 rfl rfl)) ?_
    all_goals first | refine oC (gF rfl rfl rfl rfl rfl) ?_ | refine oC (gN rfl rfl rfl (op_gtr rfl rfl rfl)) ?_
    all_goals refine oC (oQ rfl rfl rfl rfl) ?_
    all_goals refine oN ?_
    all_goals exact Le.mk rfl (tle rfl (rfl) rfl (tlb rfl rfl rfl (tle rfl (by first | rfl | (show AV.v _ = AV.v _; simp_all; try omega)) rfl tln))) (olk rfl (by exact bC) oln) noS
  refine aC rfl (fun h2 => ?_) (fun h2 => absurd h2 (by decide))
  all_goals refine aS (aR ?_)
  all_goals refine oC (op_build (.nil _) z26 rfl pl26 rfl) ?_
  all_goals refine oC (op_st ty26 rfl rfl (Conv.of rfl) rfl) ?_
  all_goals refine oN ?_
  refine aT ?_
  repeat first | refine rS ?_ | refine rB ?_
  exact finP (.rc ty26 rfl rfl) rfl rfl
set_option maxHeartbeats 4000000 in
theorem sCalmA_ct (w : Wrld) (pays : List Pay) (h : worldOk w = true) (hp : pays.length ≤ 30) : Ct Tryz.prog 25 [.v w, .v pays] noObj (fun r1 h1 => r1 = .v (sW (pays.foldl calmF w)) ∧ h1 = obs (so (pays.foldl calmF w))) := by
  have hf := (worldOk_iff.1 h).fx
  refine Ct.intro Tryz.func25 rfl rfl ?_
  all_goals refine aS (aR ?_)
  all_goals refine oC (op_box (o := 5) ty26 rfl (Conv.of rfl) rfl rfl) ?_
  all_goals refine oC (oX (o := 6) z26_WrldS rfl rfl) ?_
  all_goals refine oN ?_
  refine aS (aST (s' := mkSt 39 [(1, .v pays), (2, .box 5 (IsLens.whole Wrld)), (4, .box 6 (IsLens.whole WrldS)), (14, .v false)] [(5, .cell w), (6, .cell WrldS.zero)]) ?_ ?_)
  · all_goals refine aR ?_
    all_goals refine oC (oD ty26 rfl rfl rfl) ?_
    all_goals refine oC (oL fb10 (.cons rfl (Conv.of rfl) (.nil _)) (sWorldOk_ct _) (aK rfl rfl aK0) rfl rfl) ?_
    all_goals refine oC (op_not rfl rfl) ?_
    all_goals refine oC (oM rfl (Conv.of rfl) rfl) ?_
    all_goals refine g_split (t := 10) rfl (fun h => ?_) (fun h => ?_)
    all_goals first | refine oC (gF rfl rfl rfl rfl rfl) ?_ | refine oC (gN rfl rfl rfl (oM rfl (Conv.of rfl) rfl)) ?_
    all_goals first | refine oC (gF rfl rfl rfl rfl rfl) ?_ | refine oC (gN rfl rfl rfl (oE sl61 rfl rfl)) ?_
    all_goals first | refine oC (gF rfl rfl rfl rfl rfl) ?_ | refine oC (gN rfl rfl rfl (op_gtr rfl rfl rfl)) ?_
    all_goals refine oC (oQ rfl rfl rfl rfl) ?_
    all_goals refine oN ?_
    all_goals exact Le.mk rfl (tle rfl (rfl) rfl (tlb rfl rfl rfl (tlb rfl rfl rfl (tle rfl (by (show AV.v _ = AV.v _; simp_all; try omega)) rfl tln)))) (olk rfl (by exact bC) (olk rfl (by exact obOkS0) oln)) noS
  refine aC rfl (fun h2 => absurd h2 (by decide)) (fun h2 => ?_)
  refine aW ?_
  all_goals refine aS (aR ?_)
  all_goals refine oC (oD ty26 rfl rfl rfl) ?_
  refine awpOps_callO [] rfl fb76 (.cons rfl (Conv.of rfl) (.nil _)) (l21Copy_ct w hf) ols0 k0 (argOk' rfl rfl argO0) rfl ?_
  rintro r h' ⟨rfl, rfl⟩
  refine ⟨so w, rfl, (fun o ho => by cases ho), fun o ho _ => ?_, kK bN k0, fun o ho => ?_, ?_⟩
  · have : o = 1 := by simpa [keys, lk0] using ho
    subst this; rfl
  · have : o = 1 := by simpa using (show o ∈ [1] from ho)
    subst this; rfl
  all_goals refine oC (oX (o := 0) z26_WrldS rfl rfl) ?_
  all_goals refine oC (op_stm ty26_WrldS rfl rfl rfl) ?_
  all_goals refine oN ?_
  all_goals refine aS (aS (aR ?_))
  all_goals refine oC (oA rfl (Conv.of rfl) rfl) ?_
  all_goals refine oN ?_
  refine aB ?_
  refine awp_loop' (fun n_ s => ∃ (k : Nat), ∃ (hn : n_ + k = pays.length), s = mkSt 39 [(1, .v pays), (4, .box 6 (IsLens.whole WrldS)), (5, .box 0 (IsLens.whole WrldS)), (6, .v (k : Int))] [(1, .arr (((pays.take k).foldl calmF w).nodes.map sN)), (0, .cell (sW ((pays.take k).foldl calmF w))), (6, .cell WrldS.zero)]) (pays.length) ⟨0, by omega, rfl⟩ (Le.mk rfl (tle rfl (rfl) rfl (tlb rfl rfl rfl (tlb rfl rfl rfl (tle rfl (rfl) rfl tln)))) (olk (by rfl) (by exact bN) (olk (by rfl) (by exact obOkS rfl) (olk rfl (by exact obOkS0) oln))) noS) ?_
  rintro n_ s ⟨k, hn, rfl⟩
  have hfine : FineX ((pays.take k).foldl calmF w) := calmFold_ok _ hf
  all_goals refine aS (aS (aR ?_))
  all_goals refine oC (oM rfl (Conv.of rfl) rfl) ?_
  all_goals refine oC (oM rfl (Conv.of rfl) rfl) ?_
  all_goals refine oC (oE sl61 rfl rfl) ?_
  all_goals refine oC (oLt rfl rfl rfl) ?_
  all_goals refine oN ?_
  refine aC rfl (fun h => ?_) (fun h => ?_)
  · have hlt : k < pays.length := by simpa using h
    have hx : pays[k]? = some pays[k] := List.getElem?_eq_getElem hlt
    have hx' : pays[(k : Int).toNat]? = some pays[k] := hx
    refine aW ?_
    refine aS (aB ?_)
    have h1 := tickF_ok hfine
    have h2 := spread_ok h1
    have hep : 1 ≤ (spreadF (tickF ((pays.take k).foldl calmF w))).epoch ∧ (spreadF (tickF ((pays.take k).foldl calmF w))).epoch ≤ 30 := by
      have := hfine.ep
      have e1 : (spreadF (tickF ((pays.take k).foldl calmF w))).epoch = min (((pays.take k).foldl calmF w).epoch + 1) 30 := sprF_ep' 100 0 _
      omega
    all_goals refine aS (aR ?_)
    all_goals refine oC (op_ldm ty26_WrldS rfl rfl rfl) ?_
    all_goals refine oC (oLM (s := 24) (pre := []) fb78 (.nil _) rfl (.nil _) (l21Tick_ct _ hfine.fine) (olsk rfl ols0) (kK (by exact bN) k0) (kK (by exact bN) k0) rfl argO0 argO0 (inOne rfl) (inOne rfl) rfl) ?_
    all_goals refine oC (oLM (s := 25) (pre := []) fb77 (.nil _) rfl (.nil _) (sSpread_ct _ h1) (olsk rfl ols0) (kK (by exact bN) k0) (kK (by exact bN) k0) rfl argO0 argO0 (inOne rfl) (inOne rfl) rfl) ?_
    all_goals refine oC (op_stm ty26_WrldS rfl rfl rfl) ?_
    all_goals refine oN ?_
    refine awp_parkCW (s := 21) (o := 0) (tb := 5) rfl rfl rfl (fun hv => ?_)
    have hld := l3Leader_ct (spreadF (tickF ((pays.take k).foldl calmF w))).epoch (by omega)
    rw [lead_eq hep] at hld
    refine aS ?_
    refine dg_start 9 ?_
    all_goals refine dg_cons (oD ty26_WrldH rfl rfl rfl) ?_
    all_goals refine dg_cons (oF f26_0_WrldH rfl rfl) ?_
    all_goals refine dg_cons (oD ty3 rfl rfl rfl) ?_
    all_goals refine dg_cons (oL fb80 (.cons rfl (Conv.of rfl) (.nil _)) (hld) (aK rfl rfl aK0) rfl rfl) ?_
    all_goals refine dg_cons (oM rfl (Conv.of rfl) rfl) ?_
    all_goals refine dg_cons (oM rfl (Conv.of rfl) rfl) ?_
    all_goals refine dg_cons (op_ix sl61 rfl rfl rfl (by omega) hx') ?_
    all_goals refine dg_cons (oDR ty75 rfl rfl) ?_
    refine dg_cons (op_callPW (s := 27) (r := 21) (ol := so (spreadF (tickF ((pays.take k).foldl calmF w)))) rfl fb79 rfl rfl (.cons rfl (Conv.of rfl) (.cons rfl (Conv.of rfl) (.nil _))) (l21Propose_ct _ _ _ h2) (olsk rfl ols0) (kK bN k0) (kK bN k0) rfl (argOk' rfl rfl (argOk' rfl rfl argO0)) (inOne rfl) (inOne rfl) rfl) ?_
    refine dg_bar (fun _ : Unit => _) mixed rfl rfl (recell (o := 0) (tb := 5) (β := WrldS) rfl rfl (fun G w ω cs hh => wrlH_fW hh)) (fun _ => ?_)
    refine dg_cons (op_stm ty26_WrldS rfl rfl rfl) ?_
    refine dg_nil rfl ?_
    have h3 := wproposeF_ok (id := leader (spreadF (tickF ((pays.take k).foldl calmF w))).epoch) (p := pays[k]) h2
    all_goals refine aR ?_
    all_goals refine oC (op_ldm ty26_WrldS rfl rfl rfl) ?_
    all_goals refine oC (oLM (s := 36) (pre := []) fb77 (.nil _) rfl (.nil _) (sSpread_ct _ h3) (olsk rfl ols0) (kK (by exact bN) k0) (kK (by exact bN) k0) rfl argO0 argO0 (inOne rfl) (inOne rfl) rfl) ?_
    all_goals refine oC (op_stm ty26_WrldS rfl rfl rfl) ?_
    all_goals refine oN ?_
    all_goals refine aR ?_
    all_goals refine oC (oM rfl (Conv.of rfl) rfl) ?_
    all_goals refine oC (oP rfl rfl rfl (by omega)) ?_
    all_goals refine oC (oA rfl (Conv.of rfl) rfl) ?_
    all_goals refine oN ?_
    repeat first | refine nS ?_ | refine nB ?_
    exact ⟨n_ - 1, _, by omega, ⟨k + 1, by omega, rfl⟩, Le.mk rfl (tle rfl (rfl) rfl (tlb rfl rfl rfl (tlb rfl rfl rfl (tle rfl (rfl) rfl tln)))) (olk (by (rw [foldl_at calmF _ hx]; rfl)) (by exact bN) (olk (by (rw [foldl_at calmF _ hx]; rfl)) (by exact obOkS rfl) (olk rfl (by exact obOkS0) oln))) noS⟩
  · refine aE ?_
    repeat refine ex_seq ?_
    refine eB ?_
    have hk : pays.length ≤ k := by simpa using h
    have hp2 : (pays.take k).foldl calmF w = pays.foldl calmF w := by rw [take_end hk]
    rw [hp2] at hfine ⊢
    all_goals refine aS (aR ?_)
    all_goals refine oC (op_ldm ty26_WrldS rfl rfl rfl) ?_
    all_goals refine oC (op_stm ty26_WrldS rfl rfl rfl) ?_
    all_goals refine oN ?_
    refine aT ?_
    repeat first | refine rS ?_ | refine rB ?_
    exact ⟨_, _, res1C (ol := so (pays.foldl calmF w)) ty26_WrldS rfl rfl (inOne rfl) (olk rfl bN oln) noS, rfl, rfl⟩
theorem sCalm_ct (w : Wrld) (pays : List Pay) : CtP Tryz.prog 25 [.v w, .v pays] (.v (worldCalmR w pays)) := by
  unfold worldCalmR
  cases h : worldOk w && decide (pays.length ≤ 30) with
  | false => exact sCalmBad_ct w pays h
  | true =>
    simp only [Bool.and_eq_true, decide_eq_true_eq] at h
    exact Ct.frz (sCalmA_ct w pays h.1 h.2) (frzS_one (big4 (calmFold_ok _ (worldOk_iff.1 h.1).fx).four))
end Go.Proofs.YtmhmeppocbcmeaaGreat

/- The exact laws: what is held. -/
set_option linter.unusedVariables false
set_option linter.unusedSimpArgs false
namespace Go.Proofs.YtmhmeppocbcmeaaGreat
open Go Go.Wt
set_option maxHeartbeats 2000000 in
theorem heldItemS_ct (l : List Itm) (k : Int) (h0 : 0 ≤ k ∧ k + (tS sI l : Int) ≤ 100000000) : CtP Tryz.prog 127 [.v (mkL fI sI l k), .v k] (.v (k + (tS sI l : Int))) := by
  have hml := mkL_len fI sI l k
  have hma := fun (j : Nat) (x : Itm) (h : l[j]? = some x) => mkL_at fI sI (k := k) h
  refine Ct.intro Tryz.func127 rfl rfl ?_
  refine awp_bigL 0 rfl (fun hB => ?_)
  refine aS (aR ?_)
  refine oC (oA rfl (Conv.of rfl) rfl) ?_
  refine oN ?_
  refine aS (aS (aR ?_))
  refine oC (oA rfl (Conv.of rfl) rfl) ?_
  refine oN ?_
  refine aB ?_
  refine awp_loop' (fun n_ s => ∃ (j : Nat), ∃ (y : Int), ∃ (hn : n_ + j = l.length), ∃ (hy : y = k + (tS sI (l.take j) : Int)), s = mkSt 52 [(0, .v (mkL fI sI l k)), (1, .v y), (5, .v (j : Int))] []) (l.length) ⟨0, k, by omega, (by simp [tS]), rfl⟩ (Le.mk rfl (tle rfl (rfl) rfl (tle rfl (rfl) rfl (tle rfl (rfl) rfl tln))) oln noS) ?_
  rintro n_ s ⟨j, y, hn, hy, rfl⟩
  refine aS (aS (aR ?_))
  refine oC (oM rfl (Conv.of rfl) rfl) ?_
  refine oC (oM rfl (Conv.of rfl) rfl) ?_
  refine oC (oE sl27 rfl rfl) ?_
  refine oC (oLt rfl rfl rfl) ?_
  refine oN ?_
  refine aC rfl (fun h2 => ?_) (fun h2 => ?_)
  · have hlt : j < l.length := by have := of_decide_eq_true h2; omega
    have hx0 : l[j]? = some l[j] := List.getElem?_eq_getElem hlt
    generalize l[j] = x at hx0
    have hx := hma j x hx0
    rw [← hy] at hx
    have hx' : (mkL fI sI l k)[(j : Int).toNat]? = some (fI x y) := hx
    have hst := tS_at sI hx0
    have hle := tS_le sI l (j + 1)
    have hsx : sI x = 4 := rfl
    refine aW ?_
    refine aS (aB ?_)
    refine aS (aS (aR ?_))
    refine oC (oM rfl (Conv.of rfl) rfl) ?_
    refine oC (oM rfl (Conv.of rfl) rfl) ?_
    refine oC (op_ix sl27 rfl rfl rfl (by omega) hx') ?_
    refine oC (oFR f143_0 rfl rfl) ?_
    refine oC (oDR ty3 rfl rfl) ?_
    refine oC (oM rfl (Conv.of rfl) rfl) ?_
    refine oC (op_neq rfl rfl rfl) ?_
    refine oN ?_
    refine aC rfl (fun h3 => absurd h3 (by simp [fI])) (fun h3 => ?_)
    refine aW ?_
    refine aS (aR ?_)
    refine oC (oM rfl (Conv.of rfl) rfl) ?_
    refine oC (oP rfl rfl rfl (by omega)) ?_
    refine oC (oA rfl (Conv.of rfl) rfl) ?_
    refine oN ?_
    refine aS (aS (aR ?_))
    refine oC (oM rfl (Conv.of rfl) rfl) ?_
    refine oC (oM rfl (Conv.of rfl) rfl) ?_
    refine oC (op_ix sl27 rfl rfl rfl (by omega) hx') ?_
    refine oC (oFR f143_1 rfl rfl) ?_
    refine oC (oFR f75_0 rfl rfl) ?_
    refine oC (oDR ty3 rfl rfl) ?_
    refine oC (oM rfl (Conv.of rfl) rfl) ?_
    refine oC (op_neq rfl rfl rfl) ?_
    refine oN ?_
    refine aC rfl (fun h3 => absurd h3 (by simp [fI])) (fun h3 => ?_)
    refine aW ?_
    refine aS (aR ?_)
    refine oC (oM rfl (Conv.of rfl) rfl) ?_
    refine oC (oP rfl rfl rfl (by omega)) ?_
    refine oC (oA rfl (Conv.of rfl) rfl) ?_
    refine oN ?_
    refine aS (aS (aR ?_))
    refine oC (oM rfl (Conv.of rfl) rfl) ?_
    refine oC (oM rfl (Conv.of rfl) rfl) ?_
    refine oC (op_ix sl27 rfl rfl rfl (by omega) hx') ?_
    refine oC (oFR f143_1 rfl rfl) ?_
    refine oC (oFR f75_1 rfl rfl) ?_
    refine oC (oDR ty3 rfl rfl) ?_
    refine oC (oM rfl (Conv.of rfl) rfl) ?_
    refine oC (op_neq rfl rfl rfl) ?_
    refine oN ?_
    refine aC rfl (fun h3 => absurd h3 (by simp [fI])) (fun h3 => ?_)
    refine aW ?_
    refine aS (aR ?_)
    refine oC (oM rfl (Conv.of rfl) rfl) ?_
    refine oC (oP rfl rfl rfl (by omega)) ?_
    refine oC (oA rfl (Conv.of rfl) rfl) ?_
    refine oN ?_
    refine aS (aS (aR ?_))
    refine oC (oM rfl (Conv.of rfl) rfl) ?_
    refine oC (oM rfl (Conv.of rfl) rfl) ?_
    refine oC (op_ix sl27 rfl rfl rfl (by omega) hx') ?_
    refine oC (oFR f143_1 rfl rfl) ?_
    refine oC (oFR f75_2 rfl rfl) ?_
    refine oC (oDR ty3 rfl rfl) ?_
    refine oC (oM rfl (Conv.of rfl) rfl) ?_
    refine oC (op_neq rfl rfl rfl) ?_
    refine oN ?_
    refine aC rfl (fun h3 => absurd h3 (by simp [fI])) (fun h3 => ?_)
    refine aW ?_
    refine aR ?_
    refine oC (oM rfl (Conv.of rfl) rfl) ?_
    refine oC (oP rfl rfl rfl (by omega)) ?_
    refine oC (oA rfl (Conv.of rfl) rfl) ?_
    refine oN ?_
    refine aR ?_
    refine oC (oM rfl (Conv.of rfl) rfl) ?_
    refine oC (oP rfl rfl rfl (by omega)) ?_
    refine oC (oA rfl (Conv.of rfl) rfl) ?_
    refine oN ?_
    repeat first | refine nS ?_ | refine nB ?_
    exact ⟨n_ - 1, _, by omega, ⟨j + 1, y + 1 + 1 + 1 + 1, by omega, (by omega), rfl⟩, Le.mk rfl (tle rfl (rfl) rfl (tle rfl (rfl) rfl (tle rfl (rfl) rfl tln))) oln noS⟩
  · refine aE ?_
    repeat refine ex_seq ?_
    refine eB ?_
    have hj : l.length ≤ j := by have := of_decide_eq_false h2; omega
    rw [take_end hj] at hy
    refine aS (aR ?_)
    refine oC (oM rfl (Conv.of rfl) rfl) ?_
    refine oC (oA rfl (Conv.of rfl) rfl) ?_
    refine oN ?_
    refine aT ?_
    repeat first | refine rS ?_ | refine rB ?_
    refine finP (.v rfl (Conv.of rfl)) rfl ?_
    rw [hy]; rfl
set_option maxHeartbeats 2000000 in
theorem heldVoteS_ct (l : List Vote) (k : Int) (h0 : 0 ≤ k ∧ k + (tS sV l : Int) ≤ 100000000) : CtP Tryz.prog 73 [.v (mkL fV sV l k), .v k] (.v (k + (tS sV l : Int))) := by
  have hml := mkL_len fV sV l k
  have hma := fun (j : Nat) (x : Vote) (h : l[j]? = some x) => mkL_at fV sV (k := k) h
  refine Ct.intro Tryz.func73 rfl rfl ?_
  refine awp_bigL 0 rfl (fun hB => ?_)
  refine aS (aR ?_)
  refine oC (oA rfl (Conv.of rfl) rfl) ?_
  refine oN ?_
  refine aS (aS (aR ?_))
  refine oC (oA rfl (Conv.of rfl) rfl) ?_
  refine oN ?_
  refine aB ?_
  refine awp_loop' (fun n_ s => ∃ (j : Nat), ∃ (y : Int), ∃ (hn : n_ + j = l.length), ∃ (hy : y = k + (tS sV (l.take j) : Int)), s = mkSt 31 [(0, .v (mkL fV sV l k)), (1, .v y), (5, .v (j : Int))] []) (l.length) ⟨0, k, by omega, (by simp [tS]), rfl⟩ (Le.mk rfl (tle rfl (rfl) rfl (tle rfl (rfl) rfl (tle rfl (rfl) rfl tln))) oln noS) ?_
  rintro n_ s ⟨j, y, hn, hy, rfl⟩
  refine aS (aS (aR ?_))
  refine oC (oM rfl (Conv.of rfl) rfl) ?_
  refine oC (oM rfl (Conv.of rfl) rfl) ?_
  refine oC (oE sl24 rfl rfl) ?_
  refine oC (oLt rfl rfl rfl) ?_
  refine oN ?_
  refine aC rfl (fun h2 => ?_) (fun h2 => ?_)
  · have hlt : j < l.length := by have := of_decide_eq_true h2; omega
    have hx0 : l[j]? = some l[j] := List.getElem?_eq_getElem hlt
    generalize l[j] = x at hx0
    have hx := hma j x hx0
    rw [← hy] at hx
    have hx' : (mkL fV sV l k)[(j : Int).toNat]? = some (fV x y) := hx
    have hst := tS_at sV hx0
    have hle := tS_le sV l (j + 1)
    have hsx : sV x = 1 + tS sI x.chain := rfl
    refine aW ?_
    refine aS (aB ?_)
    refine aS (aS (aR ?_))
    refine oC (oM rfl (Conv.of rfl) rfl) ?_
    refine oC (oM rfl (Conv.of rfl) rfl) ?_
    refine oC (op_ix sl24 rfl rfl rfl (by omega) hx') ?_
    refine oC (oFR f38_0 rfl rfl) ?_
    refine oC (oDR ty3 rfl rfl) ?_
    refine oC (oM rfl (Conv.of rfl) rfl) ?_
    refine oC (op_neq rfl rfl rfl) ?_
    refine oN ?_
    refine aC rfl (fun h3 => absurd h3 (by simp [fV])) (fun h3 => ?_)
    refine aW ?_
    refine aS (aR ?_)
    refine oC (oM rfl (Conv.of rfl) rfl) ?_
    refine oC (oP rfl rfl rfl (by omega)) ?_
    refine oC (oA rfl (Conv.of rfl) rfl) ?_
    refine oN ?_
    refine aS (aR ?_)
    refine oC (oM rfl (Conv.of rfl) rfl) ?_
    refine oC (oM rfl (Conv.of rfl) rfl) ?_
    refine oC (op_ix sl24 rfl rfl rfl (by omega) hx') ?_
    refine oC (oFR f38_1 rfl rfl) ?_
    refine oC (oDR ty27 rfl rfl) ?_
    refine oC (oM rfl (Conv.of rfl) rfl) ?_
    refine oC (oL fb127 (.cons rfl (Conv.of rfl) (.cons rfl (Conv.of rfl) (.nil _))) (heldItemS_ct (x.chain) (y + 1) (by omega)) (aK rfl rfl (aK rfl rfl aK0)) rfl rfl) ?_
    refine oC (oA rfl (Conv.of rfl) rfl) ?_
    refine oN ?_
    refine aS (aR ?_)
    refine oC (oM rfl (Conv.of rfl) rfl) ?_
    refine oC (oLt rfl rfl rfl) ?_
    refine oN ?_
    refine aC rfl (fun h3 => absurd (of_decide_eq_true h3) (by omega)) (fun h3 => ?_)
    refine aW ?_
    refine aR ?_
    refine oC (oM rfl (Conv.of rfl) rfl) ?_
    refine oC (oP rfl rfl rfl (by omega)) ?_
    refine oC (oA rfl (Conv.of rfl) rfl) ?_
    refine oN ?_
    repeat first | refine nS ?_ | refine nB ?_
    exact ⟨n_ - 1, _, by omega, ⟨j + 1, y + 1 + (tS sI (x.chain) : Int), by omega, (by omega), rfl⟩, Le.mk rfl (tle rfl (rfl) rfl (tle rfl (rfl) rfl (tle rfl (rfl) rfl tln))) oln noS⟩
  · refine aE ?_
    repeat refine ex_seq ?_
    refine eB ?_
    have hj : l.length ≤ j := by have := of_decide_eq_false h2; omega
    rw [take_end hj] at hy
    refine aS (aR ?_)
    refine oC (oM rfl (Conv.of rfl) rfl) ?_
    refine oC (oA rfl (Conv.of rfl) rfl) ?_
    refine oN ?_
    refine aT ?_
    repeat first | refine rS ?_ | refine rB ?_
    refine finP (.v rfl (Conv.of rfl)) rfl ?_
    rw [hy]; rfl
set_option maxHeartbeats 2000000 in
theorem heldNodeS_ct (l : List Nod) (k : Int) (h0 : 0 ≤ k ∧ k + (tS sN_ l : Int) ≤ 100000000) : CtP Tryz.prog 72 [.v (mkL fN_ sN_ l k), .v k] (.v (k + (tS sN_ l : Int))) := by
  have hml := mkL_len fN_ sN_ l k
  have hma := fun (j : Nat) (x : Nod) (h : l[j]? = some x) => mkL_at fN_ sN_ (k := k) h
  refine Ct.intro Tryz.func72 rfl rfl ?_
  refine awp_bigL 0 rfl (fun hB => ?_)
  refine aS (aR ?_)
  refine oC (oA rfl (Conv.of rfl) rfl) ?_
  refine oN ?_
  refine aS (aS (aR ?_))
  refine oC (oA rfl (Conv.of rfl) rfl) ?_
  refine oN ?_
  refine aB ?_
  refine awp_loop' (fun n_ s => ∃ (j : Nat), ∃ (y : Int), ∃ (hn : n_ + j = l.length), ∃ (hy : y = k + (tS sN_ (l.take j) : Int)), s = mkSt 49 [(0, .v (mkL fN_ sN_ l k)), (1, .v y), (5, .v (j : Int))] []) (l.length) ⟨0, k, by omega, (by simp [tS]), rfl⟩ (Le.mk rfl (tle rfl (rfl) rfl (tle rfl (rfl) rfl (tle rfl (rfl) rfl tln))) oln noS) ?_
  rintro n_ s ⟨j, y, hn, hy, rfl⟩
  refine aS (aS (aR ?_))
  refine oC (oM rfl (Conv.of rfl) rfl) ?_
  refine oC (oM rfl (Conv.of rfl) rfl) ?_
  refine oC (oE sl23 rfl rfl) ?_
  refine oC (oLt rfl rfl rfl) ?_
  refine oN ?_
  refine aC rfl (fun h2 => ?_) (fun h2 => ?_)
  · have hlt : j < l.length := by have := of_decide_eq_true h2; omega
    have hx0 : l[j]? = some l[j] := List.getElem?_eq_getElem hlt
    generalize l[j] = x at hx0
    have hx := hma j x hx0
    rw [← hy] at hx
    have hx' : (mkL fN_ sN_ l k)[(j : Int).toNat]? = some (fN_ x y) := hx
    have hst := tS_at sN_ hx0
    have hle := tS_le sN_ l (j + 1)
    have hsx : sN_ x = 3 + tS sV x.seen := rfl
    refine aW ?_
    refine aS (aB ?_)
    refine aS (aS (aR ?_))
    refine oC (oM rfl (Conv.of rfl) rfl) ?_
    refine oC (oM rfl (Conv.of rfl) rfl) ?_
    refine oC (op_ix sl23 rfl rfl rfl (by omega) hx') ?_
    refine oC (oFR f90_0 rfl rfl) ?_
    refine oC (oDR ty3 rfl rfl) ?_
    refine oC (oM rfl (Conv.of rfl) rfl) ?_
    refine oC (op_neq rfl rfl rfl) ?_
    refine oN ?_
    refine aC rfl (fun h3 => absurd h3 (by simp [fN_])) (fun h3 => ?_)
    refine aW ?_
    refine aS (aR ?_)
    refine oC (oM rfl (Conv.of rfl) rfl) ?_
    refine oC (oP rfl rfl rfl (by omega)) ?_
    refine oC (oA rfl (Conv.of rfl) rfl) ?_
    refine oN ?_
    refine aS (aS (aR ?_))
    refine oC (oM rfl (Conv.of rfl) rfl) ?_
    refine oC (oM rfl (Conv.of rfl) rfl) ?_
    refine oC (op_ix sl23 rfl rfl rfl (by omega) hx') ?_
    refine oC (oFR f90_1 rfl rfl) ?_
    refine oC (oDR ty3 rfl rfl) ?_
    refine oC (oM rfl (Conv.of rfl) rfl) ?_
    refine oC (op_neq rfl rfl rfl) ?_
    refine oN ?_
    refine aC rfl (fun h3 => absurd h3 (by simp [fN_])) (fun h3 => ?_)
    refine aW ?_
    refine aS (aR ?_)
    refine oC (oM rfl (Conv.of rfl) rfl) ?_
    refine oC (oP rfl rfl rfl (by omega)) ?_
    refine oC (oA rfl (Conv.of rfl) rfl) ?_
    refine oN ?_
    refine aS (aS (aR ?_))
    refine oC (oM rfl (Conv.of rfl) rfl) ?_
    refine oC (oM rfl (Conv.of rfl) rfl) ?_
    refine oC (op_ix sl23 rfl rfl rfl (by omega) hx') ?_
    refine oC (oFR f90_2 rfl rfl) ?_
    refine oC (oDR ty3 rfl rfl) ?_
    refine oC (oM rfl (Conv.of rfl) rfl) ?_
    refine oC (op_neq rfl rfl rfl) ?_
    refine oN ?_
    refine aC rfl (fun h3 => absurd h3 (by simp [fN_])) (fun h3 => ?_)
    refine aW ?_
    refine aS (aR ?_)
    refine oC (oM rfl (Conv.of rfl) rfl) ?_
    refine oC (oP rfl rfl rfl (by omega)) ?_
    refine oC (oA rfl (Conv.of rfl) rfl) ?_
    refine oN ?_
    refine aS (aR ?_)
    refine oC (oM rfl (Conv.of rfl) rfl) ?_
    refine oC (oM rfl (Conv.of rfl) rfl) ?_
    refine oC (op_ix sl23 rfl rfl rfl (by omega) hx') ?_
    refine oC (oFR f90_3 rfl rfl) ?_
    refine oC (oDR ty24 rfl rfl) ?_
    refine oC (oM rfl (Conv.of rfl) rfl) ?_
    refine oC (oL fb73 (.cons rfl (Conv.of rfl) (.cons rfl (Conv.of rfl) (.nil _))) (heldVoteS_ct (x.seen) (y + 1 + 1 + 1) (by omega)) (aK rfl rfl (aK rfl rfl aK0)) rfl rfl) ?_
    refine oC (oA rfl (Conv.of rfl) rfl) ?_
    refine oN ?_
    refine aS (aR ?_)
    refine oC (oM rfl (Conv.of rfl) rfl) ?_
    refine oC (oLt rfl rfl rfl) ?_
    refine oN ?_
    refine aC rfl (fun h3 => absurd (of_decide_eq_true h3) (by omega)) (fun h3 => ?_)
    refine aW ?_
    refine aR ?_
    refine oC (oM rfl (Conv.of rfl) rfl) ?_
    refine oC (oP rfl rfl rfl (by omega)) ?_
    refine oC (oA rfl (Conv.of rfl) rfl) ?_
    refine oN ?_
    repeat first | refine nS ?_ | refine nB ?_
    exact ⟨n_ - 1, _, by omega, ⟨j + 1, y + 1 + 1 + 1 + (tS sV (x.seen) : Int), by omega, (by omega), rfl⟩, Le.mk rfl (tle rfl (rfl) rfl (tle rfl (rfl) rfl (tle rfl (rfl) rfl tln))) oln noS⟩
  · refine aE ?_
    repeat refine ex_seq ?_
    refine eB ?_
    have hj : l.length ≤ j := by have := of_decide_eq_false h2; omega
    rw [take_end hj] at hy
    refine aS (aR ?_)
    refine oC (oM rfl (Conv.of rfl) rfl) ?_
    refine oC (oA rfl (Conv.of rfl) rfl) ?_
    refine oN ?_
    refine aT ?_
    repeat first | refine rS ?_ | refine rB ?_
    refine finP (.v rfl (Conv.of rfl)) rfl ?_
    rw [hy]; rfl
theorem heldWorld_ct (w : Wrld) (k : Int) (h0 : 0 ≤ k ∧ k + (sWd w : Int) ≤ 100000000) : CtP Tryz.prog 22 [.v (fWd w k), .v k] (.v (k + (sWd w : Int))) := by
  have hw : sWd w = tS sN_ w.nodes + tS sV w.log := rfl
  refine Ct.intro Tryz.func22 rfl rfl ?_
  refine aS (aR ?_)
  refine oC (op_box (o := 0) ty26 rfl (Conv.of rfl) rfl rfl) ?_
  refine oC (oA rfl (Conv.of rfl) rfl) ?_
  refine oN ?_
  refine aS (aR ?_)
  refine oC (oF f26_1 rfl rfl) ?_
  refine oC (oD ty23 rfl rfl rfl) ?_
  refine oC (oM rfl (Conv.of rfl) rfl) ?_
  refine oC (oL fb72 (.cons rfl (Conv.of rfl) (.cons rfl (Conv.of rfl) (.nil _))) (heldNodeS_ct w.nodes k (by omega)) (aK rfl rfl (aK rfl rfl aK0)) rfl rfl) ?_
  refine oC (oA rfl (Conv.of rfl) rfl) ?_
  refine oN ?_
  refine aS (aS (aR ?_))
  refine oC (oM rfl (Conv.of rfl) rfl) ?_
  refine oC (oLt rfl rfl rfl) ?_
  refine oN ?_
  refine aC rfl (fun h3 => absurd (of_decide_eq_true h3) (by omega)) (fun h3 => ?_)
  refine aW ?_
  refine aS (aR ?_)
  refine oC (oF f26_2 rfl rfl) ?_
  refine oC (oD ty24 rfl rfl rfl) ?_
  refine oC (oM rfl (Conv.of rfl) rfl) ?_
  refine oC (oL fb73 (.cons rfl (Conv.of rfl) (.cons rfl (Conv.of rfl) (.nil _))) (heldVoteS_ct w.log (k + (tS sN_ w.nodes : Int)) (by omega)) (aK rfl rfl (aK rfl rfl aK0)) rfl rfl) ?_
  refine oC (oA rfl (Conv.of rfl) rfl) ?_
  refine oN ?_
  refine aS (aS (aR ?_))
  refine oC (oM rfl (Conv.of rfl) rfl) ?_
  refine oC (oLt rfl rfl rfl) ?_
  refine oN ?_
  refine aC rfl (fun h3 => absurd (of_decide_eq_true h3) (by omega)) (fun h3 => ?_)
  refine aW ?_
  refine aS (aR ?_)
  refine oC (oM rfl (Conv.of rfl) rfl) ?_
  refine oC (oA rfl (Conv.of rfl) rfl) ?_
  refine oN ?_
  refine aT ?_
  repeat first | refine rS ?_ | refine rB ?_
  refine finP (.v rfl (Conv.of rfl)) rfl ?_
  show AV.v _ = AV.v _
  congr 1; omega
end Go.Proofs.YtmhmeppocbcmeaaGreat

/- The exact laws: what is marked. -/
set_option linter.unusedVariables false
set_option linter.unusedSimpArgs false
namespace Go.Proofs.YtmhmeppocbcmeaaGreat
open Go Go.Wt Go.RowKit
def MarkOk {α : Type} [Enc α] (E : EPred α) (sz : Nat) (f : α → Int → α) (s : α → Nat) (fn : FuncId) : Prop := ∀ (w : Go.World) (u : Value) (xs : List α) (L : List Adr) (k : Int), DL E sz w u xs L → L.Nodup →
  (∀ a ∈ L, w.frozen? ⟨a.1, a.2, none⟩ = false) → 0 ≤ k → k + (tS s xs : Int) ≤ 100000000 →
  Calls Tryz.prog fn #[u, .int .i64 k] w fun r w' => r = .returned (.int .i64 (k + (tS s xs : Int))) ∧ DL E sz w' u (mkL f s xs k) L ∧ Fr L w w'
theorem cur_at {α : Type} {f : α → Int → α} {s : α → Nat} {xs : List α} {k : Int} {j : Nat} {x : α} (h : xs[j]? = some x) : ((mkL f s xs k).take j ++ xs.drop j)[j]? = some x := by
  have hj := getElem?_lt h
  rw [List.getElem?_append_right (by rw [List.length_take, mkL_len]; omega), List.length_take, mkL_len, Nat.min_eq_left (by omega), Nat.sub_self, List.getElem?_drop]
  exact h
theorem cur_set {α : Type} {f : α → Int → α} {s : α → Nat} {xs : List α} {k : Int} {j : Nat} {x : α} (h : xs[j]? = some x) :
    ((mkL f s xs k).take j ++ xs.drop j).set j (f x (k + (tS s (xs.take j) : Int))) = (mkL f s xs k).take (j + 1) ++ xs.drop (j + 1) := by
  have hj := getElem?_lt h
  rw [List.set_append_right _ _ (by rw [List.length_take, mkL_len]; omega), List.length_take, mkL_len, Nat.min_eq_left (by omega), Nat.sub_self, drop_at h, List.set_cons_zero, take_at (mkL_at f s h), List.append_assoc]
  rfl
theorem cur_len {α : Type} {f : α → Int → α} {s : α → Nat} {xs : List α} {k : Int} {j : Nat} (h : j ≤ xs.length) : ((mkL f s xs k).take j ++ xs.drop j).length = xs.length := by
  rw [List.length_append, List.length_take, List.length_drop, mkL_len]; omega
structure Hid (p : Prop) : Prop where
  out : p
theorem fr_sets {L : List Adr} {b : Nat} : ∀ (vs : List Value) (o : Nat) (w : Go.World), (∀ i, i < vs.length → (b, o + i) ∈ L ∧ ∃ v, cl w b (o + i) = some v) → Fr L w (w.setCells b o vs)
  | [], _, w, _ => Fr.refl L w
  | v :: r, o, w, h => by
    obtain ⟨h1, v1, h2⟩ := h 0 (by simp)
    have f1 : Fr L w (w.setCell ⟨b, o, none⟩ v) := Fr.set h1 h2
    refine f1.trans (fr_sets r (o + 1) _ fun i hi => ?_)
    obtain ⟨h3, v3, h4⟩ := h (i + 1) (by simp; omega)
    refine ⟨by rw [show o + 1 + i = o + (i + 1) by omega]; exact h3, ?_⟩
    rw [show o + 1 + i = o + (i + 1) by omega]
    exact f1.has b _ v3 h4
/-- The cells of an element that are written, and those that are not. -/
theorem sets_cell {b o : Nat} {w : Go.World} {vs : List Value} (h : ∀ i, i < vs.length → ∃ v, cl w b (o + i) = some v) {i : Nat} {v : Value} (hi : vs[i]? = some v) : cl (w.setCells b o vs) b (o + i) = some v := by
  obtain ⟨h1, h2⟩ := List.getElem?_eq_some_iff.1 hi
  have := World.cell?_setCells_in b vs o w (fun j hj => by obtain ⟨v, hv⟩ := h j hj; show (cl w b (o + j)).isSome = true; rw [hv]; rfl) i h1
  rw [h2] at this
  exact this
theorem sets_out {b o : Nat} {w : Go.World} {vs : List Value} {a : Adr} (h : a ∉ cellsOf b o vs.length) : cl (w.setCells b o vs) a.1 a.2 = cl w a.1 a.2 :=
  World.cell?_setCells_out b vs o w ⟨a.1, a.2, none⟩ fun e _ => by
    refine Classical.byContradiction fun hn => h (mem_cells.2 ⟨e, ?_, ?_⟩)
    · have : ¬ (a.2 < o ∨ o + vs.length ≤ a.2) := hn
      omega
    · have : ¬ (a.2 < o ∨ o + vs.length ≤ a.2) := hn
      omega
set_option maxHeartbeats 2000000 in
theorem markItemS_ok : MarkOk EI 4 fI sI 69 := by
  intro w u xs L k hd hnd hfz h0 hk
  obtain ⟨a, cap, rfl, hcap, hbig, hcase⟩ := id hd
  clear hcase
  have hbig' : xs.length ≤ 4611686018427387904 := hbig
  go_enter Tryz.func69, Tryz.ntmps69
  go_wp2
  go_loopw [1, 5] (fun y i wr => ∃ j : Nat, j ≤ xs.length ∧ i = .int .i64 j ∧ y = .int .i64 (k + (tS sI (xs.take j) : Int)) ∧ DL EI 4 wr (.slice a xs.length cap) ((mkL fI sI xs k).take j ++ xs.drop j) L ∧ Fr L w wr) (fun _ i _ => xs.length - (intOf i).toNat)
  case atStart => exact ⟨0, by omega, rfl, by simp [tS], by simpa using hd, Fr.refl L w⟩
  case round =>
    obtain ⟨j, hj, rfl, rfl, hdl, hfr⟩ := hrel
    by_cases hlt : j < xs.length
    · have hx : xs[j]? = some xs[j] := List.getElem?_eq_getElem hlt
      generalize xs[j] = x at hx
      obtain ⟨b, off, cap', c, Li, e1, e2, ⟨e3, e3'⟩, e4, e5, e6, e7, e8, e9⟩ := hdl.at EI.ok hnd (cur_at hx)
      subst e3 e3'
      rw [cur_len hj] at e1
      injection e1 with e1 _ e1'
      subst e1 e1'
      have q0 : wr.cell? ⟨b, off + j * 4, none⟩ = some (.int .i64 x.epoch) := e5 0 _ rfl
      have q1 : wr.cell? ⟨b, off + j * 4 + 1, none⟩ = some (.int .i64 x.pay.frm) := e5 1 _ rfl
      have q2 : wr.cell? ⟨b, off + j * 4 + 1 + 1, none⟩ = some (.int .i64 x.pay.to) := e5 2 _ rfl
      have q3 : wr.cell? ⟨b, off + j * 4 + 1 + 2, none⟩ = some (.int .i64 x.pay.sum) := e5 3 _ rfl
      have hzz : ∀ i, i < 4 → wr.frozen? ⟨b, off + j * 4 + i, none⟩ = false := fun i hi => (hfr.fz b _).trans (hfz (b, off + j * 4 + i) (e6 i hi).1)
      have z0 : wr.frozen? ⟨b, off + j * 4, none⟩ = false := hzz 0 (by omega)
      have z1 : wr.frozen? ⟨b, off + j * 4 + 1, none⟩ = false := hzz 1 (by omega)
      have z2 : wr.frozen? ⟨b, off + j * 4 + 1 + 1, none⟩ = false := hzz 2 (by omega)
      have z3 : wr.frozen? ⟨b, off + j * 4 + 1 + 2, none⟩ = false := hzz 3 (by omega)
      have hle := tS_le sI xs (j + 1)
      have hst := tS_at sI hx
      have K : Hid _ := ⟨And.intro e9 (And.intro e6 (And.intro e5 hfz))⟩
      clear hd hdl e5 e9 e8 e7 e6 hzz hfz
      generalize hy : k + (tS sI (xs.take j) : Int) = y
      go_wp2
      obtain ⟨⟨e9, e6, e5, hfz⟩⟩ := K
      have hc : ∀ i, i < 4 → ∃ v, cl wr b (off + j * 4 + i) = some v := fun i hi => ⟨_, e5 i _ (List.getElem?_eq_getElem (by simpa using hi))⟩
      have hs4 : sI x = 4 := rfl
      have hw4 : (((wr.setCell ⟨b, off + j * 4, none⟩ (.int .i64 y)).setCell ⟨b, off + j * 4 + 1, none⟩ (.int .i64 (y + 1))).setCell ⟨b, off + j * 4 + 1 + 1, none⟩ (.int .i64 (y + 1 + 1))).setCell ⟨b, off + j * 4 + 1 + 2, none⟩ (.int .i64 (y + 1 + 1 + 1)) = wr.setCells b (off + j * 4) [.int .i64 y, .int .i64 (y + 1), .int .i64 (y + 1 + 1), .int .i64 (y + 1 + 1 + 1)] := by
        simp only [World.setCells, Nat.add_assoc]
      rw [hw4]
      have hlen : ([.int .i64 y, .int .i64 (y + 1), .int .i64 (y + 1 + 1), .int .i64 (y + 1 + 1 + 1)] : List Value).length = 4 := rfl
      have hel : EI (wr.setCells b (off + j * 4) [.int .i64 y, .int .i64 (y + 1), .int .i64 (y + 1 + 1), .int .i64 (y + 1 + 1 + 1)]) [.int .i64 y, .int .i64 (y + 1), .int .i64 (y + 1 + 1), .int .i64 (y + 1 + 1 + 1)] (fI x y) [] := ⟨rfl, rfl⟩
      generalize ([.int .i64 y, .int .i64 (y + 1), .int .i64 (y + 1 + 1), .int .i64 (y + 1 + 1 + 1)] : List Value) = vs at hlen hel ⊢
      refine ⟨⟨j + 1, by omega, rfl, by rw [hst, hs4]; congr 1; omega, ?_, ?_⟩, by simp [intOf]; omega⟩
      · have := e9 (wr.setCells b (off + j * 4) vs) (fI x y) vs (fun p _ _ hp v hv => by rw [sets_out (by rw [hlen]; exact hp)]; exact hv) hel hlen (fun i v hi => sets_cell (fun i hi => hc i (by omega)) hi)
        rw [← hy, cur_set hx] at this
        exact this
      · exact hfr.trans (fr_sets vs (off + j * 4) wr fun i hi => ⟨(e6 i (by omega)).1, hc i (by omega)⟩)
    · clear hd
      go_wp2
      go_ret
      have hje : j = xs.length := by omega
      subst hje
      rw [List.take_of_length_le (by rw [mkL_len]; exact Nat.le_refl _), List.drop_eq_nil_of_le (Nat.le_refl _), List.append_nil] at hdl
      refine ⟨?_, hdl, hfr⟩
      show Ending.returned (Value.int .i64 (k + (tS sI (xs.take xs.length) : Int))) = _
      rw [List.take_of_length_le (Nat.le_refl _)]
set_option maxHeartbeats 4000000 in
theorem markPayS_ok : MarkOk EP 3 fP sP 30 := by
  intro w u xs L k hd hnd hfz h0 hk
  obtain ⟨a, cap, rfl, hcap, hbig, hcase⟩ := id hd
  clear hcase
  have hbig' : xs.length ≤ 4611686018427387904 := hbig
  go_enter Tryz.func30, Tryz.ntmps30
  go_wp2
  go_loopw [1, 5] (fun y i wr => ∃ j : Nat, j ≤ xs.length ∧ i = .int .i64 j ∧ y = .int .i64 (k + (tS sP (xs.take j) : Int)) ∧ DL EP 3 wr (.slice a xs.length cap) ((mkL fP sP xs k).take j ++ xs.drop j) L ∧ Fr L w wr) (fun _ i _ => xs.length - (intOf i).toNat)
  case atStart => exact ⟨0, by omega, rfl, by simp [tS], by simpa using hd, Fr.refl L w⟩
  case round =>
    obtain ⟨j, hj, rfl, rfl, hdl, hfr⟩ := hrel
    by_cases hlt : j < xs.length
    · have hx : xs[j]? = some xs[j] := List.getElem?_eq_getElem hlt
      generalize xs[j] = x at hx
      obtain ⟨b, off, cap', c, Li, e1, e2, ⟨e3, e3'⟩, e4, e5, e6, e7, e8, e9⟩ := hdl.at EP.ok hnd (cur_at hx)
      subst e3 e3'
      rw [cur_len hj] at e1
      injection e1 with e1 _ e1'
      subst e1 e1'
      have q0 : wr.cell? ⟨b, off + j * 3, none⟩ = some (.int .i64 x.frm) := e5 0 _ rfl
      have q1 : wr.cell? ⟨b, off + j * 3 + 1, none⟩ = some (.int .i64 x.to) := e5 1 _ rfl
      have q2 : wr.cell? ⟨b, off + j * 3 + 2, none⟩ = some (.int .i64 x.sum) := e5 2 _ rfl
      have hzz : ∀ i, i < 3 → wr.frozen? ⟨b, off + j * 3 + i, none⟩ = false := fun i hi => (hfr.fz b _).trans (hfz (b, off + j * 3 + i) (e6 i hi).1)
      have z0 : wr.frozen? ⟨b, off + j * 3, none⟩ = false := hzz 0 (by omega)
      have z1 : wr.frozen? ⟨b, off + j * 3 + 1, none⟩ = false := hzz 1 (by omega)
      have z2 : wr.frozen? ⟨b, off + j * 3 + 2, none⟩ = false := hzz 2 (by omega)
      have hle := tS_le sP xs (j + 1)
      have hst := tS_at sP hx
      have hsx : sP x = 3 := rfl
      have hc : ∀ i, i < 3 → ∃ v, cl wr b (off + j * 3 + i) = some v := fun i hi => ⟨_, e5 i _ (List.getElem?_eq_getElem (by simpa using hi))⟩
      generalize hy : k + (tS sP (xs.take j) : Int) = y
      have hw4 : (((wr.setCell ⟨b, off + j * 3, none⟩ (.int .i64 (y))).setCell ⟨b, off + j * 3 + 1, none⟩ (.int .i64 (y + 1))).setCell ⟨b, off + j * 3 + 2, none⟩ (.int .i64 (y + 1 + 1))) = wr.setCells b (off + j * 3) [.int .i64 (y), .int .i64 (y + 1), .int .i64 (y + 1 + 1)] := by
        simp only [World.setCells, Nat.add_assoc, Int.add_zero]
      have K : Hid _ := ⟨And.intro e9 (And.intro e6 (And.intro hfz (And.intro hw4 hc)))⟩
      clear hd hdl e5 e9 e8 e7 e6 hzz hfz hw4 hc
      go_wp2
      obtain ⟨⟨e9, e6, hfz, hw4, hc⟩⟩ := K
      rw [hw4]
      have hlen : ([.int .i64 (y), .int .i64 (y + 1), .int .i64 (y + 1 + 1)] : List Value).length = 3 := rfl
      have hel : EP (wr.setCells b (off + j * 3) [.int .i64 (y), .int .i64 (y + 1), .int .i64 (y + 1 + 1)]) [.int .i64 (y), .int .i64 (y + 1), .int .i64 (y + 1 + 1)] (fP x y) [] := ⟨rfl, rfl⟩
      generalize ([.int .i64 (y), .int .i64 (y + 1), .int .i64 (y + 1 + 1)] : List Value) = vs at hlen hel ⊢
      refine ⟨⟨j + 1, by omega, rfl, by rw [hst, hsx]; congr 1; omega, ?_, ?_⟩, by simp [intOf]; omega⟩
      · have := e9 (wr.setCells b (off + j * 3) vs) (fP x y) vs (fun p _ _ hp v hv => by rw [sets_out (by rw [hlen]; exact hp)]; exact hv) hel hlen (fun i v hi => sets_cell (fun i hi => hc i (by omega)) hi)
        rw [← hy, cur_set hx] at this
        exact this
      · exact hfr.trans (fr_sets vs (off + j * 3) wr fun i hi => ⟨(e6 i (by omega)).1, hc i (by omega)⟩)
    · clear hd
      go_wp2
      go_ret
      have hje : j = xs.length := by omega
      subst hje
      rw [List.take_of_length_le (by rw [mkL_len]; exact Nat.le_refl _), List.drop_eq_nil_of_le (Nat.le_refl _), List.append_nil] at hdl
      refine ⟨?_, hdl, hfr⟩
      show Ending.returned (Value.int .i64 (k + (tS sP (xs.take xs.length) : Int))) = _
      rw [List.take_of_length_le (Nat.le_refl _)]
end Go.Proofs.YtmhmeppocbcmeaaGreat

/- The exact laws: what is marked, further. -/
set_option linter.unusedVariables false
set_option linter.unusedSimpArgs false
namespace Go.Proofs.YtmhmeppocbcmeaaGreat
open Go Go.Wt Go.RowKit
set_option maxHeartbeats 4000000 in
theorem markEventS_ok : MarkOk EE 8 fE sE 20 := by
  intro w u xs L k hd hnd hfz h0 hk
  obtain ⟨a, cap, rfl, hcap, hbig, hcase⟩ := id hd
  clear hcase
  have hbig' : xs.length ≤ 4611686018427387904 := hbig
  go_enter Tryz.func20, Tryz.ntmps20
  go_wp2
  go_loopw [1, 5] (fun y i wr => ∃ j : Nat, j ≤ xs.length ∧ i = .int .i64 j ∧ y = .int .i64 (k + (tS sE (xs.take j) : Int)) ∧ DL EE 8 wr (.slice a xs.length cap) ((mkL fE sE xs k).take j ++ xs.drop j) L ∧ Fr L w wr) (fun _ i _ => xs.length - (intOf i).toNat)
  case atStart => exact ⟨0, by omega, rfl, by simp [tS], by simpa using hd, Fr.refl L w⟩
  case round =>
    obtain ⟨j, hj, rfl, rfl, hdl, hfr⟩ := hrel
    by_cases hlt : j < xs.length
    · have hx : xs[j]? = some xs[j] := List.getElem?_eq_getElem hlt
      generalize xs[j] = x at hx
      obtain ⟨b, off, cap', c, Li, e1, e2, ⟨hh, e3, hsub⟩, e4, e5, e6, e7, e8, e9⟩ := hdl.at EE.ok hnd (cur_at hx)
      subst e3
      rw [cur_len hj] at e1
      injection e1 with e1 _ e1'
      subst e1 e1'
      have q0 : wr.cell? ⟨b, off + j * 8, none⟩ = some (.int .i64 x.kind) := e5 0 _ rfl
      have q1 : wr.cell? ⟨b, off + j * 8 + 1, none⟩ = some (.int .i64 x.a) := e5 1 _ rfl
      have q2 : wr.cell? ⟨b, off + j * 8 + 2, none⟩ = some (.int .i64 x.b) := e5 2 _ rfl
      have q3 : wr.cell? ⟨b, off + j * 8 + 3, none⟩ = some (.int .i64 x.pay.frm) := e5 3 _ rfl
      have q4 : wr.cell? ⟨b, off + j * 8 + 3 + 1, none⟩ = some (.int .i64 x.pay.to) := e5 4 _ rfl
      have q5 : wr.cell? ⟨b, off + j * 8 + 3 + 2, none⟩ = some (.int .i64 x.pay.sum) := e5 5 _ rfl
      have q6 : wr.cell? ⟨b, off + j * 8 + 6, none⟩ = some (.int .i64 x.vote.by_) := e5 6 _ rfl
      have q7 : wr.cell? ⟨b, off + j * 8 + 6 + 1, none⟩ = some hh := e5 7 _ rfl
      have hzz : ∀ i, i < 8 → wr.frozen? ⟨b, off + j * 8 + i, none⟩ = false := fun i hi => (hfr.fz b _).trans (hfz (b, off + j * 8 + i) (e6 i hi).1)
      have z0 : wr.frozen? ⟨b, off + j * 8, none⟩ = false := hzz 0 (by omega)
      have z1 : wr.frozen? ⟨b, off + j * 8 + 1, none⟩ = false := hzz 1 (by omega)
      have z2 : wr.frozen? ⟨b, off + j * 8 + 2, none⟩ = false := hzz 2 (by omega)
      have z3 : wr.frozen? ⟨b, off + j * 8 + 3, none⟩ = false := hzz 3 (by omega)
      have z4 : wr.frozen? ⟨b, off + j * 8 + 3 + 1, none⟩ = false := hzz 4 (by omega)
      have z5 : wr.frozen? ⟨b, off + j * 8 + 3 + 2, none⟩ = false := hzz 5 (by omega)
      have z6 : wr.frozen? ⟨b, off + j * 8 + 6, none⟩ = false := hzz 6 (by omega)
      have hle := tS_le sE xs (j + 1)
      have hst := tS_at sE hx
      have hsx : sE x = 7 + tS sI (x.vote.chain) := rfl
      have hc : ∀ i, i < 8 → ∃ v, cl wr b (off + j * 8 + i) = some v := fun i hi => ⟨_, e5 i _ (List.getElem?_eq_getElem (by simpa using hi))⟩
      generalize hy : k + (tS sE (xs.take j) : Int) = y
      have hw4 : (((((((wr.setCell ⟨b, off + j * 8, none⟩ (.int .i64 (y))).setCell ⟨b, off + j * 8 + 1, none⟩ (.int .i64 (y + 1))).setCell ⟨b, off + j * 8 + 2, none⟩ (.int .i64 (y + 1 + 1))).setCell ⟨b, off + j * 8 + 3, none⟩ (.int .i64 (y + 1 + 1 + 1))).setCell ⟨b, off + j * 8 + 3 + 1, none⟩ (.int .i64 (y + 1 + 1 + 1 + 1))).setCell ⟨b, off + j * 8 + 3 + 2, none⟩ (.int .i64 (y + 1 + 1 + 1 + 1 + 1))).setCell ⟨b, off + j * 8 + 6, none⟩ (.int .i64 (y + 1 + 1 + 1 + 1 + 1 + 1))) = wr.setCells b (off + j * 8) [.int .i64 (y), .int .i64 (y + 1), .int .i64 (y + 1 + 1), .int .i64 (y + 1 + 1 + 1), .int .i64 (y + 1 + 1 + 1 + 1), .int .i64 (y + 1 + 1 + 1 + 1 + 1), .int .i64 (y + 1 + 1 + 1 + 1 + 1 + 1)] := by
        simp only [World.setCells, Nat.add_assoc, Int.add_zero]
      have hf4 : Fr L wr (wr.setCells b (off + j * 8) [.int .i64 (y), .int .i64 (y + 1), .int .i64 (y + 1 + 1), .int .i64 (y + 1 + 1 + 1), .int .i64 (y + 1 + 1 + 1 + 1), .int .i64 (y + 1 + 1 + 1 + 1 + 1), .int .i64 (y + 1 + 1 + 1 + 1 + 1 + 1)]) := fr_sets [.int .i64 (y), .int .i64 (y + 1), .int .i64 (y + 1 + 1), .int .i64 (y + 1 + 1 + 1), .int .i64 (y + 1 + 1 + 1 + 1), .int .i64 (y + 1 + 1 + 1 + 1 + 1), .int .i64 (y + 1 + 1 + 1 + 1 + 1 + 1)] (off + j * 8) wr fun i hi => ⟨(e6 i (by simp at hi; omega)).1, hc i (by simp at hi; omega)⟩
      have hout : ∀ p ∈ Li, cl (wr.setCells b (off + j * 8) [.int .i64 (y), .int .i64 (y + 1), .int .i64 (y + 1 + 1), .int .i64 (y + 1 + 1 + 1), .int .i64 (y + 1 + 1 + 1 + 1), .int .i64 (y + 1 + 1 + 1 + 1 + 1), .int .i64 (y + 1 + 1 + 1 + 1 + 1 + 1)]) p.1 p.2 = cl wr p.1 p.2 := fun p hp => sets_out fun hm => by
        obtain ⟨m1, m2, m3⟩ := mem_cells.1 hm
        refine (e6 (p.2 - (off + j * 8)) (by simp at m3; omega)).2 ?_
        rw [show off + j * 8 + (p.2 - (off + j * 8)) = p.2 by omega, ← m1]
        exact hp
      have hin : ∀ i v, ([.int .i64 (y), .int .i64 (y + 1), .int .i64 (y + 1 + 1), .int .i64 (y + 1 + 1 + 1), .int .i64 (y + 1 + 1 + 1 + 1), .int .i64 (y + 1 + 1 + 1 + 1 + 1), .int .i64 (y + 1 + 1 + 1 + 1 + 1 + 1)] : List Value)[i]? = some v → cl (wr.setCells b (off + j * 8) [.int .i64 (y), .int .i64 (y + 1), .int .i64 (y + 1 + 1), .int .i64 (y + 1 + 1 + 1), .int .i64 (y + 1 + 1 + 1 + 1), .int .i64 (y + 1 + 1 + 1 + 1 + 1), .int .i64 (y + 1 + 1 + 1 + 1 + 1 + 1)]) b (off + j * 8 + i) = some v := fun i v hi => sets_cell (fun i hi => hc i (by simp at hi; omega)) hi
      have hhd : cl (wr.setCells b (off + j * 8) [.int .i64 (y), .int .i64 (y + 1), .int .i64 (y + 1 + 1), .int .i64 (y + 1 + 1 + 1), .int .i64 (y + 1 + 1 + 1 + 1), .int .i64 (y + 1 + 1 + 1 + 1 + 1), .int .i64 (y + 1 + 1 + 1 + 1 + 1 + 1)]) b (off + j * 8 + 7) = some hh := by
        rw [show cl (wr.setCells b (off + j * 8) [.int .i64 (y), .int .i64 (y + 1), .int .i64 (y + 1 + 1), .int .i64 (y + 1 + 1 + 1), .int .i64 (y + 1 + 1 + 1 + 1), .int .i64 (y + 1 + 1 + 1 + 1 + 1), .int .i64 (y + 1 + 1 + 1 + 1 + 1 + 1)]) b (off + j * 8 + 7) = cl wr b (off + j * 8 + 7) from sets_out (a := (b, off + j * 8 + 7)) fun hm => by
          obtain ⟨_, _, m3⟩ := mem_cells.1 hm
          simp at m3]
        exact e5 7 _ rfl
      have hS := markItemS_ok ((((((((wr.setCell ⟨b, off + j * 8, none⟩ (.int .i64 (y))).setCell ⟨b, off + j * 8 + 1, none⟩ (.int .i64 (y + 1))).setCell ⟨b, off + j * 8 + 2, none⟩ (.int .i64 (y + 1 + 1))).setCell ⟨b, off + j * 8 + 3, none⟩ (.int .i64 (y + 1 + 1 + 1))).setCell ⟨b, off + j * 8 + 3 + 1, none⟩ (.int .i64 (y + 1 + 1 + 1 + 1))).setCell ⟨b, off + j * 8 + 3 + 2, none⟩ (.int .i64 (y + 1 + 1 + 1 + 1 + 1))).setCell ⟨b, off + j * 8 + 6, none⟩ (.int .i64 (y + 1 + 1 + 1 + 1 + 1 + 1)))) hh (x.vote.chain) Li (y + 1 + 1 + 1 + 1 + 1 + 1 + 1) (by rw [hw4]; exact hsub.mono EI.ok fun p hp v hv => by rw [hout p hp]; exact hv) e8
        (fun p hp => by rw [hw4]; exact (hf4.fz p.1 p.2).trans ((hfr.fz p.1 p.2).trans (hfz p (e7 p hp)))) (by omega) (by omega)
      have K : Hid _ := ⟨And.intro e9 (And.intro e6 (And.intro e7 (And.intro hfz (And.intro hf4 (And.intro hout (And.intro hin (And.intro hhd (And.intro hw4 hc))))))))⟩
      clear hd hdl e5 e9 e8 e7 e6 hzz hfz hc hf4 hout hin hhd hsub hw4
      go_wp2_with (go_at_call 69; refine hS.mono ?_)
      rintro r w1 rfl hd1 hf1
      have K1 : Hid _ := ⟨And.intro hd1 hf1⟩
      clear hd1 hf1
      go_wp2
      obtain ⟨⟨e9, e6, e7, hfz, hf4, hout, hin, hhd, hw4, hc⟩⟩ := K
      obtain ⟨⟨hd1, hf1⟩⟩ := K1
      rw [hw4] at hf1
      clear hw4
      have hlen : ([.int .i64 (y), .int .i64 (y + 1), .int .i64 (y + 1 + 1), .int .i64 (y + 1 + 1 + 1), .int .i64 (y + 1 + 1 + 1 + 1), .int .i64 (y + 1 + 1 + 1 + 1 + 1), .int .i64 (y + 1 + 1 + 1 + 1 + 1 + 1)] : List Value).length = 7 := rfl
      have hel : EE w1 ([.int .i64 (y), .int .i64 (y + 1), .int .i64 (y + 1 + 1), .int .i64 (y + 1 + 1 + 1), .int .i64 (y + 1 + 1 + 1 + 1), .int .i64 (y + 1 + 1 + 1 + 1 + 1), .int .i64 (y + 1 + 1 + 1 + 1 + 1 + 1)] ++ [hh]) (fE x y) Li := ⟨hh, rfl, hd1⟩
      generalize ([.int .i64 (y), .int .i64 (y + 1), .int .i64 (y + 1 + 1), .int .i64 (y + 1 + 1 + 1), .int .i64 (y + 1 + 1 + 1 + 1), .int .i64 (y + 1 + 1 + 1 + 1 + 1), .int .i64 (y + 1 + 1 + 1 + 1 + 1 + 1)] : List Value) = vs at *
      refine ⟨⟨j + 1, by omega, rfl, by rw [hst, hsx]; congr 1; omega, ?_, ?_⟩, by simp [intOf]; omega⟩
      · have := e9 w1 (fE x y) (vs ++ [hh]) (fun p hpL hp1 hp2 v hv => by
            rw [hf1.cell p.1 p.2 hp1]
            rw [sets_out fun hm => hp2 (by
              obtain ⟨m1, m2, m3⟩ := mem_cells.1 hm
              exact mem_cells.2 ⟨m1, m2, by omega⟩)]
            exact hv) hel (by rw [List.length_append, hlen]; rfl) (fun i v hi => by
            have hi2 : i < 7 + 1 := by have := getElem?_lt hi; rw [List.length_append, hlen] at this; exact this
            rw [hf1.cell b _ (e6 i (by omega)).2]
            by_cases he : i = 7
            · subst he
              rw [List.getElem?_append_right (by omega), hlen] at hi
              have : v = hh := by simpa using hi.symm
              rw [this]; exact hhd
            · exact hin i v (by rw [List.getElem?_append_left (by omega)] at hi; exact hi))
        rw [← hy, cur_set hx] at this
        exact this
      · exact (hfr.trans hf4).trans (hf1.weak e7)
    · clear hd
      go_wp2
      go_ret
      have hje : j = xs.length := by omega
      subst hje
      rw [List.take_of_length_le (by rw [mkL_len]; exact Nat.le_refl _), List.drop_eq_nil_of_le (Nat.le_refl _), List.append_nil] at hdl
      refine ⟨?_, hdl, hfr⟩
      show Ending.returned (Value.int .i64 (k + (tS sE (xs.take xs.length) : Int))) = _
      rw [List.take_of_length_le (Nat.le_refl _)]
end Go.Proofs.YtmhmeppocbcmeaaGreat

/- The exact laws: what is marked, further. -/
set_option linter.unusedVariables false
set_option linter.unusedSimpArgs false
namespace Go.Proofs.YtmhmeppocbcmeaaGreat
open Go Go.Wt Go.RowKit
set_option maxHeartbeats 4000000 in
theorem markVoteS_ok : MarkOk EV 2 fV sV 71 := by
  intro w u xs L k hd hnd hfz h0 hk
  obtain ⟨a, cap, rfl, hcap, hbig, hcase⟩ := id hd
  clear hcase
  have hbig' : xs.length ≤ 4611686018427387904 := hbig
  go_enter Tryz.func71, Tryz.ntmps71
  go_wp2
  go_loopw [1, 5] (fun y i wr => ∃ j : Nat, j ≤ xs.length ∧ i = .int .i64 j ∧ y = .int .i64 (k + (tS sV (xs.take j) : Int)) ∧ DL EV 2 wr (.slice a xs.length cap) ((mkL fV sV xs k).take j ++ xs.drop j) L ∧ Fr L w wr) (fun _ i _ => xs.length - (intOf i).toNat)
  case atStart => exact ⟨0, by omega, rfl, by simp [tS], by simpa using hd, Fr.refl L w⟩
  case round =>
    obtain ⟨j, hj, rfl, rfl, hdl, hfr⟩ := hrel
    by_cases hlt : j < xs.length
    · have hx : xs[j]? = some xs[j] := List.getElem?_eq_getElem hlt
      generalize xs[j] = x at hx
      obtain ⟨b, off, cap', c, Li, e1, e2, ⟨hh, e3, hsub⟩, e4, e5, e6, e7, e8, e9⟩ := hdl.at EV.ok hnd (cur_at hx)
      subst e3
      rw [cur_len hj] at e1
      injection e1 with e1 _ e1'
      subst e1 e1'
      have q0 : wr.cell? ⟨b, off + j * 2, none⟩ = some (.int .i64 x.by_) := e5 0 _ rfl
      have q1 : wr.cell? ⟨b, off + j * 2 + 1, none⟩ = some hh := e5 1 _ rfl
      have hzz : ∀ i, i < 2 → wr.frozen? ⟨b, off + j * 2 + i, none⟩ = false := fun i hi => (hfr.fz b _).trans (hfz (b, off + j * 2 + i) (e6 i hi).1)
      have z0 : wr.frozen? ⟨b, off + j * 2, none⟩ = false := hzz 0 (by omega)
      have hle := tS_le sV xs (j + 1)
      have hst := tS_at sV hx
      have hsx : sV x = 1 + tS sI (x.chain) := rfl
      have hc : ∀ i, i < 2 → ∃ v, cl wr b (off + j * 2 + i) = some v := fun i hi => ⟨_, e5 i _ (List.getElem?_eq_getElem (by simpa using hi))⟩
      generalize hy : k + (tS sV (xs.take j) : Int) = y
      have hw4 : (wr.setCell ⟨b, off + j * 2, none⟩ (.int .i64 (y))) = wr.setCells b (off + j * 2) [.int .i64 (y)] := by
        simp only [World.setCells, Nat.add_assoc, Int.add_zero]
      have hf4 : Fr L wr (wr.setCells b (off + j * 2) [.int .i64 (y)]) := fr_sets [.int .i64 (y)] (off + j * 2) wr fun i hi => ⟨(e6 i (by simp at hi; omega)).1, hc i (by simp at hi; omega)⟩
      have hout : ∀ p ∈ Li, cl (wr.setCells b (off + j * 2) [.int .i64 (y)]) p.1 p.2 = cl wr p.1 p.2 := fun p hp => sets_out fun hm => by
        obtain ⟨m1, m2, m3⟩ := mem_cells.1 hm
        refine (e6 (p.2 - (off + j * 2)) (by simp at m3; omega)).2 ?_
        rw [show off + j * 2 + (p.2 - (off + j * 2)) = p.2 by omega, ← m1]
        exact hp
      have hin : ∀ i v, ([.int .i64 (y)] : List Value)[i]? = some v → cl (wr.setCells b (off + j * 2) [.int .i64 (y)]) b (off + j * 2 + i) = some v := fun i v hi => sets_cell (fun i hi => hc i (by simp at hi; omega)) hi
      have hhd : cl (wr.setCells b (off + j * 2) [.int .i64 (y)]) b (off + j * 2 + 1) = some hh := by
        rw [show cl (wr.setCells b (off + j * 2) [.int .i64 (y)]) b (off + j * 2 + 1) = cl wr b (off + j * 2 + 1) from sets_out (a := (b, off + j * 2 + 1)) fun hm => by
          obtain ⟨_, _, m3⟩ := mem_cells.1 hm
          simp at m3]
        exact e5 1 _ rfl
      have hS := markItemS_ok ((wr.setCell ⟨b, off + j * 2, none⟩ (.int .i64 (y)))) hh (x.chain) Li (y + 1) (by rw [hw4]; exact hsub.mono EI.ok fun p hp v hv => by rw [hout p hp]; exact hv) e8
        (fun p hp => by rw [hw4]; exact (hf4.fz p.1 p.2).trans ((hfr.fz p.1 p.2).trans (hfz p (e7 p hp)))) (by omega) (by omega)
      have K : Hid _ := ⟨And.intro e9 (And.intro e6 (And.intro e7 (And.intro hfz (And.intro hf4 (And.intro hout (And.intro hin (And.intro hhd (And.intro hw4 hc))))))))⟩
      clear hd hdl e5 e9 e8 e7 e6 hzz hfz hc hf4 hout hin hhd hsub hw4
      go_wp2_with (go_at_call 69; refine hS.mono ?_)
      rintro r w1 rfl hd1 hf1
      have K1 : Hid _ := ⟨And.intro hd1 hf1⟩
      clear hd1 hf1
      go_wp2
      obtain ⟨⟨e9, e6, e7, hfz, hf4, hout, hin, hhd, hw4, hc⟩⟩ := K
      obtain ⟨⟨hd1, hf1⟩⟩ := K1
      rw [hw4] at hf1
      clear hw4
      have hlen : ([.int .i64 (y)] : List Value).length = 1 := rfl
      have hel : EV w1 ([.int .i64 (y)] ++ [hh]) (fV x y) Li := ⟨hh, rfl, hd1⟩
      generalize ([.int .i64 (y)] : List Value) = vs at *
      refine ⟨⟨j + 1, by omega, rfl, by rw [hst, hsx]; congr 1; omega, ?_, ?_⟩, by simp [intOf]; omega⟩
      · have := e9 w1 (fV x y) (vs ++ [hh]) (fun p hpL hp1 hp2 v hv => by
            rw [hf1.cell p.1 p.2 hp1]
            rw [sets_out fun hm => hp2 (by
              obtain ⟨m1, m2, m3⟩ := mem_cells.1 hm
              exact mem_cells.2 ⟨m1, m2, by omega⟩)]
            exact hv) hel (by rw [List.length_append, hlen]; rfl) (fun i v hi => by
            have hi2 : i < 1 + 1 := by have := getElem?_lt hi; rw [List.length_append, hlen] at this; exact this
            rw [hf1.cell b _ (e6 i (by omega)).2]
            by_cases he : i = 1
            · subst he
              rw [List.getElem?_append_right (by omega), hlen] at hi
              have : v = hh := by simpa using hi.symm
              rw [this]; exact hhd
            · exact hin i v (by rw [List.getElem?_append_left (by omega)] at hi; exact hi))
        rw [← hy, cur_set hx] at this
        exact this
      · exact (hfr.trans hf4).trans (hf1.weak e7)
    · clear hd
      go_wp2
      go_ret
      have hje : j = xs.length := by omega
      subst hje
      rw [List.take_of_length_le (by rw [mkL_len]; exact Nat.le_refl _), List.drop_eq_nil_of_le (Nat.le_refl _), List.append_nil] at hdl
      refine ⟨?_, hdl, hfr⟩
      show Ending.returned (Value.int .i64 (k + (tS sV (xs.take xs.length) : Int))) = _
      rw [List.take_of_length_le (Nat.le_refl _)]
end Go.Proofs.YtmhmeppocbcmeaaGreat

/- The exact laws: what is marked, further. -/
set_option linter.unusedVariables false
set_option linter.unusedSimpArgs false
namespace Go.Proofs.YtmhmeppocbcmeaaGreat
open Go Go.Wt Go.RowKit
set_option maxHeartbeats 4000000 in
theorem markNodeS_ok : MarkOk EN 4 fN_ sN_ 70 := by
  intro w u xs L k hd hnd hfz h0 hk
  obtain ⟨a, cap, rfl, hcap, hbig, hcase⟩ := id hd
  clear hcase
  have hbig' : xs.length ≤ 4611686018427387904 := hbig
  go_enter Tryz.func70, Tryz.ntmps70
  go_wp2
  go_loopw [1, 5] (fun y i wr => ∃ j : Nat, j ≤ xs.length ∧ i = .int .i64 j ∧ y = .int .i64 (k + (tS sN_ (xs.take j) : Int)) ∧ DL EN 4 wr (.slice a xs.length cap) ((mkL fN_ sN_ xs k).take j ++ xs.drop j) L ∧ Fr L w wr) (fun _ i _ => xs.length - (intOf i).toNat)
  case atStart => exact ⟨0, by omega, rfl, by simp [tS], by simpa using hd, Fr.refl L w⟩
  case round =>
    obtain ⟨j, hj, rfl, rfl, hdl, hfr⟩ := hrel
    by_cases hlt : j < xs.length
    · have hx : xs[j]? = some xs[j] := List.getElem?_eq_getElem hlt
      generalize xs[j] = x at hx
      obtain ⟨b, off, cap', c, Li, e1, e2, ⟨hh, e3, hsub⟩, e4, e5, e6, e7, e8, e9⟩ := hdl.at EN.ok hnd (cur_at hx)
      subst e3
      rw [cur_len hj] at e1
      injection e1 with e1 _ e1'
      subst e1 e1'
      have q0 : wr.cell? ⟨b, off + j * 4, none⟩ = some (.int .i64 x.id) := e5 0 _ rfl
      have q1 : wr.cell? ⟨b, off + j * 4 + 1, none⟩ = some (.int .i64 x.epoch) := e5 1 _ rfl
      have q2 : wr.cell? ⟨b, off + j * 4 + 2, none⟩ = some (.int .i64 x.voted) := e5 2 _ rfl
      have q3 : wr.cell? ⟨b, off + j * 4 + 3, none⟩ = some hh := e5 3 _ rfl
      have hzz : ∀ i, i < 4 → wr.frozen? ⟨b, off + j * 4 + i, none⟩ = false := fun i hi => (hfr.fz b _).trans (hfz (b, off + j * 4 + i) (e6 i hi).1)
      have z0 : wr.frozen? ⟨b, off + j * 4, none⟩ = false := hzz 0 (by omega)
      have z1 : wr.frozen? ⟨b, off + j * 4 + 1, none⟩ = false := hzz 1 (by omega)
      have z2 : wr.frozen? ⟨b, off + j * 4 + 2, none⟩ = false := hzz 2 (by omega)
      have hle := tS_le sN_ xs (j + 1)
      have hst := tS_at sN_ hx
      have hsx : sN_ x = 3 + tS sV (x.seen) := rfl
      have hc : ∀ i, i < 4 → ∃ v, cl wr b (off + j * 4 + i) = some v := fun i hi => ⟨_, e5 i _ (List.getElem?_eq_getElem (by simpa using hi))⟩
      generalize hy : k + (tS sN_ (xs.take j) : Int) = y
      have hw4 : (((wr.setCell ⟨b, off + j * 4, none⟩ (.int .i64 (y))).setCell ⟨b, off + j * 4 + 1, none⟩ (.int .i64 (y + 1))).setCell ⟨b, off + j * 4 + 2, none⟩ (.int .i64 (y + 1 + 1))) = wr.setCells b (off + j * 4) [.int .i64 (y), .int .i64 (y + 1), .int .i64 (y + 1 + 1)] := by
        simp only [World.setCells, Nat.add_assoc, Int.add_zero]
      have hf4 : Fr L wr (wr.setCells b (off + j * 4) [.int .i64 (y), .int .i64 (y + 1), .int .i64 (y + 1 + 1)]) := fr_sets [.int .i64 (y), .int .i64 (y + 1), .int .i64 (y + 1 + 1)] (off + j * 4) wr fun i hi => ⟨(e6 i (by simp at hi; omega)).1, hc i (by simp at hi; omega)⟩
      have hout : ∀ p ∈ Li, cl (wr.setCells b (off + j * 4) [.int .i64 (y), .int .i64 (y + 1), .int .i64 (y + 1 + 1)]) p.1 p.2 = cl wr p.1 p.2 := fun p hp => sets_out fun hm => by
        obtain ⟨m1, m2, m3⟩ := mem_cells.1 hm
        refine (e6 (p.2 - (off + j * 4)) (by simp at m3; omega)).2 ?_
        rw [show off + j * 4 + (p.2 - (off + j * 4)) = p.2 by omega, ← m1]
        exact hp
      have hin : ∀ i v, ([.int .i64 (y), .int .i64 (y + 1), .int .i64 (y + 1 + 1)] : List Value)[i]? = some v → cl (wr.setCells b (off + j * 4) [.int .i64 (y), .int .i64 (y + 1), .int .i64 (y + 1 + 1)]) b (off + j * 4 + i) = some v := fun i v hi => sets_cell (fun i hi => hc i (by simp at hi; omega)) hi
      have hhd : cl (wr.setCells b (off + j * 4) [.int .i64 (y), .int .i64 (y + 1), .int .i64 (y + 1 + 1)]) b (off + j * 4 + 3) = some hh := by
        rw [show cl (wr.setCells b (off + j * 4) [.int .i64 (y), .int .i64 (y + 1), .int .i64 (y + 1 + 1)]) b (off + j * 4 + 3) = cl wr b (off + j * 4 + 3) from sets_out (a := (b, off + j * 4 + 3)) fun hm => by
          obtain ⟨_, _, m3⟩ := mem_cells.1 hm
          simp at m3]
        exact e5 3 _ rfl
      have hS := markVoteS_ok ((((wr.setCell ⟨b, off + j * 4, none⟩ (.int .i64 (y))).setCell ⟨b, off + j * 4 + 1, none⟩ (.int .i64 (y + 1))).setCell ⟨b, off + j * 4 + 2, none⟩ (.int .i64 (y + 1 + 1)))) hh (x.seen) Li (y + 1 + 1 + 1) (by rw [hw4]; exact hsub.mono EV.ok fun p hp v hv => by rw [hout p hp]; exact hv) e8
        (fun p hp => by rw [hw4]; exact (hf4.fz p.1 p.2).trans ((hfr.fz p.1 p.2).trans (hfz p (e7 p hp)))) (by omega) (by omega)
      have K : Hid _ := ⟨And.intro e9 (And.intro e6 (And.intro e7 (And.intro hfz (And.intro hf4 (And.intro hout (And.intro hin (And.intro hhd (And.intro hw4 hc))))))))⟩
      clear hd hdl e5 e9 e8 e7 e6 hzz hfz hc hf4 hout hin hhd hsub hw4
      go_wp2_with (go_at_call 71; refine hS.mono ?_)
      rintro r w1 rfl hd1 hf1
      have K1 : Hid _ := ⟨And.intro hd1 hf1⟩
      clear hd1 hf1
      go_wp2
      obtain ⟨⟨e9, e6, e7, hfz, hf4, hout, hin, hhd, hw4, hc⟩⟩ := K
      obtain ⟨⟨hd1, hf1⟩⟩ := K1
      rw [hw4] at hf1
      clear hw4
      have hlen : ([.int .i64 (y), .int .i64 (y + 1), .int .i64 (y + 1 + 1)] : List Value).length = 3 := rfl
      have hel : EN w1 ([.int .i64 (y), .int .i64 (y + 1), .int .i64 (y + 1 + 1)] ++ [hh]) (fN_ x y) Li := ⟨hh, rfl, hd1⟩
      generalize ([.int .i64 (y), .int .i64 (y + 1), .int .i64 (y + 1 + 1)] : List Value) = vs at *
      refine ⟨⟨j + 1, by omega, rfl, by rw [hst, hsx]; congr 1; omega, ?_, ?_⟩, by simp [intOf]; omega⟩
      · have := e9 w1 (fN_ x y) (vs ++ [hh]) (fun p hpL hp1 hp2 v hv => by
            rw [hf1.cell p.1 p.2 hp1]
            rw [sets_out fun hm => hp2 (by
              obtain ⟨m1, m2, m3⟩ := mem_cells.1 hm
              exact mem_cells.2 ⟨m1, m2, by omega⟩)]
            exact hv) hel (by rw [List.length_append, hlen]; rfl) (fun i v hi => by
            have hi2 : i < 3 + 1 := by have := getElem?_lt hi; rw [List.length_append, hlen] at this; exact this
            rw [hf1.cell b _ (e6 i (by omega)).2]
            by_cases he : i = 3
            · subst he
              rw [List.getElem?_append_right (by omega), hlen] at hi
              have : v = hh := by simpa using hi.symm
              rw [this]; exact hhd
            · exact hin i v (by rw [List.getElem?_append_left (by omega)] at hi; exact hi))
        rw [← hy, cur_set hx] at this
        exact this
      · exact (hfr.trans hf4).trans (hf1.weak e7)
    · clear hd
      go_wp2
      go_ret
      have hje : j = xs.length := by omega
      subst hje
      rw [List.take_of_length_le (by rw [mkL_len]; exact Nat.le_refl _), List.drop_eq_nil_of_le (Nat.le_refl _), List.append_nil] at hdl
      refine ⟨?_, hdl, hfr⟩
      show Ending.returned (Value.int .i64 (k + (tS sN_ (xs.take xs.length) : Int))) = _
      rw [List.take_of_length_le (Nat.le_refl _)]
end Go.Proofs.YtmhmeppocbcmeaaGreat

/- The exact laws: worlds are marked. -/
set_option linter.unusedVariables false
set_option linter.unusedSimpArgs false
namespace Go.Proofs.YtmhmeppocbcmeaaGreat
open Go Go.Wt Go.RowKit
set_option maxHeartbeats 2000000 in
theorem markVote_ok (w : Go.World) (n : Int) (h : Value) (xs : List Itm) (L : List Adr) (k : Int) (hd : DL EI 4 w h xs L) (hnd : L.Nodup) (hfz : ∀ a ∈ L, w.frozen? ⟨a.1, a.2, none⟩ = false) (h0 : 0 ≤ k) (hk : k + (tS sI xs : Int) ≤ 100000000) :
    Calls Tryz.prog 89 #[.agg #[.int .i64 n, h], .int .i64 k] w fun r w' => r = .returned (.int .i64 (k + (tS sI xs : Int))) ∧ DL EI 4 w' h (mkL fI sI xs k) L ∧ FrG L w w' := by
  go_enter Tryz.func89, Tryz.ntmps89
  go_wp2_with fail
  have hlt := (hd.has EI.has (by decide)).lt
  refine (markItemS_ok _ h xs L k (hd.mono EI.ok agr_alloc) hnd (fun a ha => (fz_alloc (hlt a ha)).trans (hfz a ha)) h0 hk).mono ?_
  rintro r w1 ⟨rfl, hd1, hf1⟩
  go_wp2
  go_ret
  exact ⟨rfl, hd1, (FrG.alloc L w _).trans hf1.grow⟩
set_option maxHeartbeats 2000000 in
theorem markEvent_ok (w : Go.World) (x1 x2 x3 x4 x5 x6 n : Int) (h : Value) (xs : List Itm) (L : List Adr) (k : Int) (hd : DL EI 4 w h xs L) (hnd : L.Nodup) (hfz : ∀ a ∈ L, w.frozen? ⟨a.1, a.2, none⟩ = false) (h0 : 0 ≤ k) (hk : k + (tS sI xs : Int) ≤ 100000000) :
    Calls Tryz.prog 36 #[.agg #[.int .i64 x1, .int .i64 x2, .int .i64 x3, .int .i64 x4, .int .i64 x5, .int .i64 x6, .int .i64 n, h], .int .i64 k] w fun r w' => r = .returned (.int .i64 (k + (tS sI xs : Int))) ∧ DL EI 4 w' h (mkL fI sI xs k) L ∧ FrG L w w' := by
  go_enter Tryz.func36, Tryz.ntmps36
  go_wp2_with fail
  have hlt := (hd.has EI.has (by decide)).lt
  refine (markVote_ok _ n h xs L k (hd.mono EI.ok agr_alloc) hnd (fun a ha => (fz_alloc (hlt a ha)).trans (hfz a ha)) h0 hk).mono ?_
  rintro r w1 ⟨rfl, hd1, hf1⟩
  go_wp2
  go_ret
  exact ⟨rfl, hd1, (FrG.alloc L w _).trans hf1⟩
set_option maxHeartbeats 2000000 in
theorem markWorld_ok (w : Go.World) (e bd : Int) (h1 h2 : Value) (x : Wrld) (L1 L2 : List Adr) (k : Int) (hd : DW w h1 h2 x L1 L2) (hnd : (L1 ++ L2).Nodup) (hfz : ∀ a ∈ L1 ++ L2, w.frozen? ⟨a.1, a.2, none⟩ = false) (h0 : 0 ≤ k) (hk : k + (sWd x : Int) ≤ 100000000) :
    Calls Tryz.prog 21 #[.agg #[.int .i64 e, h1, h2, .int .i64 bd], .int .i64 k] w fun r w' => r = .returned (.int .i64 (k + (sWd x : Int))) ∧ DW w' h1 h2 (fWd x k) L1 L2 ∧ FrG (L1 ++ L2) w w' := by
  have hs : sWd x = tS sN_ x.nodes + tS sV x.log := rfl
  obtain ⟨d1, d2⟩ := hd
  obtain ⟨n1, n2, n3⟩ := List.nodup_append.1 hnd
  have hl1 := (d1.has EN.has (by decide)).lt
  have hl2 := (d2.has EV.has (by decide)).lt
  go_enter Tryz.func21, Tryz.ntmps21
  go_wp2_with fail
  refine (markNodeS_ok _ h1 x.nodes L1 k (d1.mono EN.ok agr_alloc) n1 (fun a ha => (fz_alloc (hl1 a ha)).trans (hfz a (List.mem_append_left _ ha))) h0 (by omega)).mono ?_
  rintro r w1 ⟨rfl, g1, f1⟩
  have c2 : w1.cell? ⟨w.heap.size, 2, none⟩ = some h2 := by
    rw [show w1.cell? ⟨w.heap.size, 2, none⟩ = (w.alloc (.cells #[.int .i64 e, h1, h2, .int .i64 bd] 26)).cell? ⟨w.heap.size, 2, none⟩ from f1.cell _ _ fun hm => absurd (hl1 _ hm) (Nat.lt_irrefl _)]
    unfold World.cell?
    rw [show (w.alloc (.cells #[.int .i64 e, h1, h2, .int .i64 bd] 26)).heap[w.heap.size]? = some (.cells #[.int .i64 e, h1, h2, .int .i64 bd] 26) from Array.getElem?_push_size]
    rfl
  have K : Hid _ := ⟨And.intro g1 f1⟩
  have fg : FrG (L1 ++ L2) w w1 := (FrG.alloc _ w _).trans (f1.weak fun a ha => List.mem_append_left _ ha).grow
  have g2 : DL EV 2 w1 h2 x.log L2 := d2.mono EV.ok fun a ha v hv => by
    rw [f1.cell a.1 a.2 fun hm => n3 a hm a ha rfl]
    exact cl_alloc hv
  have hS := markVoteS_ok w1 h2 x.log L2 (k + (tS sN_ x.nodes : Int)) g2 n2 (fun a ha => (fg.fz a.1 a.2 (hl2 a ha)).trans (hfz a (List.mem_append_right _ ha))) (by omega) (by omega)
  have K2 : Hid _ := ⟨And.intro fg hS⟩
  clear g1 f1 fg g2 hS d1 d2 hl1 hl2 hfz n3
  go_wp2_with fail
  obtain ⟨⟨fg, hS⟩⟩ := K2
  refine hS.mono ?_
  rintro r w2 ⟨rfl, g2, f2⟩
  have K3 : Hid _ := ⟨And.intro fg (And.intro g2 f2)⟩
  clear fg g2 f2 hS
  go_wp2
  obtain ⟨⟨g1, f1⟩⟩ := K
  obtain ⟨⟨fg, g2, f2⟩⟩ := K3
  obtain ⟨_, _, n3⟩ := List.nodup_append.1 hnd
  go_ret
  refine ⟨?_, ⟨g1.mono EN.ok fun a ha v hv => ?_, g2⟩, fg.trans (f2.weak fun a ha => List.mem_append_right _ ha).grow⟩
  · show Ending.returned (Value.int .i64 (k + (tS sN_ x.nodes : Int) + (tS sV x.log : Int))) = _
    rw [hs]; congr 2; omega
  · rw [f2.cell a.1 a.2 fun hm => n3 a ha a hm rfl]
    exact hv
end Go.Proofs.YtmhmeppocbcmeaaGreat

/- The exact laws: what their steps know. -/
set_option linter.unusedVariables false
set_option linter.unusedSimpArgs false
namespace Go.Proofs.YtmhmeppocbcmeaaGreat
open Go Go.Wt
theorem tS_mem {α : Type} (t : α → Nat) : ∀ {l : List α} {x : α}, x ∈ l → t x ≤ tS t l
  | y :: r, x, h => by
    simp only [tS]
    rcases List.mem_cons.1 h with rfl | h
    · omega
    · have := tS_mem t h; omega
theorem tS_bound {α : Type} {t : α → Nat} {c : Nat} : ∀ {l : List α}, (∀ x ∈ l, t x ≤ c) → tS t l ≤ c * l.length
  | [], _ => by simp [tS]
  | y :: r, h => by
    have h1 := h y (by simp)
    have h2 := tS_bound (l := r) fun x hx => h x (by simp [hx])
    simp only [tS, List.length_cons, Nat.mul_succ]
    omega
theorem bn_of {n : Nod} (h : tN n ≤ 1048576) : BN n := by
  unfold tN tL at h
  exact ⟨by omega, fun v hv => by have := tS_mem tV hv; show tV v ≤ _; omega⟩
theorem bw_of {w : Wrld} (h : tW w ≤ 1048576) : BW w := by
  unfold tW tL at h
  exact ⟨by omega, fun n hn => bn_of (by have := tS_mem tN hn; omega), by omega, fun v hv => by have := tS_mem tV hv; show tV v ≤ _; omega⟩
theorem be_of {e : Evt} (h : tE e ≤ 1048576) : BE e := h
theorem bes_of {l : List Evt} (h : tL tE l ≤ 1048576) : l.length ≤ 1048576 ∧ ∀ e ∈ l, BE e := by
  unfold tL at h
  exact ⟨by omega, fun e he => be_of (by have := tS_mem tE he; omega)⟩
theorem gd_t {l : List Vote} (h : Gd l) (hl : l.length ≤ 80) : tL tV l ≤ 1360 := by
  have := tS_bound (t := tV) (c := 16) (l := l) fun v hv => chainOk_len (voteOk_chain (h.ok v hv))
  unfold tL
  omega
theorem fine_t {w : Wrld} (h : Fine w) : tW w ≤ 20000 := by
  have h1 := gd_t h.log h.ll
  have h2 := tS_bound (t := tN) (c := 1360) (l := w.nodes) fun n hn => gd_t (h.seen n hn) (h.sl n hn)
  have h4 := h.four
  rw [h4] at h2
  unfold tW
  have : tL tN w.nodes = w.nodes.length + tS tN w.nodes := rfl
  omega
theorem do_t (w : Wrld) (e : Evt) : tW (worldDoR w e) ≤ 20000 := by
  unfold worldDoR
  by_cases h : worldOk w = true
  · rw [if_pos h]; exact fine_t (doF_fine e (worldOk_iff.1 h).fx.fine)
  · rw [if_neg h]; decide
theorem calm_t (w : Wrld) (pays : List Pay) : tW (worldCalmR w pays) ≤ 20000 := by
  unfold worldCalmR
  by_cases h : (worldOk w && decide (pays.length ≤ 30)) = true
  · rw [if_pos h]
    simp only [Bool.and_eq_true, decide_eq_true_eq] at h
    exact fine_t (calmFold_fine _ (worldOk_iff.1 h.1).fx.fine)
  · rw [if_neg h]; decide
theorem play_t (bad : Int) (evs : List Evt) : tW (playR bad evs).1 ≤ 20000 := by
  unfold playR
  by_cases h : (within bad 0 4 && decide (evs.length ≤ 70)) = true
  · rw [if_pos h]
    exact fine_t (foldl_fine _ (newW_fine bad))
  · rw [if_neg h]; decide
theorem sW_t {w : Wrld} {n : Nat} (h : tW w ≤ n) : sWd w ≤ 4 * n := by have := sWd_le w; omega
theorem toWorld_p (w : Wrld) (h : BW w) : CtP Tryz.prog 26 [.v w] (.v w) := ct_plain (E := EWd) (dd := Wrld.d) deepW rfl (toWorld_d w h)
theorem toEvent_p (e : Evt) (h : BE e) : CtP Tryz.prog 33 [.v e] (.v e) := ct_plain (E := EE) (dd := Evt.d) deepE rfl (toEvent_d e h)
theorem toEventS_p (l : List Evt) (hl : l.length ≤ 1048576) (hb : ∀ e ∈ l, BE e) : CtP Tryz.prog 16 [.v l] (.v l) := ct_plain (E := ES EE 8) (dd := fun l : List Evt => DList.mk (l.map Evt.d) true) (deepS deepE rfl) rfl (toEventS_d l hl hb)
theorem toPayS_m (l : List Pay) (hl : l.length ≤ 1048576) : CtP Tryz.prog 27 [.v l] (.v (DList.mk (l.map fun x : Pay => x) true)) := by rw [List.map_id']; exact toPayS_d l hl
theorem toPayS_p (l : List Pay) (hl : l.length ≤ 1048576) : CtP Tryz.prog 27 [.v l] (.v l) := ct_plain (E := ES EP 3) (dd := fun l : List Pay => DList.mk (l.map fun x : Pay => x) true) (deepS deepP rfl) rfl (toPayS_m l hl)
theorem markWorld_x (x : Wrld) (k : Int) (cs : List Value) (h : 0 ≤ k ∧ k + (sWd x : Int) ≤ 100000000) : ∀ (w : Go.World) (L : List Adr), EWd w cs x L → L.Nodup → (∀ a ∈ L, w.frozen? ⟨a.1, a.2, none⟩ = false) →
    Calls Tryz.prog 21 #[Enc.val (Rv 3) cs, .int .i64 k] w fun r w' => r = .returned (.int .i64 (k + (sWd x : Int))) ∧ EWd w' cs (fWd x k) L ∧ FrG L w w' := by
  rintro w L ⟨h1, h2, L1, L2, rfl, hd, rfl⟩ hnd hfz
  refine (markWorld_ok w x.epoch x.bad h1 h2 x L1 L2 k hd hnd hfz h.1 h.2).mono ?_
  rintro r w' ⟨e1, e2, e3⟩
  exact ⟨e1, ⟨h1, h2, L1, L2, rfl, e2, rfl⟩, e3⟩
/-- An event whose chain is marked. -/
def mE (e : Evt) (k : Int) : Evt := ⟨e.kind, e.a, e.b, e.pay, ⟨e.vote.by_, mkL fI sI e.vote.chain k⟩⟩
theorem markEvent_x (x : Evt) (k : Int) (cs : List Value) (h : 0 ≤ k ∧ k + (tS sI x.vote.chain : Int) ≤ 100000000) : ∀ (w : Go.World) (L : List Adr), EE w cs x L → L.Nodup → (∀ a ∈ L, w.frozen? ⟨a.1, a.2, none⟩ = false) →
    Calls Tryz.prog 36 #[Enc.val (Rv 7) cs, .int .i64 k] w fun r w' => r = .returned (.int .i64 (k + (tS sI x.vote.chain : Int))) ∧ EE w' cs (mE x k) L ∧ FrG L w w' := by
  rintro w L ⟨hh, rfl, hd⟩ hnd hfz
  refine (markEvent_ok w x.kind x.a x.b x.pay.frm x.pay.to x.pay.sum x.vote.by_ hh x.vote.chain L k hd hnd hfz h.1 h.2).mono ?_
  rintro r w' ⟨e1, e2, e3⟩
  exact ⟨e1, ⟨hh, rfl, e2⟩, e3⟩
theorem markPayS_x (x : List Pay) (k : Int) (cs : List Value) (h : 0 ≤ k ∧ k + (tS sP x : Int) ≤ 100000000) : ∀ (w : Go.World) (L : List Adr), ES EP 3 w cs x L → L.Nodup → (∀ a ∈ L, w.frozen? ⟨a.1, a.2, none⟩ = false) →
    Calls Tryz.prog 30 #[Enc.val (Rv 0) cs, .int .i64 k] w fun r w' => r = .returned (.int .i64 (k + (tS sP x : Int))) ∧ ES EP 3 w' cs (mkL fP sP x k) L ∧ FrG L w w' := by
  rintro w L ⟨u, rfl, hd⟩ hnd hfz
  refine (markPayS_ok w u x L k hd hnd hfz h.1 h.2).mono ?_
  rintro r w' ⟨e1, e2, e3⟩
  exact ⟨e1, ⟨u, rfl, e2⟩, e3.grow⟩
theorem markEventS_x (x : List Evt) (k : Int) (cs : List Value) (h : 0 ≤ k ∧ k + (tS sE x : Int) ≤ 100000000) : ∀ (w : Go.World) (L : List Adr), ES EE 8 w cs x L → L.Nodup → (∀ a ∈ L, w.frozen? ⟨a.1, a.2, none⟩ = false) →
    Calls Tryz.prog 20 #[Enc.val (Rv 0) cs, .int .i64 k] w fun r w' => r = .returned (.int .i64 (k + (tS sE x : Int))) ∧ ES EE 8 w' cs (mkL fE sE x k) L ∧ FrG L w w' := by
  rintro w L ⟨u, rfl, hd⟩ hnd hfz
  refine (markEventS_ok w u x L k hd hnd hfz h.1 h.2).mono ?_
  rintro r w' ⟨e1, e2, e3⟩
  exact ⟨e1, ⟨u, rfl, e2⟩, e3.grow⟩
theorem szR_of {n : Nat} {left : Int} (h : decide (szR n left < 0) = false) : (n : Int) ≤ left ∧ szR n left = left - n := by
  have := szR_pos (n := n) (left := left) (by simpa using h)
  exact ⟨by omega, this.2⟩
end Go.Proofs.YtmhmeppocbcmeaaGreat
