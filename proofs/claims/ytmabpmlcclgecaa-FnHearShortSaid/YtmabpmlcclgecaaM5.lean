/- Part 5 of the proof: texts one behind the other. -/
import Derived.Test.YtmabpmlcclgecaaM4
/- The form of certificates while they are built. -/
set_option linter.unusedVariables false
set_option linter.unusedSimpArgs false
namespace Go.Wt
open Go
/-- A certificate whose lists have room of their own. -/
structure CertS where
  chain : List Itm
  by_ : OList (List Int)
instance : Enc CertS := isoEnc (fun p => (p.chain, p.by_)) (fun q => ⟨q.1, q.2⟩) (fun _ => rfl) true (fun h => by cases h)
def CertS.zero : CertS := ⟨[], ⟨[], true⟩⟩
instance : ZCells CertS .zero := ⟨ZCells.cs (List Itm × OList (List Int)), fun G w ω => ZCells.rd (α := List Itm × OList (List Int)) G w ω⟩
theorem CertS.l0 : IsLens CertS.chain (fun x y => { x with chain := y }) 0 [0] := (IsLens.fst (List Itm) (OList (List Int))).iso (fun _ => rfl) (fun _ _ => rfl)
theorem CertS.l1 : IsLens CertS.by_ (fun x y => { x with by_ := y }) 1 [1] := (IsLens.snd (List Itm) (OList (List Int))).iso (fun _ => rfl) (fun _ _ => rfl)
theorem CertS.rd {G : Gh} {w : Go.World} {ω : Owner} {c : CertS} {cs : List Value} (h : Enc.rd G w ω c cs) : Enc.rd G w ω (Cert.mk c.chain c.by_.l) cs := by
  obtain ⟨c1, c2, rfl, r1, ⟨a, cap, h1, h2, h3, _⟩⟩ := h
  exact ⟨c1, _, rfl, r1, ⟨a, cap, h1, h2, h3⟩⟩
end Go.Wt

/- Parking of a list's room: a certificate while it is built. -/
set_option linter.unusedVariables false
set_option linter.unusedSimpArgs false
namespace Go.Wt
open Go
variable {P : Program} {S : Nat → Prop} {ops : Array Oper} {st : St}
structure CertH where
  chain : List Itm
  by_ : HList (List Int)
instance : Enc CertH := isoEnc (fun p => (p.chain, p.by_)) (fun q => ⟨q.1, q.2⟩) (fun _ => rfl) true (fun h => by cases h)
instance : Plain CertH := plain_iso _ _ _ (fun _ => rfl) _ _
theorem CertH.l0 : IsLens CertH.chain (fun x y => { x with chain := y }) 0 [0] := (IsLens.fst (List Itm) (HList (List Int))).iso (fun _ => rfl) (fun _ _ => rfl)
theorem CertH.l1 : IsLens CertH.by_ (fun x y => { x with by_ := y }) 1 [1] := (IsLens.snd (List Itm) (HList (List Int))).iso (fun _ => rfl) (fun _ _ => rfl)
theorem CertH.rd {G : Gh} {w : Go.World} {ω : Owner} {c : CertH} {cs : List Value} (h : Enc.rd G w ω c cs) : Enc.rd G w ω (Cert.mk c.chain c.by_.l) cs := by
  obtain ⟨c1, c2, rfl, r1, ⟨h0, a, cap, h1, h2, h3⟩⟩ := h
  exact ⟨c1, c2, rfl, r1, ⟨a, cap, by rw [h0, h1], h2, h3⟩⟩
theorem CertH.conv {c : CertH} : Conv (.v c) (.v (Cert.mk c.chain c.by_.l)) := fun {G w ω ω' u} h => by
  obtain ⟨cs, h1, h2⟩ := h
  exact ⟨cs, Plain.mono (Sh.refl _ _) (CertH.rd h1), h2⟩
/-- A variable is seen in another way. -/
theorem awp_recell {c : Code} {Q : Exit → St → Prop} {o tb : Nat} {α β : Type} [Enc α] [Enc β] {x : α} {y : β} (ho : st.ob o = .cell x) (htb : st.tm tb = some (.box o (IsLens.whole α)))
    (hc : ∀ (G : Gh) (w : Go.World) (ω : Owner) (cs : List Value), Enc.rd G w ω x cs → Enc.rd G w ω y cs)
    (k : awp P S c Q (st.upd [(tb, some (.box o (IsLens.whole β)))] [(o, .cell y)])) : awp P S c Q st := fun G w a hr => by
  have hob := hr.objs o
  rw [ho] at hob
  obtain ⟨b', cs, e, k1, k2, k3, k4⟩ := hob
  refine k G w a ⟨hr.defers, hr.size, fun q => ?_, fun j => ?_⟩
  · show RelT _ _ _ (orr (lk [(tb, _)] q) (st.tm q)) (a.tmps.getD q undef)
    simp only [lk]
    by_cases eb : q = tb
    · subst eb
      rw [if_pos rfl]
      have := hr.tmps q
      rw [htb] at this
      exact this
    · rw [if_neg eb]
      exact hr.tmps q
  · show RelO _ _ j (orr (lk [(o, _)] j) (st.ob j))
    simp only [lk]
    by_cases ek : j = o
    · subst ek
      rw [if_pos rfl]
      exact ⟨b', cs, e, k1, k2, hc _ _ _ _ k3, k4⟩
    · rw [if_neg ek]
      exact hr.objs j
end Go.Wt

/- Calls that make rows; structs built of a list with its room. -/
set_option linter.unusedVariables false
set_option linter.unusedSimpArgs false
namespace Go.Wt
open Go
variable {P : Program} {S : Nat → Prop} {ops : Array Oper} {st : St}
/-! ### A world that is built -/
structure WrldH where
  epoch : Int
  nodes : NRef
  log : HList Vote
  bad : Int
instance : Enc WrldH := isoEnc (fun p => (p.epoch, p.nodes, p.log, p.bad)) (fun q => ⟨q.1, q.2.1, q.2.2.1, q.2.2.2⟩) (fun _ => rfl) true (fun h => by cases h)
instance : Disl WrldH := ⟨fun _ => rfl⟩
def WrldH.zero : WrldH := ⟨0, .nil, ⟨[], .slice none 0 0⟩, 0⟩
instance {α : Type} [Enc α] [Plain α] : ZCells (HList α) ⟨[], .slice none 0 0⟩ := ⟨[.slice none 0 0], fun _ _ _ => ⟨rfl, none, 0, rfl, Nat.le_refl _, .inl rfl⟩⟩
instance : ZCells WrldH .zero := ⟨ZCells.cs (Int × NRef × HList Vote × Int), fun G w ω => ZCells.rd (α := Int × NRef × HList Vote × Int) G w ω⟩
theorem WrldH.l0 : IsLens WrldH.epoch (fun x y => { x with epoch := y }) 0 [0] := (IsLens.fst Int (NRef × HList Vote × Int)).iso (fun _ => rfl) (fun _ _ => rfl)
theorem WrldH.l1 : IsLens WrldH.nodes (fun x y => { x with nodes := y }) 1 [1, 0] := ((IsLens.snd Int (NRef × HList Vote × Int)).comp (IsLens.fst _ _)).iso (fun _ => rfl) (fun _ _ => rfl)
theorem WrldH.l2 : IsLens WrldH.log (fun x y => { x with log := y }) 2 [1, 1, 0] := ((IsLens.snd Int (NRef × HList Vote × Int)).comp ((IsLens.snd _ _).comp (IsLens.fst _ _))).iso (fun _ => rfl) (fun _ _ => rfl)
theorem WrldH.l3 : IsLens WrldH.bad (fun x y => { x with bad := y }) 3 [1, 1, 1] := ((IsLens.snd Int (NRef × HList Vote × Int)).comp ((IsLens.snd _ _).comp (IsLens.snd _ _))).iso (fun _ => rfl) (fun _ _ => rfl)
theorem nod_fN {G : Gh} {w : Go.World} {ω : Owner} {n : Nod} {cs : List Value} (h : Enc.rd G w ω n cs) : Enc.rd G w ω (fN n) cs := by
  obtain ⟨c1, c2, rfl, r1, ⟨c3, c4, rfl, r3, ⟨c5, c6, rfl, r5, ⟨a, cap, h1, h2, h3⟩⟩⟩⟩ := h
  exact ⟨c1, _, rfl, r1, c3, _, rfl, r3, c5, _, rfl, r5, ⟨a, cap, h1, h2, h3, fun h => by cases h⟩⟩
end Go.Wt

/- The reference: votes, nodes and worlds in form; copies. -/
set_option linter.unusedVariables false
set_option linter.unusedSimpArgs false
namespace Go.Proofs.Ytmabpmlcclgecaa
open Go Go.Wt
theorem sVotesOk_ct (l : List Vote) : CtP Try.prog 52 [.v l] (.v (votesOk l)) := by
  refine Ct.intro Try.func52 rfl rfl ?_
  refine awp_bigL 0 rfl (fun hB => ?_)
  all_goals first | refine awp_seq (awp_region (id := 0) ?_) | refine awp_seq (awp_seq (awp_region (id := 0) ?_)) | refine awp_region (id := 0) ?_ | refine awp_seq (awp_seq (awp_seq (awp_region (id := 0) ?_)))
  all_goals refine awpOps_cons (op_as rfl (Conv.of rfl) rfl) ?_
  all_goals refine awpOps_nil ?_
  all_goals first | refine awp_seq (awp_region (id := 1) ?_) | refine awp_seq (awp_seq (awp_region (id := 1) ?_)) | refine awp_region (id := 1) ?_ | refine awp_seq (awp_seq (awp_seq (awp_region (id := 1) ?_)))
  all_goals refine awpOps_cons (op_as rfl (Conv.of rfl) rfl) ?_
  all_goals refine awpOps_nil ?_
  first | refine awp_seq (awp_block ?_) | refine awp_seq (awp_seq (awp_block ?_)) | refine awp_block ?_ | refine awp_seq (awp_seq (awp_seq (awp_block ?_)))
  first | refine awp_seq (awp_loop' (fun n_ s => ∃ (k : Nat), ∃ (hn : n_ + k = l.length), ∃ (hall : votesOk l = votesOkFrom (l.take k) (l.drop k)), s = mkSt 26 [(0, .v l), (3, .v (k : Int))] []) (l.length) ⟨0, by omega, rfl, rfl⟩ (Le.mk rfl (tle rfl (rfl) rfl (tle rfl (rfl) rfl tln)) oln noS) ?_) | refine awp_seq (awp_seq (awp_loop' (fun n_ s => ∃ (k : Nat), ∃ (hn : n_ + k = l.length), ∃ (hall : votesOk l = votesOkFrom (l.take k) (l.drop k)), s = mkSt 26 [(0, .v l), (3, .v (k : Int))] []) (l.length) ⟨0, by omega, rfl, rfl⟩ (Le.mk rfl (tle rfl (rfl) rfl (tle rfl (rfl) rfl tln)) oln noS) ?_)) | refine awp_loop' (fun n_ s => ∃ (k : Nat), ∃ (hn : n_ + k = l.length), ∃ (hall : votesOk l = votesOkFrom (l.take k) (l.drop k)), s = mkSt 26 [(0, .v l), (3, .v (k : Int))] []) (l.length) ⟨0, by omega, rfl, rfl⟩ (Le.mk rfl (tle rfl (rfl) rfl (tle rfl (rfl) rfl tln)) oln noS) ?_ | refine awp_seq (awp_seq (awp_seq (awp_loop' (fun n_ s => ∃ (k : Nat), ∃ (hn : n_ + k = l.length), ∃ (hall : votesOk l = votesOkFrom (l.take k) (l.drop k)), s = mkSt 26 [(0, .v l), (3, .v (k : Int))] []) (l.length) ⟨0, by omega, rfl, rfl⟩ (Le.mk rfl (tle rfl (rfl) rfl (tle rfl (rfl) rfl tln)) oln noS) ?_)))
  rintro n_ s ⟨k, hn, hall, rfl⟩
  all_goals first | refine awp_seq (awp_region (id := 2) ?_) | refine awp_seq (awp_seq (awp_region (id := 2) ?_)) | refine awp_region (id := 2) ?_ | refine awp_seq (awp_seq (awp_seq (awp_region (id := 2) ?_)))
  all_goals first | refine awpOps_cons (op_mv rfl (Conv.of rfl) rfl) ?_ | refine awpOps_cons (op_mvl rfl rfl rfl rfl) ?_ | refine awpOps_cons (op_mvo rfl rfl rfl rfl) ?_
  all_goals first | refine awpOps_cons (op_mv rfl (Conv.of rfl) rfl) ?_ | refine awpOps_cons (op_mvl rfl rfl rfl rfl) ?_ | refine awpOps_cons (op_mvo rfl rfl rfl rfl) ?_
  all_goals first | refine awpOps_cons (op_len sl23 rfl rfl) ?_ | refine awpOps_cons (op_lenA sl23 rfl rfl rfl) ?_
  all_goals refine awpOps_cons (op_lss rfl rfl rfl) ?_
  all_goals refine awpOps_nil ?_
  first | refine awp_seq (awp_cond rfl (fun h => ?_) (fun h => ?_)) | refine awp_seq (awp_seq (awp_cond rfl (fun h => ?_) (fun h => ?_))) | refine awp_cond rfl (fun h => ?_) (fun h => ?_) | refine awp_seq (awp_seq (awp_seq (awp_cond rfl (fun h => ?_) (fun h => ?_))))
  · have hlt : k < l.length := by simpa using h
    have hx : l[k]? = some l[k] := List.getElem?_eq_getElem hlt
    generalize l[k] = x at hx
    have hs := votesOk_drop hx
    refine awp_skip ?_
    first | refine awp_seq (awp_block ?_) | refine awp_seq (awp_seq (awp_block ?_)) | refine awp_block ?_ | refine awp_seq (awp_seq (awp_seq (awp_block ?_)))
    first | refine awp_seq (awp_seq (awp_seq (awp_seq_to (s' := mkSt 26 [(0, .v l), (3, .v (k : Int)), (25, .v (!(voteOk x && !decide (x ∈ l.take k))))] []) ?_ ?_))) | refine awp_seq (awp_seq (awp_seq_to (s' := mkSt 26 [(0, .v l), (3, .v (k : Int)), (25, .v (!(voteOk x && !decide (x ∈ l.take k))))] []) ?_ ?_)) | refine awp_seq (awp_seq_to (s' := mkSt 26 [(0, .v l), (3, .v (k : Int)), (25, .v (!(voteOk x && !decide (x ∈ l.take k))))] []) ?_ ?_) | refine awp_seq_to (s' := mkSt 26 [(0, .v l), (3, .v (k : Int)), (25, .v (!(voteOk x && !decide (x ∈ l.take k))))] []) ?_ ?_ | refine awp_toB (s' := mkSt 26 [(0, .v l), (3, .v (k : Int)), (25, .v (!(voteOk x && !decide (x ∈ l.take k))))] []) ?_ ?_ | refine awp_to (s' := mkSt 26 [(0, .v l), (3, .v (k : Int)), (25, .v (!(voteOk x && !decide (x ∈ l.take k))))] []) ?_ ?_
    · all_goals first | refine awp_seq (dr_start (id := 4) ?_) | refine awp_seq (awp_seq (dr_start (id := 4) ?_)) | refine dr_start (id := 4) ?_ | refine awp_seq (awp_seq (awp_seq (dr_start (id := 4) ?_)))
      all_goals first | refine dr_cons (op_mv rfl (Conv.of rfl) rfl) ?_ | refine dr_cons (op_mvl rfl rfl rfl rfl) ?_ | refine dr_cons (op_mvo rfl rfl rfl rfl) ?_
      all_goals first | refine dr_cons (op_mv rfl (Conv.of rfl) rfl) ?_ | refine dr_cons (op_mvl rfl rfl rfl rfl) ?_ | refine dr_cons (op_mvo rfl rfl rfl rfl) ?_
      all_goals first | refine dr_cons (op_ix sl23 rfl rfl rfl (by omega) hx) ?_ | refine dr_cons (op_ixA sl23 rfl rfl rfl rfl (by omega)) ?_
      all_goals first | refine dr_cons (op_ld ty28 rfl rfl rfl) ?_ | refine dr_cons (op_ldr ty28 rfl rfl) ?_ | refine dr_cons (op_lde ty28 rfl rfl (by assumption) rfl) ?_ | refine dr_cons (op_ldl ty28 rfl rfl rfl) ?_ | refine dr_cons (op_ldd ty28 rfl rfl rfl) ?_ | refine dr_cons (op_ldde ty28 rfl rfl (by assumption) rfl) ?_
      all_goals refine dr_cons (op_call fb66 (.cons rfl (Conv.of rfl) (.nil _)) (l3Vote_ct _) (argOk rfl rfl argOk0) rfl rfl) ?_
      all_goals refine dr_cons (op_not rfl rfl) ?_
      all_goals first | refine dr_cons (op_mv rfl (Conv.of rfl) rfl) ?_ | refine dr_cons (op_mvl rfl rfl rfl rfl) ?_ | refine dr_cons (op_mvo rfl rfl rfl rfl) ?_
      all_goals first | refine dr_lit (t := 16) (b := true) rfl ?_ | refine dr_lit (t := 16) (b := false) rfl ?_ | refine dr_ulit (t := 16) rfl ?_ | refine dr_split (t := 16) rfl (fun h => ?_) (fun h => ?_)
      all_goals first | refine dr_cons (g_off rfl rfl rfl rfl rfl) ?_ | refine dr_cons (g_und rfl rfl rfl) ?_ | refine dr_cons (g_on rfl rfl rfl (op_mv rfl (Conv.of rfl) rfl)) ?_ | refine dr_cons (g_on rfl rfl rfl (op_mvl rfl rfl rfl rfl)) ?_ | refine dr_cons (g_on rfl rfl rfl (op_mvo rfl rfl rfl rfl)) ?_
      all_goals first | refine dr_cons (g_off rfl rfl rfl rfl rfl) ?_ | refine dr_cons (g_und rfl rfl rfl) ?_ | refine dr_cons (g_on rfl rfl rfl (op_mv rfl (Conv.of rfl) rfl)) ?_ | refine dr_cons (g_on rfl rfl rfl (op_mvl rfl rfl rfl rfl)) ?_ | refine dr_cons (g_on rfl rfl rfl (op_mvo rfl rfl rfl rfl)) ?_
      all_goals first | refine dr_cons (g_off rfl rfl rfl rfl rfl) ?_ | refine dr_cons (g_und rfl rfl rfl) ?_ | refine dr_cons (g_on rfl rfl rfl (op_slh sl23 rfl rfl rfl ⟨by omega, by omega⟩)) ?_
      all_goals first | refine dr_cons (g_off rfl rfl rfl rfl rfl) ?_ | refine dr_cons (g_und rfl rfl rfl) ?_ | refine dr_cons (g_on rfl rfl rfl (op_mv rfl (Conv.of rfl) rfl)) ?_ | refine dr_cons (g_on rfl rfl rfl (op_mvl rfl rfl rfl rfl)) ?_ | refine dr_cons (g_on rfl rfl rfl (op_mvo rfl rfl rfl rfl)) ?_
      all_goals first | refine dr_cons (g_off rfl rfl rfl rfl rfl) ?_ | refine dr_cons (g_und rfl rfl rfl) ?_ | refine dr_cons (g_on rfl rfl rfl (op_mv rfl (Conv.of rfl) rfl)) ?_ | refine dr_cons (g_on rfl rfl rfl (op_mvl rfl rfl rfl rfl)) ?_ | refine dr_cons (g_on rfl rfl rfl (op_mvo rfl rfl rfl rfl)) ?_
      all_goals first | refine dr_cons (g_off rfl rfl rfl rfl rfl) ?_ | refine dr_cons (g_und rfl rfl rfl) ?_ | refine dr_cons (g_on rfl rfl rfl (op_ix sl23 rfl rfl rfl (by omega) hx)) ?_ | refine dr_cons (g_on rfl rfl rfl (op_ixA sl23 rfl rfl rfl rfl (by omega))) ?_
      all_goals first | refine dr_cons (g_off rfl rfl rfl rfl rfl) ?_ | refine dr_cons (g_und rfl rfl rfl) ?_ | refine dr_cons (g_on rfl rfl rfl (op_ld ty28 rfl rfl rfl)) ?_ | refine dr_cons (g_on rfl rfl rfl (op_ldr ty28 rfl rfl)) ?_ | refine dr_cons (g_on rfl rfl rfl (op_lde ty28 rfl rfl (by assumption) rfl)) ?_ | refine dr_cons (g_on rfl rfl rfl (op_ldl ty28 rfl rfl rfl)) ?_ | refine dr_cons (g_on rfl rfl rfl (op_ldd ty28 rfl rfl rfl)) ?_ | refine dr_cons (g_on rfl rfl rfl (op_ldde ty28 rfl rfl (by assumption) rfl)) ?_
      all_goals first | refine dr_cons (g_off rfl rfl rfl rfl rfl) ?_ | refine dr_cons (g_und rfl rfl rfl) ?_ | refine dr_cons (g_on rfl rfl rfl (op_call fb82 (.cons rfl (Conv.of rfl) (.cons rfl (Conv.of rfl) (.nil _))) (l3Has_ct _ _) (argOk rfl rfl (argOk rfl rfl argOk0)) rfl rfl)) ?_
      all_goals refine dr_cons (op_pick rfl rfl rfl rfl) ?_
      all_goals refine dr_nil mixed rfl ?_
      all_goals exact Le.mk rfl (tle rfl (rfl) rfl (tle rfl (rfl) rfl (tle rfl (by first | rfl | (clear hall hs; simp_all)) rfl tln))) oln noS
    first | refine awp_seq (awp_cond rfl (fun h => ?_) (fun h => ?_)) | refine awp_seq (awp_seq (awp_cond rfl (fun h => ?_) (fun h => ?_))) | refine awp_cond rfl (fun h => ?_) (fun h => ?_) | refine awp_seq (awp_seq (awp_seq (awp_cond rfl (fun h => ?_) (fun h => ?_))))
    · all_goals first | refine awp_seq (awp_region (id := 5) ?_) | refine awp_seq (awp_seq (awp_region (id := 5) ?_)) | refine awp_region (id := 5) ?_ | refine awp_seq (awp_seq (awp_seq (awp_region (id := 5) ?_)))
      all_goals refine awpOps_cons (op_as rfl (Conv.of rfl) rfl) ?_
      all_goals refine awpOps_nil ?_
      refine awp_ret ?_
      repeat first | refine rt_seq ?_ | refine rt_block ?_
      refine finP (.v rfl (Conv.of rfl)) rfl ?_
      show AV.v false = _
      rw [hall, hs, not_t h, Bool.false_and]
    · refine awp_skip ?_
      all_goals first | refine awp_seq (awp_region (id := 3) ?_) | refine awp_seq (awp_seq (awp_region (id := 3) ?_)) | refine awp_region (id := 3) ?_ | refine awp_seq (awp_seq (awp_seq (awp_region (id := 3) ?_)))
      all_goals first | refine awpOps_cons (op_mv rfl (Conv.of rfl) rfl) ?_ | refine awpOps_cons (op_mvl rfl rfl rfl rfl) ?_ | refine awpOps_cons (op_mvo rfl rfl rfl rfl) ?_
      all_goals refine awpOps_cons (op_add rfl rfl rfl (by omega)) ?_
      all_goals first | refine awpOps_cons (op_as rfl (Conv.of rfl) rfl) ?_ | refine awpOps_cons (op_asl rfl rfl rfl rfl) ?_ | refine awpOps_cons (op_aso rfl rfl rfl rfl) ?_
      all_goals refine awpOps_nil ?_
      repeat first | refine nx_seq ?_ | refine nx_block ?_
      exact ⟨n_ - 1, _, by omega, ⟨k + 1, by omega, by rw [hall, hs, not_f h, Bool.true_and], rfl⟩, Le.mk rfl (tle rfl (rfl) rfl (tle rfl (rfl) rfl tln)) oln noS⟩
  · refine awp_exit ?_
    repeat refine ex_seq ?_
    refine ex_block ?_
    have hk : l.length ≤ k := by simpa using h
    all_goals first | refine awp_seq (awp_region (id := 6) ?_) | refine awp_seq (awp_seq (awp_region (id := 6) ?_)) | refine awp_region (id := 6) ?_ | refine awp_seq (awp_seq (awp_seq (awp_region (id := 6) ?_)))
    all_goals refine awpOps_cons (op_as rfl (Conv.of rfl) rfl) ?_
    all_goals refine awpOps_nil ?_
    refine awp_ret ?_
    repeat first | refine rt_seq ?_ | refine rt_block ?_
    refine finP (.v rfl (Conv.of rfl)) rfl ?_
    show AV.v true = _
    rw [hall, drop_end hk]; rfl
set_option maxHeartbeats 4000000 in
theorem sNodeOk_ct (n : Nod) : CtP Try.prog 18 [.v n] (.v (nodeOk n)) := by
  refine Ct.intro Try.func18 rfl rfl ?_
  all_goals first | refine awp_seq (awp_region (id := 0) ?_) | refine awp_seq (awp_seq (awp_region (id := 0) ?_)) | refine awp_region (id := 0) ?_ | refine awp_seq (awp_seq (awp_seq (awp_region (id := 0) ?_)))
  all_goals first | refine awpOps_cons (op_box (o := 0) ty25 rfl (Conv.of rfl) rfl rfl) ?_ | refine awpOps_cons (op_boxm (o := 0) ty25 rfl rfl rfl rfl) ?_
  all_goals refine awpOps_cons (op_as rfl (Conv.of rfl) rfl) ?_
  all_goals refine awpOps_nil ?_
  first | refine awp_seq (awp_seq (awp_seq (awp_seq_to (s' := mkSt 66 [(1, .box 0 (IsLens.whole Nod)), (34, .v (!nodeOk0 n))] [(0, .cell n)]) ?_ ?_))) | refine awp_seq (awp_seq (awp_seq_to (s' := mkSt 66 [(1, .box 0 (IsLens.whole Nod)), (34, .v (!nodeOk0 n))] [(0, .cell n)]) ?_ ?_)) | refine awp_seq (awp_seq_to (s' := mkSt 66 [(1, .box 0 (IsLens.whole Nod)), (34, .v (!nodeOk0 n))] [(0, .cell n)]) ?_ ?_) | refine awp_seq_to (s' := mkSt 66 [(1, .box 0 (IsLens.whole Nod)), (34, .v (!nodeOk0 n))] [(0, .cell n)]) ?_ ?_ | refine awp_toB (s' := mkSt 66 [(1, .box 0 (IsLens.whole Nod)), (34, .v (!nodeOk0 n))] [(0, .cell n)]) ?_ ?_ | refine awp_to (s' := mkSt 66 [(1, .box 0 (IsLens.whole Nod)), (34, .v (!nodeOk0 n))] [(0, .cell n)]) ?_ ?_
  · all_goals first | refine awp_seq (awp_region (id := 1) ?_) | refine awp_seq (awp_seq (awp_region (id := 1) ?_)) | refine awp_region (id := 1) ?_ | refine awp_seq (awp_seq (awp_seq (awp_region (id := 1) ?_)))
    all_goals first | refine awpOps_cons (op_fab f25_0 rfl rfl) ?_ | refine awpOps_cons (op_far f25_0 rfl rfl) ?_ | refine awpOps_cons (op_fae f25_0 rfl rfl) ?_
    all_goals first | refine awpOps_cons (op_ld ty3 rfl rfl rfl) ?_ | refine awpOps_cons (op_ldr ty3 rfl rfl) ?_ | refine awpOps_cons (op_lde ty3 rfl rfl (by assumption) rfl) ?_ | refine awpOps_cons (op_ldl ty3 rfl rfl rfl) ?_ | refine awpOps_cons (op_ldd ty3 rfl rfl rfl) ?_ | refine awpOps_cons (op_ldde ty3 rfl rfl (by assumption) rfl) ?_
    all_goals refine awpOps_cons (op_call fb51 (.cons rfl (Conv.of rfl) (.cons rfl (Conv.of rfl) (.cons rfl (Conv.of rfl) (.nil _)))) (l6In_ct _ _ _) (argOk rfl rfl (argOk rfl rfl (argOk rfl rfl argOk0))) rfl rfl) ?_
    all_goals refine awpOps_cons (op_not rfl rfl) ?_
    all_goals first | refine awpOps_cons (op_mv rfl (Conv.of rfl) rfl) ?_ | refine awpOps_cons (op_mvl rfl rfl rfl rfl) ?_ | refine awpOps_cons (op_mvo rfl rfl rfl rfl) ?_
    all_goals first | refine g_lit (t := 9) (b := true) rfl ?_ | refine g_lit (t := 9) (b := false) rfl ?_ | refine g_ulit (t := 9) rfl ?_ | refine g_split (t := 9) rfl (fun h => ?_) (fun h => ?_)
    all_goals first | refine awpOps_cons (g_off rfl rfl rfl rfl rfl) ?_ | refine awpOps_cons (g_und rfl rfl rfl) ?_ | refine awpOps_cons (g_on rfl rfl rfl (op_fab f25_1 rfl rfl)) ?_ | refine awpOps_cons (g_on rfl rfl rfl (op_far f25_1 rfl rfl)) ?_ | refine awpOps_cons (g_on rfl rfl rfl (op_fae f25_1 rfl rfl)) ?_
    all_goals first | refine awpOps_cons (g_off rfl rfl rfl rfl rfl) ?_ | refine awpOps_cons (g_und rfl rfl rfl) ?_ | refine awpOps_cons (g_on rfl rfl rfl (op_ld ty3 rfl rfl rfl)) ?_ | refine awpOps_cons (g_on rfl rfl rfl (op_ldr ty3 rfl rfl)) ?_ | refine awpOps_cons (g_on rfl rfl rfl (op_lde ty3 rfl rfl (by assumption) rfl)) ?_ | refine awpOps_cons (g_on rfl rfl rfl (op_ldl ty3 rfl rfl rfl)) ?_ | refine awpOps_cons (g_on rfl rfl rfl (op_ldd ty3 rfl rfl rfl)) ?_ | refine awpOps_cons (g_on rfl rfl rfl (op_ldde ty3 rfl rfl (by assumption) rfl)) ?_
    all_goals first | refine awpOps_cons (g_off rfl rfl rfl rfl rfl) ?_ | refine awpOps_cons (g_und rfl rfl rfl) ?_ | refine awpOps_cons (g_on rfl rfl rfl (op_call fb51 (.cons rfl (Conv.of rfl) (.cons rfl (Conv.of rfl) (.cons rfl (Conv.of rfl) (.nil _)))) (l6In_ct _ _ _) (argOk rfl rfl (argOk rfl rfl (argOk rfl rfl argOk0))) rfl rfl)) ?_
    all_goals first | refine awpOps_cons (g_off rfl rfl rfl rfl rfl) ?_ | refine awpOps_cons (g_und rfl rfl rfl) ?_ | refine awpOps_cons (g_on rfl rfl rfl (op_not rfl rfl)) ?_
    all_goals refine awpOps_cons (op_pick rfl rfl rfl rfl) ?_
    all_goals first | refine awpOps_cons (op_mv rfl (Conv.of rfl) rfl) ?_ | refine awpOps_cons (op_mvl rfl rfl rfl rfl) ?_ | refine awpOps_cons (op_mvo rfl rfl rfl rfl) ?_
    all_goals first | refine g_lit (t := 15) (b := true) rfl ?_ | refine g_lit (t := 15) (b := false) rfl ?_ | refine g_ulit (t := 15) rfl ?_ | refine g_split (t := 15) rfl (fun h => ?_) (fun h => ?_)
    all_goals first | refine awpOps_cons (g_off rfl rfl rfl rfl rfl) ?_ | refine awpOps_cons (g_und rfl rfl rfl) ?_ | refine awpOps_cons (g_on rfl rfl rfl (op_fab f25_2 rfl rfl)) ?_ | refine awpOps_cons (g_on rfl rfl rfl (op_far f25_2 rfl rfl)) ?_ | refine awpOps_cons (g_on rfl rfl rfl (op_fae f25_2 rfl rfl)) ?_
    all_goals first | refine awpOps_cons (g_off rfl rfl rfl rfl rfl) ?_ | refine awpOps_cons (g_und rfl rfl rfl) ?_ | refine awpOps_cons (g_on rfl rfl rfl (op_ld ty3 rfl rfl rfl)) ?_ | refine awpOps_cons (g_on rfl rfl rfl (op_ldr ty3 rfl rfl)) ?_ | refine awpOps_cons (g_on rfl rfl rfl (op_lde ty3 rfl rfl (by assumption) rfl)) ?_ | refine awpOps_cons (g_on rfl rfl rfl (op_ldl ty3 rfl rfl rfl)) ?_ | refine awpOps_cons (g_on rfl rfl rfl (op_ldd ty3 rfl rfl rfl)) ?_ | refine awpOps_cons (g_on rfl rfl rfl (op_ldde ty3 rfl rfl (by assumption) rfl)) ?_
    all_goals first | refine awpOps_cons (g_off rfl rfl rfl rfl rfl) ?_ | refine awpOps_cons (g_und rfl rfl rfl) ?_ | refine awpOps_cons (g_on rfl rfl rfl (op_fab f25_1 rfl rfl)) ?_ | refine awpOps_cons (g_on rfl rfl rfl (op_far f25_1 rfl rfl)) ?_ | refine awpOps_cons (g_on rfl rfl rfl (op_fae f25_1 rfl rfl)) ?_
    all_goals first | refine awpOps_cons (g_off rfl rfl rfl rfl rfl) ?_ | refine awpOps_cons (g_und rfl rfl rfl) ?_ | refine awpOps_cons (g_on rfl rfl rfl (op_ld ty3 rfl rfl rfl)) ?_ | refine awpOps_cons (g_on rfl rfl rfl (op_ldr ty3 rfl rfl)) ?_ | refine awpOps_cons (g_on rfl rfl rfl (op_lde ty3 rfl rfl (by assumption) rfl)) ?_ | refine awpOps_cons (g_on rfl rfl rfl (op_ldl ty3 rfl rfl rfl)) ?_ | refine awpOps_cons (g_on rfl rfl rfl (op_ldd ty3 rfl rfl rfl)) ?_ | refine awpOps_cons (g_on rfl rfl rfl (op_ldde ty3 rfl rfl (by assumption) rfl)) ?_
    all_goals first | refine awpOps_cons (g_off rfl rfl rfl rfl rfl) ?_ | refine awpOps_cons (g_und rfl rfl rfl) ?_ | refine awpOps_cons (g_on rfl rfl rfl (op_call fb51 (.cons rfl (Conv.of rfl) (.cons rfl (Conv.of rfl) (.cons rfl (Conv.of rfl) (.nil _)))) (l6In_ct _ _ _) (argOk rfl rfl (argOk rfl rfl (argOk rfl rfl argOk0))) rfl rfl)) ?_
    all_goals first | refine awpOps_cons (g_off rfl rfl rfl rfl rfl) ?_ | refine awpOps_cons (g_und rfl rfl rfl) ?_ | refine awpOps_cons (g_on rfl rfl rfl (op_not rfl rfl)) ?_
    all_goals refine awpOps_cons (op_pick rfl rfl rfl rfl) ?_
    all_goals first | refine awpOps_cons (op_mv rfl (Conv.of rfl) rfl) ?_ | refine awpOps_cons (op_mvl rfl rfl rfl rfl) ?_ | refine awpOps_cons (op_mvo rfl rfl rfl rfl) ?_
    all_goals first | refine g_lit (t := 23) (b := true) rfl ?_ | refine g_lit (t := 23) (b := false) rfl ?_ | refine g_ulit (t := 23) rfl ?_ | refine g_split (t := 23) rfl (fun h => ?_) (fun h => ?_)
    all_goals first | refine awpOps_cons (g_off rfl rfl rfl rfl rfl) ?_ | refine awpOps_cons (g_und rfl rfl rfl) ?_ | refine awpOps_cons (g_on rfl rfl rfl (op_fab f25_3 rfl rfl)) ?_ | refine awpOps_cons (g_on rfl rfl rfl (op_far f25_3 rfl rfl)) ?_ | refine awpOps_cons (g_on rfl rfl rfl (op_fae f25_3 rfl rfl)) ?_
    all_goals first | refine awpOps_cons (g_off rfl rfl rfl rfl rfl) ?_ | refine awpOps_cons (g_und rfl rfl rfl) ?_ | refine awpOps_cons (g_on rfl rfl rfl (op_ld ty23 rfl rfl rfl)) ?_ | refine awpOps_cons (g_on rfl rfl rfl (op_ldr ty23 rfl rfl)) ?_ | refine awpOps_cons (g_on rfl rfl rfl (op_lde ty23 rfl rfl (by assumption) rfl)) ?_ | refine awpOps_cons (g_on rfl rfl rfl (op_ldl ty23 rfl rfl rfl)) ?_ | refine awpOps_cons (g_on rfl rfl rfl (op_ldd ty23 rfl rfl rfl)) ?_ | refine awpOps_cons (g_on rfl rfl rfl (op_ldde ty23 rfl rfl (by assumption) rfl)) ?_
    all_goals first | refine awpOps_cons (g_off rfl rfl rfl rfl rfl) ?_ | refine awpOps_cons (g_und rfl rfl rfl) ?_ | refine awpOps_cons (g_on rfl rfl rfl (op_len sl23 rfl rfl)) ?_ | refine awpOps_cons (g_on rfl rfl rfl (op_lenA sl23 rfl rfl rfl)) ?_
    all_goals first | refine awpOps_cons (g_off rfl rfl rfl rfl rfl) ?_ | refine awpOps_cons (g_und rfl rfl rfl) ?_ | refine awpOps_cons (g_on rfl rfl rfl (op_gtr rfl rfl rfl)) ?_
    all_goals refine awpOps_cons (op_pick rfl rfl rfl rfl) ?_
    all_goals first | refine awpOps_cons (op_mv rfl (Conv.of rfl) rfl) ?_ | refine awpOps_cons (op_mvl rfl rfl rfl rfl) ?_ | refine awpOps_cons (op_mvo rfl rfl rfl rfl) ?_
    all_goals first | refine g_lit (t := 29) (b := true) rfl ?_ | refine g_lit (t := 29) (b := false) rfl ?_ | refine g_ulit (t := 29) rfl ?_ | refine g_split (t := 29) rfl (fun h => ?_) (fun h => ?_)
    all_goals first | refine awpOps_cons (g_off rfl rfl rfl rfl rfl) ?_ | refine awpOps_cons (g_und rfl rfl rfl) ?_ | refine awpOps_cons (g_on rfl rfl rfl (op_fab f25_3 rfl rfl)) ?_ | refine awpOps_cons (g_on rfl rfl rfl (op_far f25_3 rfl rfl)) ?_ | refine awpOps_cons (g_on rfl rfl rfl (op_fae f25_3 rfl rfl)) ?_
    all_goals first | refine awpOps_cons (g_off rfl rfl rfl rfl rfl) ?_ | refine awpOps_cons (g_und rfl rfl rfl) ?_ | refine awpOps_cons (g_on rfl rfl rfl (op_ld ty23 rfl rfl rfl)) ?_ | refine awpOps_cons (g_on rfl rfl rfl (op_ldr ty23 rfl rfl)) ?_ | refine awpOps_cons (g_on rfl rfl rfl (op_lde ty23 rfl rfl (by assumption) rfl)) ?_ | refine awpOps_cons (g_on rfl rfl rfl (op_ldl ty23 rfl rfl rfl)) ?_ | refine awpOps_cons (g_on rfl rfl rfl (op_ldd ty23 rfl rfl rfl)) ?_ | refine awpOps_cons (g_on rfl rfl rfl (op_ldde ty23 rfl rfl (by assumption) rfl)) ?_
    all_goals first | refine awpOps_cons (g_off rfl rfl rfl rfl rfl) ?_ | refine awpOps_cons (g_und rfl rfl rfl) ?_ | refine awpOps_cons (g_on rfl rfl rfl (op_call fb52 (.cons rfl (Conv.of rfl) (.nil _)) (sVotesOk_ct _) (argOk rfl rfl argOk0) rfl rfl)) ?_
    all_goals first | refine awpOps_cons (g_off rfl rfl rfl rfl rfl) ?_ | refine awpOps_cons (g_und rfl rfl rfl) ?_ | refine awpOps_cons (g_on rfl rfl rfl (op_not rfl rfl)) ?_
    all_goals refine awpOps_cons (op_pick rfl rfl rfl rfl) ?_
    all_goals refine awpOps_nil ?_
    all_goals exact Le.mk rfl (tlb rfl rfl rfl (tle rfl (by first | rfl | (show AV.v _ = AV.v _; unfold nodeOk0; simp_all; try omega)) rfl tln)) (olk rfl (by first | exact obOk_cell | exact obOk_arr | exact obOkW rfl | exact obOkW0 | exact obOkN | exact obOkS rfl | exact obOkNs | exact obOkS0 | trivial) oln) noS
  first | refine awp_seq (awp_cond rfl (fun h => ?_) (fun h => ?_)) | refine awp_seq (awp_seq (awp_cond rfl (fun h => ?_) (fun h => ?_))) | refine awp_cond rfl (fun h => ?_) (fun h => ?_) | refine awp_seq (awp_seq (awp_seq (awp_cond rfl (fun h => ?_) (fun h => ?_))))
  · all_goals first | refine awp_seq (awp_region (id := 2) ?_) | refine awp_seq (awp_seq (awp_region (id := 2) ?_)) | refine awp_region (id := 2) ?_ | refine awp_seq (awp_seq (awp_seq (awp_region (id := 2) ?_)))
    all_goals refine awpOps_cons (op_as rfl (Conv.of rfl) rfl) ?_
    all_goals refine awpOps_nil ?_
    refine awp_ret ?_
    repeat first | refine rt_seq ?_ | refine rt_block ?_
    refine finP (.v rfl (Conv.of rfl)) rfl ?_
    show AV.v false = _
    rw [nodeOk, not_t h]; rfl
  · have h0 := not_f h
    have h0' := h0
    simp only [nodeOk0, Bool.and_eq_true] at h0'
    have hvo := votesOk_mem h0'.2
    have hall0 : nodeOk n = !(n.seen.any (late n)) := by rw [nodeOk, h0, Bool.true_and]
    refine awp_skip ?_
    all_goals first | refine awp_seq (awp_region (id := 3) ?_) | refine awp_seq (awp_seq (awp_region (id := 3) ?_)) | refine awp_region (id := 3) ?_ | refine awp_seq (awp_seq (awp_seq (awp_region (id := 3) ?_)))
    all_goals refine awpOps_cons (op_as rfl (Conv.of rfl) rfl) ?_
    all_goals refine awpOps_nil ?_
    first | refine awp_seq (awp_block ?_) | refine awp_seq (awp_seq (awp_block ?_)) | refine awp_block ?_ | refine awp_seq (awp_seq (awp_seq (awp_block ?_)))
    first | refine awp_seq (awp_loop' (fun n_ s => ∃ (k : Nat), ∃ (hn : n_ + k = n.seen.length), ∃ (hall : nodeOk n = !((n.seen.drop k).any (late n))), s = mkSt 66 [(1, .box 0 (IsLens.whole Nod)), (3, .v (k : Int))] [(0, .cell n)]) (n.seen.length) ⟨0, by omega, hall0, rfl⟩ (Le.mk rfl (tlb rfl rfl rfl (tle rfl (rfl) rfl tln)) (olk rfl (by first | exact obOk_cell | exact obOk_arr | exact obOkW rfl | exact obOkW0 | exact obOkN | exact obOkS rfl | exact obOkNs | exact obOkS0 | trivial) oln) noS) ?_) | refine awp_seq (awp_seq (awp_loop' (fun n_ s => ∃ (k : Nat), ∃ (hn : n_ + k = n.seen.length), ∃ (hall : nodeOk n = !((n.seen.drop k).any (late n))), s = mkSt 66 [(1, .box 0 (IsLens.whole Nod)), (3, .v (k : Int))] [(0, .cell n)]) (n.seen.length) ⟨0, by omega, hall0, rfl⟩ (Le.mk rfl (tlb rfl rfl rfl (tle rfl (rfl) rfl tln)) (olk rfl (by first | exact obOk_cell | exact obOk_arr | exact obOkW rfl | exact obOkW0 | exact obOkN | exact obOkS rfl | exact obOkNs | exact obOkS0 | trivial) oln) noS) ?_)) | refine awp_loop' (fun n_ s => ∃ (k : Nat), ∃ (hn : n_ + k = n.seen.length), ∃ (hall : nodeOk n = !((n.seen.drop k).any (late n))), s = mkSt 66 [(1, .box 0 (IsLens.whole Nod)), (3, .v (k : Int))] [(0, .cell n)]) (n.seen.length) ⟨0, by omega, hall0, rfl⟩ (Le.mk rfl (tlb rfl rfl rfl (tle rfl (rfl) rfl tln)) (olk rfl (by first | exact obOk_cell | exact obOk_arr | exact obOkW rfl | exact obOkW0 | exact obOkN | exact obOkS rfl | exact obOkNs | exact obOkS0 | trivial) oln) noS) ?_ | refine awp_seq (awp_seq (awp_seq (awp_loop' (fun n_ s => ∃ (k : Nat), ∃ (hn : n_ + k = n.seen.length), ∃ (hall : nodeOk n = !((n.seen.drop k).any (late n))), s = mkSt 66 [(1, .box 0 (IsLens.whole Nod)), (3, .v (k : Int))] [(0, .cell n)]) (n.seen.length) ⟨0, by omega, hall0, rfl⟩ (Le.mk rfl (tlb rfl rfl rfl (tle rfl (rfl) rfl tln)) (olk rfl (by first | exact obOk_cell | exact obOk_arr | exact obOkW rfl | exact obOkW0 | exact obOkN | exact obOkS rfl | exact obOkNs | exact obOkS0 | trivial) oln) noS) ?_)))
    rintro n_ s ⟨k, hn, hall, rfl⟩
    all_goals first | refine awp_seq (awp_region (id := 4) ?_) | refine awp_seq (awp_seq (awp_region (id := 4) ?_)) | refine awp_region (id := 4) ?_ | refine awp_seq (awp_seq (awp_seq (awp_region (id := 4) ?_)))
    all_goals first | refine awpOps_cons (op_mv rfl (Conv.of rfl) rfl) ?_ | refine awpOps_cons (op_mvl rfl rfl rfl rfl) ?_ | refine awpOps_cons (op_mvo rfl rfl rfl rfl) ?_
    all_goals first | refine awpOps_cons (op_fab f25_3 rfl rfl) ?_ | refine awpOps_cons (op_far f25_3 rfl rfl) ?_ | refine awpOps_cons (op_fae f25_3 rfl rfl) ?_
    all_goals first | refine awpOps_cons (op_ld ty23 rfl rfl rfl) ?_ | refine awpOps_cons (op_ldr ty23 rfl rfl) ?_ | refine awpOps_cons (op_lde ty23 rfl rfl (by assumption) rfl) ?_ | refine awpOps_cons (op_ldl ty23 rfl rfl rfl) ?_ | refine awpOps_cons (op_ldd ty23 rfl rfl rfl) ?_ | refine awpOps_cons (op_ldde ty23 rfl rfl (by assumption) rfl) ?_
    refine awpOps_bigL 37 rfl (fun hB => ?_)
    all_goals first | refine awpOps_cons (op_len sl23 rfl rfl) ?_ | refine awpOps_cons (op_lenA sl23 rfl rfl rfl) ?_
    all_goals refine awpOps_cons (op_lss rfl rfl rfl) ?_
    all_goals refine awpOps_nil ?_
    first | refine awp_seq (awp_cond rfl (fun h => ?_) (fun h => ?_)) | refine awp_seq (awp_seq (awp_cond rfl (fun h => ?_) (fun h => ?_))) | refine awp_cond rfl (fun h => ?_) (fun h => ?_) | refine awp_seq (awp_seq (awp_seq (awp_cond rfl (fun h => ?_) (fun h => ?_))))
    · have hlt : k < n.seen.length := by simpa using h
      have hx : n.seen[k]? = some n.seen[k] := List.getElem?_eq_getElem hlt
      generalize n.seen[k] = x at hx
      have hp := voteOk_pos (hvo x (List.mem_of_getElem? hx))
      have hcl := chainOk_len (voteOk_chain (hvo x (List.mem_of_getElem? hx)))
      have hd := drop_at hx
      have hy : x.chain[((x.chain.length : Int) - 1).toNat]? = some (x.chain[x.chain.length - 1]'(by omega)) := by
        rw [show ((x.chain.length : Int) - 1).toNat = x.chain.length - 1 by omega]; exact List.getElem?_eq_getElem (by omega)
      have hle : lastEp x.chain = (x.chain[x.chain.length - 1]'(by omega)).epoch := lastEp_get (List.getElem?_eq_getElem (by omega))
      generalize x.chain[x.chain.length - 1]'(by omega) = y at hy hle
      have hlate : late n x = (decide (x.by_ = n.id) && decide (n.voted < y.epoch)) := by unfold late; rw [hle]
      refine awp_skip ?_
      first | refine awp_seq (awp_block ?_) | refine awp_seq (awp_seq (awp_block ?_)) | refine awp_block ?_ | refine awp_seq (awp_seq (awp_seq (awp_block ?_)))
      all_goals first | refine awp_seq (awp_region (id := 6) ?_) | refine awp_seq (awp_seq (awp_region (id := 6) ?_)) | refine awp_region (id := 6) ?_ | refine awp_seq (awp_seq (awp_seq (awp_region (id := 6) ?_)))
      all_goals first | refine awpOps_cons (op_fab f25_3 rfl rfl) ?_ | refine awpOps_cons (op_far f25_3 rfl rfl) ?_ | refine awpOps_cons (op_fae f25_3 rfl rfl) ?_
      all_goals first | refine awpOps_cons (op_ld ty23 rfl rfl rfl) ?_ | refine awpOps_cons (op_ldr ty23 rfl rfl) ?_ | refine awpOps_cons (op_lde ty23 rfl rfl (by assumption) rfl) ?_ | refine awpOps_cons (op_ldl ty23 rfl rfl rfl) ?_ | refine awpOps_cons (op_ldd ty23 rfl rfl rfl) ?_ | refine awpOps_cons (op_ldde ty23 rfl rfl (by assumption) rfl) ?_
      all_goals first | refine awpOps_cons (op_mv rfl (Conv.of rfl) rfl) ?_ | refine awpOps_cons (op_mvl rfl rfl rfl rfl) ?_ | refine awpOps_cons (op_mvo rfl rfl rfl rfl) ?_
      all_goals first | refine awpOps_cons (op_ix sl23 rfl rfl rfl (by omega) hx) ?_ | refine awpOps_cons (op_ixA sl23 rfl rfl rfl rfl (by omega)) ?_
      all_goals first | refine awpOps_cons (op_ld ty28 rfl rfl rfl) ?_ | refine awpOps_cons (op_ldr ty28 rfl rfl) ?_ | refine awpOps_cons (op_lde ty28 rfl rfl (by assumption) rfl) ?_ | refine awpOps_cons (op_ldl ty28 rfl rfl rfl) ?_ | refine awpOps_cons (op_ldd ty28 rfl rfl rfl) ?_ | refine awpOps_cons (op_ldde ty28 rfl rfl (by assumption) rfl) ?_
      all_goals refine awpOps_cons (op_alloc (o := 1) z28 rfl rfl) ?_
      all_goals first | refine awpOps_cons (op_st ty28 rfl rfl (Conv.of rfl) rfl) ?_ | refine awpOps_cons (op_ste ty28 rfl rfl (Conv.of rfl) rfl (by assumption)) ?_ | refine awpOps_cons (op_stm ty28 rfl rfl rfl) ?_ | refine awpOps_cons (op_stme ty28 rfl rfl rfl (by assumption)) ?_
      all_goals refine awpOps_nil ?_
      first | refine awp_seq (awp_seq (awp_seq (awp_seq_to (s' := mkSt 66 [(1, .box 0 (IsLens.whole Nod)), (3, .v (k : Int)), (65, .v (late n x))] [(0, .cell n)]) ?_ ?_))) | refine awp_seq (awp_seq (awp_seq_to (s' := mkSt 66 [(1, .box 0 (IsLens.whole Nod)), (3, .v (k : Int)), (65, .v (late n x))] [(0, .cell n)]) ?_ ?_)) | refine awp_seq (awp_seq_to (s' := mkSt 66 [(1, .box 0 (IsLens.whole Nod)), (3, .v (k : Int)), (65, .v (late n x))] [(0, .cell n)]) ?_ ?_) | refine awp_seq_to (s' := mkSt 66 [(1, .box 0 (IsLens.whole Nod)), (3, .v (k : Int)), (65, .v (late n x))] [(0, .cell n)]) ?_ ?_ | refine awp_toB (s' := mkSt 66 [(1, .box 0 (IsLens.whole Nod)), (3, .v (k : Int)), (65, .v (late n x))] [(0, .cell n)]) ?_ ?_ | refine awp_to (s' := mkSt 66 [(1, .box 0 (IsLens.whole Nod)), (3, .v (k : Int)), (65, .v (late n x))] [(0, .cell n)]) ?_ ?_
      · all_goals first | refine awp_seq (dr_start (id := 7) ?_) | refine awp_seq (awp_seq (dr_start (id := 7) ?_)) | refine dr_start (id := 7) ?_ | refine awp_seq (awp_seq (awp_seq (dr_start (id := 7) ?_)))
        all_goals first | refine dr_cons (op_fab f28_0 rfl rfl) ?_ | refine dr_cons (op_far f28_0 rfl rfl) ?_ | refine dr_cons (op_fae f28_0 rfl rfl) ?_
        all_goals first | refine dr_cons (op_ld ty3 rfl rfl rfl) ?_ | refine dr_cons (op_ldr ty3 rfl rfl) ?_ | refine dr_cons (op_lde ty3 rfl rfl (by assumption) rfl) ?_ | refine dr_cons (op_ldl ty3 rfl rfl rfl) ?_ | refine dr_cons (op_ldd ty3 rfl rfl rfl) ?_ | refine dr_cons (op_ldde ty3 rfl rfl (by assumption) rfl) ?_
        all_goals first | refine dr_cons (op_fab f25_0 rfl rfl) ?_ | refine dr_cons (op_far f25_0 rfl rfl) ?_ | refine dr_cons (op_fae f25_0 rfl rfl) ?_
        all_goals first | refine dr_cons (op_ld ty3 rfl rfl rfl) ?_ | refine dr_cons (op_ldr ty3 rfl rfl) ?_ | refine dr_cons (op_lde ty3 rfl rfl (by assumption) rfl) ?_ | refine dr_cons (op_ldl ty3 rfl rfl rfl) ?_ | refine dr_cons (op_ldd ty3 rfl rfl rfl) ?_ | refine dr_cons (op_ldde ty3 rfl rfl (by assumption) rfl) ?_
        all_goals refine dr_cons (op_eql rfl rfl rfl) ?_
        all_goals first | refine dr_cons (op_mv rfl (Conv.of rfl) rfl) ?_ | refine dr_cons (op_mvl rfl rfl rfl rfl) ?_ | refine dr_cons (op_mvo rfl rfl rfl rfl) ?_
        all_goals first | refine dr_lit (t := 52) (b := true) rfl ?_ | refine dr_lit (t := 52) (b := false) rfl ?_ | refine dr_ulit (t := 52) rfl ?_ | refine dr_split (t := 52) rfl (fun h => ?_) (fun h => ?_)
        all_goals first | refine dr_cons (g_off rfl rfl rfl rfl rfl) ?_ | refine dr_cons (g_und rfl rfl rfl) ?_ | refine dr_cons (g_on rfl rfl rfl (op_fab f28_1 rfl rfl)) ?_ | refine dr_cons (g_on rfl rfl rfl (op_far f28_1 rfl rfl)) ?_ | refine dr_cons (g_on rfl rfl rfl (op_fae f28_1 rfl rfl)) ?_
        all_goals first | refine dr_cons (g_off rfl rfl rfl rfl rfl) ?_ | refine dr_cons (g_und rfl rfl rfl) ?_ | refine dr_cons (g_on rfl rfl rfl (op_ld ty26 rfl rfl rfl)) ?_ | refine dr_cons (g_on rfl rfl rfl (op_ldr ty26 rfl rfl)) ?_ | refine dr_cons (g_on rfl rfl rfl (op_lde ty26 rfl rfl (by assumption) rfl)) ?_ | refine dr_cons (g_on rfl rfl rfl (op_ldl ty26 rfl rfl rfl)) ?_ | refine dr_cons (g_on rfl rfl rfl (op_ldd ty26 rfl rfl rfl)) ?_ | refine dr_cons (g_on rfl rfl rfl (op_ldde ty26 rfl rfl (by assumption) rfl)) ?_
        all_goals first | refine dr_cons (g_off rfl rfl rfl rfl rfl) ?_ | refine dr_cons (g_und rfl rfl rfl) ?_ | refine dr_cons (g_on rfl rfl rfl (op_fab f28_1 rfl rfl)) ?_ | refine dr_cons (g_on rfl rfl rfl (op_far f28_1 rfl rfl)) ?_ | refine dr_cons (g_on rfl rfl rfl (op_fae f28_1 rfl rfl)) ?_
        all_goals first | refine dr_cons (g_off rfl rfl rfl rfl rfl) ?_ | refine dr_cons (g_und rfl rfl rfl) ?_ | refine dr_cons (g_on rfl rfl rfl (op_ld ty26 rfl rfl rfl)) ?_ | refine dr_cons (g_on rfl rfl rfl (op_ldr ty26 rfl rfl)) ?_ | refine dr_cons (g_on rfl rfl rfl (op_lde ty26 rfl rfl (by assumption) rfl)) ?_ | refine dr_cons (g_on rfl rfl rfl (op_ldl ty26 rfl rfl rfl)) ?_ | refine dr_cons (g_on rfl rfl rfl (op_ldd ty26 rfl rfl rfl)) ?_ | refine dr_cons (g_on rfl rfl rfl (op_ldde ty26 rfl rfl (by assumption) rfl)) ?_
        all_goals first | refine dr_cons (g_off rfl rfl rfl rfl rfl) ?_ | refine dr_cons (g_und rfl rfl rfl) ?_ | refine dr_cons (g_on rfl rfl rfl (op_len sl26 rfl rfl)) ?_ | refine dr_cons (g_on rfl rfl rfl (op_lenA sl26 rfl rfl rfl)) ?_
        all_goals first | refine dr_cons (g_off rfl rfl rfl rfl rfl) ?_ | refine dr_cons (g_und rfl rfl rfl) ?_ | refine dr_cons (g_on rfl rfl rfl (op_sub rfl rfl rfl (by omega))) ?_
        all_goals first | refine dr_cons (g_off rfl rfl rfl rfl rfl) ?_ | refine dr_cons (g_und rfl rfl rfl) ?_ | refine dr_cons (g_on rfl rfl rfl (op_ix sl26 rfl rfl rfl (by omega) hy)) ?_ | refine dr_cons (g_on rfl rfl rfl (op_ixA sl26 rfl rfl rfl rfl (by omega))) ?_
        all_goals first | refine dr_cons (g_off rfl rfl rfl rfl rfl) ?_ | refine dr_cons (g_und rfl rfl rfl) ?_ | refine dr_cons (g_on rfl rfl rfl (op_fab f38_0 rfl rfl)) ?_ | refine dr_cons (g_on rfl rfl rfl (op_far f38_0 rfl rfl)) ?_ | refine dr_cons (g_on rfl rfl rfl (op_fae f38_0 rfl rfl)) ?_
        all_goals first | refine dr_cons (g_off rfl rfl rfl rfl rfl) ?_ | refine dr_cons (g_und rfl rfl rfl) ?_ | refine dr_cons (g_on rfl rfl rfl (op_ld ty3 rfl rfl rfl)) ?_ | refine dr_cons (g_on rfl rfl rfl (op_ldr ty3 rfl rfl)) ?_ | refine dr_cons (g_on rfl rfl rfl (op_lde ty3 rfl rfl (by assumption) rfl)) ?_ | refine dr_cons (g_on rfl rfl rfl (op_ldl ty3 rfl rfl rfl)) ?_ | refine dr_cons (g_on rfl rfl rfl (op_ldd ty3 rfl rfl rfl)) ?_ | refine dr_cons (g_on rfl rfl rfl (op_ldde ty3 rfl rfl (by assumption) rfl)) ?_
        all_goals first | refine dr_cons (g_off rfl rfl rfl rfl rfl) ?_ | refine dr_cons (g_und rfl rfl rfl) ?_ | refine dr_cons (g_on rfl rfl rfl (op_fab f25_2 rfl rfl)) ?_ | refine dr_cons (g_on rfl rfl rfl (op_far f25_2 rfl rfl)) ?_ | refine dr_cons (g_on rfl rfl rfl (op_fae f25_2 rfl rfl)) ?_
        all_goals first | refine dr_cons (g_off rfl rfl rfl rfl rfl) ?_ | refine dr_cons (g_und rfl rfl rfl) ?_ | refine dr_cons (g_on rfl rfl rfl (op_ld ty3 rfl rfl rfl)) ?_ | refine dr_cons (g_on rfl rfl rfl (op_ldr ty3 rfl rfl)) ?_ | refine dr_cons (g_on rfl rfl rfl (op_lde ty3 rfl rfl (by assumption) rfl)) ?_ | refine dr_cons (g_on rfl rfl rfl (op_ldl ty3 rfl rfl rfl)) ?_ | refine dr_cons (g_on rfl rfl rfl (op_ldd ty3 rfl rfl rfl)) ?_ | refine dr_cons (g_on rfl rfl rfl (op_ldde ty3 rfl rfl (by assumption) rfl)) ?_
        all_goals first | refine dr_cons (g_off rfl rfl rfl rfl rfl) ?_ | refine dr_cons (g_und rfl rfl rfl) ?_ | refine dr_cons (g_on rfl rfl rfl (op_gtr rfl rfl rfl)) ?_
        all_goals refine dr_cons (op_pick rfl rfl rfl rfl) ?_
        all_goals refine dr_nil mixed rfl ?_
        all_goals exact Le.mk rfl (tlb rfl rfl rfl (tle rfl (rfl) rfl (tle rfl (by first | rfl | (show AV.v _ = AV.v _; rw [hlate]; clear hall hd hall0; simp_all)) rfl tln))) (olk rfl (by first | exact obOk_cell | exact obOk_arr | exact obOkW rfl | exact obOkW0 | exact obOkN | exact obOkS rfl | exact obOkNs | exact obOkS0 | trivial) oln) noS
      first | refine awp_seq (awp_cond rfl (fun h2 => ?_) (fun h2 => ?_)) | refine awp_seq (awp_seq (awp_cond rfl (fun h2 => ?_) (fun h2 => ?_))) | refine awp_cond rfl (fun h2 => ?_) (fun h2 => ?_) | refine awp_seq (awp_seq (awp_seq (awp_cond rfl (fun h2 => ?_) (fun h2 => ?_))))
      · all_goals first | refine awp_seq (awp_region (id := 8) ?_) | refine awp_seq (awp_seq (awp_region (id := 8) ?_)) | refine awp_region (id := 8) ?_ | refine awp_seq (awp_seq (awp_seq (awp_region (id := 8) ?_)))
        all_goals refine awpOps_cons (op_as rfl (Conv.of rfl) rfl) ?_
        all_goals refine awpOps_nil ?_
        refine awp_ret ?_
        repeat first | refine rt_seq ?_ | refine rt_block ?_
        refine finP (.v rfl (Conv.of rfl)) rfl ?_
        show AV.v false = _
        rw [hall, hd, List.any_cons, h2]; rfl
      · refine awp_skip ?_
        all_goals first | refine awp_seq (awp_region (id := 5) ?_) | refine awp_seq (awp_seq (awp_region (id := 5) ?_)) | refine awp_region (id := 5) ?_ | refine awp_seq (awp_seq (awp_seq (awp_region (id := 5) ?_)))
        all_goals first | refine awpOps_cons (op_mv rfl (Conv.of rfl) rfl) ?_ | refine awpOps_cons (op_mvl rfl rfl rfl rfl) ?_ | refine awpOps_cons (op_mvo rfl rfl rfl rfl) ?_
        all_goals refine awpOps_cons (op_add rfl rfl rfl (by omega)) ?_
        all_goals first | refine awpOps_cons (op_as rfl (Conv.of rfl) rfl) ?_ | refine awpOps_cons (op_asl rfl rfl rfl rfl) ?_ | refine awpOps_cons (op_aso rfl rfl rfl rfl) ?_
        all_goals refine awpOps_nil ?_
        repeat first | refine nx_seq ?_ | refine nx_block ?_
        exact ⟨n_ - 1, _, by omega, ⟨k + 1, by omega, by rw [hall, hd, List.any_cons, h2, Bool.false_or], rfl⟩, Le.mk rfl (tlb rfl rfl rfl (tle rfl (rfl) rfl tln)) (olk rfl (by first | exact obOk_cell | exact obOk_arr | exact obOkW rfl | exact obOkW0 | exact obOkN | exact obOkS rfl | exact obOkNs | exact obOkS0 | trivial) oln) noS⟩
    · refine awp_exit ?_
      repeat refine ex_seq ?_
      refine ex_block ?_
      have hk : n.seen.length ≤ k := by simpa using h
      all_goals first | refine awp_seq (awp_region (id := 9) ?_) | refine awp_seq (awp_seq (awp_region (id := 9) ?_)) | refine awp_region (id := 9) ?_ | refine awp_seq (awp_seq (awp_seq (awp_region (id := 9) ?_)))
      all_goals refine awpOps_cons (op_as rfl (Conv.of rfl) rfl) ?_
      all_goals refine awpOps_nil ?_
      refine awp_ret ?_
      repeat first | refine rt_seq ?_ | refine rt_block ?_
      refine finP (.v rfl (Conv.of rfl)) rfl ?_
      show AV.v true = _
      rw [hall, drop_end hk]; rfl
theorem l3Copy_ct (l : List Vote) (hl : l.length ≤ 1000000) (hv : ∀ v ∈ l, v.chain.length ≤ 1000000) : CtP Try.prog 69 [.v l] (.v (OList.mk l true)) := by
  refine Ct.intro Try.func69 rfl rfl ?_
  all_goals first | refine awp_seq (awp_region (id := 0) ?_) | refine awp_seq (awp_seq (awp_region (id := 0) ?_)) | refine awp_region (id := 0) ?_ | refine awp_seq (awp_seq (awp_seq (awp_region (id := 0) ?_)))
  all_goals refine awpOps_cons (op_as rfl (Conv.of rfl) rfl) ?_
  all_goals refine awpOps_nil ?_
  all_goals first | refine awp_seq (awp_region (id := 1) ?_) | refine awp_seq (awp_seq (awp_region (id := 1) ?_)) | refine awp_region (id := 1) ?_ | refine awp_seq (awp_seq (awp_seq (awp_region (id := 1) ?_)))
  all_goals refine awpOps_cons (op_bsl sl23 z28 (.nil _) rfl (by decide) rfl) ?_
  all_goals first | refine awpOps_cons (op_as rfl (Conv.of rfl) rfl) ?_ | refine awpOps_cons (op_asl rfl rfl rfl rfl) ?_ | refine awpOps_cons (op_aso rfl rfl rfl rfl) ?_
  all_goals refine awpOps_nil ?_
  all_goals first | refine awp_seq (awp_region (id := 2) ?_) | refine awp_seq (awp_seq (awp_region (id := 2) ?_)) | refine awp_region (id := 2) ?_ | refine awp_seq (awp_seq (awp_seq (awp_region (id := 2) ?_)))
  all_goals refine awpOps_cons (op_as rfl (Conv.of rfl) rfl) ?_
  all_goals refine awpOps_nil ?_
  first | refine awp_seq (awp_block ?_) | refine awp_seq (awp_seq (awp_block ?_)) | refine awp_block ?_ | refine awp_seq (awp_seq (awp_seq (awp_block ?_)))
  first | refine awp_seq (awp_loop' (fun n_ s => ∃ (k : Nat), ∃ (hn : n_ + k = l.length), s = mkSt 21 [(0, .v l), (3, .v (OList.mk (l.take k) true)), (4, .v (k : Int))] []) (l.length) ⟨0, by omega, rfl⟩ (Le.mk rfl (tle rfl (rfl) rfl (tle rfl (by first | rfl | (rw [take_at hx])) rfl (tle rfl (rfl) rfl tln))) oln noS) ?_) | refine awp_seq (awp_seq (awp_loop' (fun n_ s => ∃ (k : Nat), ∃ (hn : n_ + k = l.length), s = mkSt 21 [(0, .v l), (3, .v (OList.mk (l.take k) true)), (4, .v (k : Int))] []) (l.length) ⟨0, by omega, rfl⟩ (Le.mk rfl (tle rfl (rfl) rfl (tle rfl (by first | rfl | (rw [take_at hx])) rfl (tle rfl (rfl) rfl tln))) oln noS) ?_)) | refine awp_loop' (fun n_ s => ∃ (k : Nat), ∃ (hn : n_ + k = l.length), s = mkSt 21 [(0, .v l), (3, .v (OList.mk (l.take k) true)), (4, .v (k : Int))] []) (l.length) ⟨0, by omega, rfl⟩ (Le.mk rfl (tle rfl (rfl) rfl (tle rfl (by first | rfl | (rw [take_at hx])) rfl (tle rfl (rfl) rfl tln))) oln noS) ?_ | refine awp_seq (awp_seq (awp_seq (awp_loop' (fun n_ s => ∃ (k : Nat), ∃ (hn : n_ + k = l.length), s = mkSt 21 [(0, .v l), (3, .v (OList.mk (l.take k) true)), (4, .v (k : Int))] []) (l.length) ⟨0, by omega, rfl⟩ (Le.mk rfl (tle rfl (rfl) rfl (tle rfl (by first | rfl | (rw [take_at hx])) rfl (tle rfl (rfl) rfl tln))) oln noS) ?_)))
  rintro n_ s ⟨k, hn, rfl⟩
  all_goals first | refine awp_seq (awp_region (id := 3) ?_) | refine awp_seq (awp_seq (awp_region (id := 3) ?_)) | refine awp_region (id := 3) ?_ | refine awp_seq (awp_seq (awp_seq (awp_region (id := 3) ?_)))
  all_goals first | refine awpOps_cons (op_mv rfl (Conv.of rfl) rfl) ?_ | refine awpOps_cons (op_mvl rfl rfl rfl rfl) ?_ | refine awpOps_cons (op_mvo rfl rfl rfl rfl) ?_
  all_goals first | refine awpOps_cons (op_mv rfl (Conv.of rfl) rfl) ?_ | refine awpOps_cons (op_mvl rfl rfl rfl rfl) ?_ | refine awpOps_cons (op_mvo rfl rfl rfl rfl) ?_
  all_goals first | refine awpOps_cons (op_len sl23 rfl rfl) ?_ | refine awpOps_cons (op_lenA sl23 rfl rfl rfl) ?_
  all_goals refine awpOps_cons (op_lss rfl rfl rfl) ?_
  all_goals refine awpOps_nil ?_
  first | refine awp_seq (awp_cond rfl (fun h => ?_) (fun h => ?_)) | refine awp_seq (awp_seq (awp_cond rfl (fun h => ?_) (fun h => ?_))) | refine awp_cond rfl (fun h => ?_) (fun h => ?_) | refine awp_seq (awp_seq (awp_seq (awp_cond rfl (fun h => ?_) (fun h => ?_))))
  · have hlt : k < l.length := by simpa using h
    have hx : l[k]? = some l[k] := List.getElem?_eq_getElem hlt
    have hvk := hv _ (List.getElem_mem hlt)
    generalize l[k] = x at hx hvk
    refine awp_skip ?_
    first | refine awp_seq (awp_block ?_) | refine awp_seq (awp_seq (awp_block ?_)) | refine awp_block ?_ | refine awp_seq (awp_seq (awp_seq (awp_block ?_)))
    all_goals first | refine awp_seq (awp_region (id := 5) ?_) | refine awp_seq (awp_seq (awp_region (id := 5) ?_)) | refine awp_region (id := 5) ?_ | refine awp_seq (awp_seq (awp_seq (awp_region (id := 5) ?_)))
    all_goals first | refine awpOps_cons (op_mv rfl (Conv.of rfl) rfl) ?_ | refine awpOps_cons (op_mvl rfl rfl rfl rfl) ?_ | refine awpOps_cons (op_mvo rfl rfl rfl rfl) ?_
    all_goals first | refine awpOps_cons (op_mv rfl (Conv.of rfl) rfl) ?_ | refine awpOps_cons (op_mvl rfl rfl rfl rfl) ?_ | refine awpOps_cons (op_mvo rfl rfl rfl rfl) ?_
    all_goals first | refine awpOps_cons (op_mv rfl (Conv.of rfl) rfl) ?_ | refine awpOps_cons (op_mvl rfl rfl rfl rfl) ?_ | refine awpOps_cons (op_mvo rfl rfl rfl rfl) ?_
    all_goals first | refine awpOps_cons (op_ix sl23 rfl rfl rfl (by omega) hx) ?_ | refine awpOps_cons (op_ixA sl23 rfl rfl rfl rfl (by omega)) ?_
    all_goals first | refine awpOps_cons (op_ld ty28 rfl rfl rfl) ?_ | refine awpOps_cons (op_ldr ty28 rfl rfl) ?_ | refine awpOps_cons (op_lde ty28 rfl rfl (by assumption) rfl) ?_ | refine awpOps_cons (op_ldl ty28 rfl rfl rfl) ?_ | refine awpOps_cons (op_ldd ty28 rfl rfl rfl) ?_ | refine awpOps_cons (op_ldde ty28 rfl rfl (by assumption) rfl) ?_
    all_goals refine awpOps_cons (op_call fb39 (.cons rfl (Conv.of rfl) (.nil _)) (l3VoteCopy_ct x hvk) (argOk rfl rfl argOk0) rfl rfl) ?_
    all_goals refine awpOps_cons (op_bsl sl23 z28 (.cons rfl (Conv.of rfl) (.nil _)) rfl (by decide) rfl) ?_
    all_goals refine awpOps_cons (op_app sl23 z28 ul23 rfl rfl rfl (by (simp; omega)) (by (simp; omega)) rfl rfl) ?_
    all_goals first | refine awpOps_cons (op_as rfl (Conv.of rfl) rfl) ?_ | refine awpOps_cons (op_asl rfl rfl rfl rfl) ?_ | refine awpOps_cons (op_aso rfl rfl rfl rfl) ?_
    all_goals refine awpOps_nil ?_
    all_goals first | refine awp_seq (awp_region (id := 4) ?_) | refine awp_seq (awp_seq (awp_region (id := 4) ?_)) | refine awp_region (id := 4) ?_ | refine awp_seq (awp_seq (awp_seq (awp_region (id := 4) ?_)))
    all_goals first | refine awpOps_cons (op_mv rfl (Conv.of rfl) rfl) ?_ | refine awpOps_cons (op_mvl rfl rfl rfl rfl) ?_ | refine awpOps_cons (op_mvo rfl rfl rfl rfl) ?_
    all_goals refine awpOps_cons (op_add rfl rfl rfl (by omega)) ?_
    all_goals first | refine awpOps_cons (op_as rfl (Conv.of rfl) rfl) ?_ | refine awpOps_cons (op_asl rfl rfl rfl rfl) ?_ | refine awpOps_cons (op_aso rfl rfl rfl rfl) ?_
    all_goals refine awpOps_nil ?_
    repeat first | refine nx_seq ?_ | refine nx_block ?_
    exact ⟨n_ - 1, _, by omega, ⟨k + 1, by omega, rfl⟩, Le.mk rfl (tle rfl (rfl) rfl (tle rfl (by first | rfl | (rw [take_at hx])) rfl (tle rfl (rfl) rfl tln))) oln noS⟩
  · refine awp_exit ?_
    repeat refine ex_seq ?_
    refine ex_block ?_
    have hk : l.length ≤ k := by simpa using h
    all_goals first | refine awp_seq (awp_region (id := 6) ?_) | refine awp_seq (awp_seq (awp_region (id := 6) ?_)) | refine awp_region (id := 6) ?_ | refine awp_seq (awp_seq (awp_seq (awp_region (id := 6) ?_)))
    all_goals first | refine awpOps_cons (op_mv rfl (Conv.of rfl) rfl) ?_ | refine awpOps_cons (op_mvl rfl rfl rfl rfl) ?_ | refine awpOps_cons (op_mvo rfl rfl rfl rfl) ?_
    all_goals first | refine awpOps_cons (op_as rfl (Conv.of rfl) rfl) ?_ | refine awpOps_cons (op_asl rfl rfl rfl rfl) ?_ | refine awpOps_cons (op_aso rfl rfl rfl rfl) ?_
    all_goals refine awpOps_nil ?_
    refine awp_ret ?_
    repeat first | refine rt_seq ?_ | refine rt_block ?_
    exact finM rfl rfl (by rw [take_end hk])
theorem l12Copy_ct (n : Nod) (hl : n.seen.length ≤ 1000000) (hv : ∀ v ∈ n.seen, v.chain.length ≤ 1000000) : CtP Try.prog 41 [.v n] (.v (sN n)) := by
  refine Ct.intro Try.func41 rfl rfl ?_
  all_goals first | refine awp_seq (awp_region (id := 0) ?_) | refine awp_seq (awp_seq (awp_region (id := 0) ?_)) | refine awp_region (id := 0) ?_ | refine awp_seq (awp_seq (awp_seq (awp_region (id := 0) ?_)))
  all_goals first | refine awpOps_cons (op_box (o := 0) ty25 rfl (Conv.of rfl) rfl rfl) ?_ | refine awpOps_cons (op_boxm (o := 0) ty25 rfl rfl rfl rfl) ?_
  all_goals refine awpOps_cons (op_alloc (o := 1) z25_NodS rfl rfl) ?_
  all_goals refine awpOps_nil ?_
  refine awp_recell (o := 0) (tb := 1) (β := NodS) (y := fN n) rfl rfl (fun G w ω cs h => nod_fN h) ?_
  all_goals first | refine awp_seq (awp_region (id := 1) ?_) | refine awp_seq (awp_seq (awp_region (id := 1) ?_)) | refine awp_region (id := 1) ?_ | refine awp_seq (awp_seq (awp_seq (awp_region (id := 1) ?_)))
  all_goals first | refine awpOps_cons (op_fab f25_3_NodS rfl rfl) ?_ | refine awpOps_cons (op_far f25_3_NodS rfl rfl) ?_ | refine awpOps_cons (op_fae f25_3_NodS rfl rfl) ?_
  all_goals first | refine awpOps_cons (op_ld ty23_OListVote rfl rfl rfl) ?_ | refine awpOps_cons (op_ldr ty23_OListVote rfl rfl) ?_ | refine awpOps_cons (op_lde ty23_OListVote rfl rfl (by assumption) rfl) ?_ | refine awpOps_cons (op_ldl ty23_OListVote rfl rfl rfl) ?_ | refine awpOps_cons (op_ldd ty23_OListVote rfl rfl rfl) ?_ | refine awpOps_cons (op_ldde ty23_OListVote rfl rfl (by assumption) rfl) ?_
  all_goals refine awpOps_cons (op_call fb69 (.cons rfl (Conv.of rfl) (.nil _)) (l3Copy_ct n.seen hl hv) (argOk rfl rfl argOk0) rfl rfl) ?_
  all_goals first | refine awpOps_cons (op_fab f25_3_NodS rfl rfl) ?_ | refine awpOps_cons (op_far f25_3_NodS rfl rfl) ?_ | refine awpOps_cons (op_fae f25_3_NodS rfl rfl) ?_
  all_goals first | refine awpOps_cons (op_st ty23_OListVote rfl rfl (Conv.of rfl) rfl) ?_ | refine awpOps_cons (op_ste ty23_OListVote rfl rfl (Conv.of rfl) rfl (by assumption)) ?_ | refine awpOps_cons (op_stm ty23_OListVote rfl rfl rfl) ?_ | refine awpOps_cons (op_stme ty23_OListVote rfl rfl rfl (by assumption)) ?_
  all_goals refine awpOps_nil ?_
  all_goals first | refine awp_seq (awp_region (id := 2) ?_) | refine awp_seq (awp_seq (awp_region (id := 2) ?_)) | refine awp_region (id := 2) ?_ | refine awp_seq (awp_seq (awp_seq (awp_region (id := 2) ?_)))
  all_goals first | refine awpOps_cons (op_ld ty25_NodS rfl rfl rfl) ?_ | refine awpOps_cons (op_ldr ty25_NodS rfl rfl) ?_ | refine awpOps_cons (op_lde ty25_NodS rfl rfl (by assumption) rfl) ?_ | refine awpOps_cons (op_ldm ty25_NodS rfl rfl rfl) ?_ | refine awpOps_cons (op_ldme ty25_NodS rfl rfl (by assumption) rfl) ?_
  all_goals first | refine awpOps_cons (op_st ty25_NodS rfl rfl (Conv.of rfl) rfl) ?_ | refine awpOps_cons (op_ste ty25_NodS rfl rfl (Conv.of rfl) rfl (by assumption)) ?_ | refine awpOps_cons (op_stm ty25_NodS rfl rfl rfl) ?_ | refine awpOps_cons (op_stme ty25_NodS rfl rfl rfl (by assumption)) ?_
  all_goals refine awpOps_nil ?_
  refine awp_ret ?_
  repeat first | refine rt_seq ?_ | refine rt_block ?_
  exact ⟨_, _, res1C (ol := []) ty25_NodS rfl rfl (fun o ho => absurd (show o ∈ ([] : List Nat) from ho) (by simp)) oln noS, rfl, rfl⟩
end Go.Proofs.Ytmabpmlcclgecaa

/- The reference: a world anew. -/
set_option linter.unusedVariables false
set_option linter.unusedSimpArgs false
namespace Go.Proofs.Ytmabpmlcclgecaa
open Go Go.Wt
end Go.Proofs.Ytmabpmlcclgecaa

/- The reference: what happens in a world, for outsiders; both: a node hears, for outsiders. -/
set_option linter.unusedVariables false
set_option linter.unusedSimpArgs false
namespace Go.Proofs.Ytmabpmlcclgecaa
open Go Go.Wt
def nodeHearR (n : Nod) (v : Vote) : Nod × Vote × Bool := if nodeOk n then hearF n v else (.zero, .zero, false)
theorem nodeHear_ct (n : Nod) (v : Vote) : CtP Try.prog 10 [.v n, .v v] (res3 (nodeHearR n v)) := by
  unfold nodeHearR
  cases h : nodeOk n with
  | false =>
    refine Ct.intro Try.func10 rfl rfl ?_
    all_goals first | refine awp_seq (awp_region (id := 0) ?_) | refine awp_seq (awp_seq (awp_region (id := 0) ?_)) | refine awp_region (id := 0) ?_ | refine awp_seq (awp_seq (awp_seq (awp_region (id := 0) ?_)))
    all_goals first | refine awpOps_cons (op_box (o := 0) ty25 rfl (Conv.of rfl) rfl rfl) ?_ | refine awpOps_cons (op_boxm (o := 0) ty25 rfl rfl rfl rfl) ?_
    all_goals first | refine awpOps_cons (op_box (o := 1) ty28 rfl (Conv.of rfl) rfl rfl) ?_ | refine awpOps_cons (op_boxm (o := 1) ty28 rfl rfl rfl rfl) ?_
    all_goals refine awpOps_cons (op_alloc (o := 2) z25 rfl rfl) ?_
    all_goals refine awpOps_cons (op_alloc (o := 3) z28 rfl rfl) ?_
    all_goals refine awpOps_cons (op_as rfl (Conv.of rfl) rfl) ?_
    all_goals refine awpOps_nil ?_
    all_goals first | refine awp_seq (awp_region (id := 1) ?_) | refine awp_seq (awp_seq (awp_region (id := 1) ?_)) | refine awp_region (id := 1) ?_ | refine awp_seq (awp_seq (awp_seq (awp_region (id := 1) ?_)))
    all_goals first | refine awpOps_cons (op_ld ty25 rfl rfl rfl) ?_ | refine awpOps_cons (op_ldr ty25 rfl rfl) ?_ | refine awpOps_cons (op_lde ty25 rfl rfl (by assumption) rfl) ?_ | refine awpOps_cons (op_ldl ty25 rfl rfl rfl) ?_ | refine awpOps_cons (op_ldd ty25 rfl rfl rfl) ?_ | refine awpOps_cons (op_ldde ty25 rfl rfl (by assumption) rfl) ?_
    all_goals refine awpOps_cons (op_call fb42 (.cons rfl (Conv.of rfl) (.nil _)) (nodeOk_ct _) (argOk rfl rfl argOk0) rfl rfl) ?_
    all_goals refine awpOps_cons (op_not rfl rfl) ?_
    all_goals refine awpOps_nil ?_
    first | refine awp_seq (awp_cond rfl (fun h2 => ?_) (fun h2 => absurd (not_f h2) (by rw [h]; decide))) | refine awp_seq (awp_seq (awp_cond rfl (fun h2 => ?_) (fun h2 => absurd (not_f h2) (by rw [h]; decide)))) | refine awp_cond rfl (fun h2 => ?_) (fun h2 => absurd (not_f h2) (by rw [h]; decide)) | refine awp_seq (awp_seq (awp_seq (awp_cond rfl (fun h2 => ?_) (fun h2 => absurd (not_f h2) (by rw [h]; decide)))))
    all_goals first | refine awp_seq (awp_region (id := 2) ?_) | refine awp_seq (awp_seq (awp_region (id := 2) ?_)) | refine awp_region (id := 2) ?_ | refine awp_seq (awp_seq (awp_seq (awp_region (id := 2) ?_)))
    all_goals refine awpOps_cons (op_build (.nil _) z25 rfl pl25 rfl) ?_
    all_goals refine awpOps_cons (op_build (.nil _) z28 rfl pl28 rfl) ?_
    all_goals first | refine awpOps_cons (op_st ty25 rfl rfl (Conv.of rfl) rfl) ?_ | refine awpOps_cons (op_ste ty25 rfl rfl (Conv.of rfl) rfl (by assumption)) ?_ | refine awpOps_cons (op_stm ty25 rfl rfl rfl) ?_ | refine awpOps_cons (op_stme ty25 rfl rfl rfl (by assumption)) ?_
    all_goals first | refine awpOps_cons (op_st ty28 rfl rfl (Conv.of rfl) rfl) ?_ | refine awpOps_cons (op_ste ty28 rfl rfl (Conv.of rfl) rfl (by assumption)) ?_ | refine awpOps_cons (op_stm ty28 rfl rfl rfl) ?_ | refine awpOps_cons (op_stme ty28 rfl rfl rfl (by assumption)) ?_
    all_goals refine awpOps_cons (op_as rfl (Conv.of rfl) rfl) ?_
    all_goals refine awpOps_nil ?_
    refine awp_ret ?_
    repeat first | refine rt_seq ?_ | refine rt_block ?_
    exact ⟨_, _, resN (ol := []) (.cons (.rc ty25 rfl rfl) (.cons (.rc ty28 rfl rfl) (.cons (.v rfl (Conv.of rfl)) .nil))) rfl (fun o ho => absurd (show o ∈ ([] : List Nat) from ho) (by simp)) oln noS, rfl, rfl⟩
  | true =>
    have hs := nodeOk_seen h
    have hg := gdOf hs.1 (by omega)
    refine Ct.intro Try.func10 rfl rfl ?_
    all_goals first | refine awp_seq (awp_region (id := 0) ?_) | refine awp_seq (awp_seq (awp_region (id := 0) ?_)) | refine awp_region (id := 0) ?_ | refine awp_seq (awp_seq (awp_seq (awp_region (id := 0) ?_)))
    all_goals first | refine awpOps_cons (op_box (o := 0) ty25 rfl (Conv.of rfl) rfl rfl) ?_ | refine awpOps_cons (op_boxm (o := 0) ty25 rfl rfl rfl rfl) ?_
    all_goals first | refine awpOps_cons (op_box (o := 1) ty28 rfl (Conv.of rfl) rfl rfl) ?_ | refine awpOps_cons (op_boxm (o := 1) ty28 rfl rfl rfl rfl) ?_
    all_goals refine awpOps_cons (op_alloc (o := 2) z25 rfl rfl) ?_
    all_goals refine awpOps_cons (op_alloc (o := 3) z28 rfl rfl) ?_
    all_goals refine awpOps_cons (op_as rfl (Conv.of rfl) rfl) ?_
    all_goals refine awpOps_nil ?_
    all_goals first | refine awp_seq (awp_region (id := 1) ?_) | refine awp_seq (awp_seq (awp_region (id := 1) ?_)) | refine awp_region (id := 1) ?_ | refine awp_seq (awp_seq (awp_seq (awp_region (id := 1) ?_)))
    all_goals first | refine awpOps_cons (op_ld ty25 rfl rfl rfl) ?_ | refine awpOps_cons (op_ldr ty25 rfl rfl) ?_ | refine awpOps_cons (op_lde ty25 rfl rfl (by assumption) rfl) ?_ | refine awpOps_cons (op_ldl ty25 rfl rfl rfl) ?_ | refine awpOps_cons (op_ldd ty25 rfl rfl rfl) ?_ | refine awpOps_cons (op_ldde ty25 rfl rfl (by assumption) rfl) ?_
    all_goals refine awpOps_cons (op_call fb42 (.cons rfl (Conv.of rfl) (.nil _)) (nodeOk_ct _) (argOk rfl rfl argOk0) rfl rfl) ?_
    all_goals refine awpOps_cons (op_not rfl rfl) ?_
    all_goals refine awpOps_nil ?_
    first | refine awp_seq (awp_cond rfl (fun h2 => absurd (not_t h2) (by rw [h]; decide)) (fun h2 => ?_)) | refine awp_seq (awp_seq (awp_cond rfl (fun h2 => absurd (not_t h2) (by rw [h]; decide)) (fun h2 => ?_))) | refine awp_cond rfl (fun h2 => absurd (not_t h2) (by rw [h]; decide)) (fun h2 => ?_) | refine awp_seq (awp_seq (awp_seq (awp_cond rfl (fun h2 => absurd (not_t h2) (by rw [h]; decide)) (fun h2 => ?_))))
    refine awp_skip ?_
    all_goals first | refine awp_seq (dr_start (id := 3) ?_) | refine awp_seq (awp_seq (dr_start (id := 3) ?_)) | refine dr_start (id := 3) ?_ | refine awp_seq (awp_seq (awp_seq (dr_start (id := 3) ?_)))
    all_goals first | refine dr_cons (op_ld ty25 rfl rfl rfl) ?_ | refine dr_cons (op_ldr ty25 rfl rfl) ?_ | refine dr_cons (op_lde ty25 rfl rfl (by assumption) rfl) ?_ | refine dr_cons (op_ldl ty25 rfl rfl rfl) ?_ | refine dr_cons (op_ldd ty25 rfl rfl rfl) ?_ | refine dr_cons (op_ldde ty25 rfl rfl (by assumption) rfl) ?_
    all_goals refine dr_cons (op_call fb43 (.cons rfl (Conv.of rfl) (.nil _)) (nodeCopied_ct n hg) (argOk rfl rfl argOk0) rfl rfl) ?_
    all_goals first | refine dr_cons (op_ld ty28 rfl rfl rfl) ?_ | refine dr_cons (op_ldr ty28 rfl rfl) ?_ | refine dr_cons (op_lde ty28 rfl rfl (by assumption) rfl) ?_ | refine dr_cons (op_ldl ty28 rfl rfl rfl) ?_ | refine dr_cons (op_ldd ty28 rfl rfl rfl) ?_ | refine dr_cons (op_ldde ty28 rfl rfl (by assumption) rfl) ?_
    all_goals refine dr_cons (op_call fb44 (.cons rfl (Conv.of rfl) (.cons rfl (Conv.of rfl) (.nil _))) (nhear_ct n v hg) (argOk rfl rfl (argOk rfl rfl argOk0)) rfl rfl) ?_
    all_goals refine dr_cons (op_ext rfl rfl rfl) ?_
    all_goals refine dr_cons (op_ext rfl rfl rfl) ?_
    all_goals refine dr_cons (op_ext rfl rfl rfl) ?_
    all_goals first | refine dr_cons (op_st ty25 rfl rfl (Conv.of rfl) rfl) ?_ | refine dr_cons (op_ste ty25 rfl rfl (Conv.of rfl) rfl (by assumption)) ?_ | refine dr_cons (op_stm ty25 rfl rfl rfl) ?_ | refine dr_cons (op_stme ty25 rfl rfl rfl (by assumption)) ?_
    all_goals first | refine dr_cons (op_st ty28 rfl rfl (Conv.of rfl) rfl) ?_ | refine dr_cons (op_ste ty28 rfl rfl (Conv.of rfl) rfl (by assumption)) ?_ | refine dr_cons (op_stm ty28 rfl rfl rfl) ?_ | refine dr_cons (op_stme ty28 rfl rfl rfl (by assumption)) ?_
    all_goals first | refine dr_cons (op_as rfl (Conv.of rfl) rfl) ?_ | refine dr_cons (op_asl rfl rfl rfl rfl) ?_ | refine dr_cons (op_aso rfl rfl rfl rfl) ?_
    all_goals refine dr_nil mixed rfl ?_
    refine awp_ret ?_
    repeat first | refine rt_seq ?_ | refine rt_block ?_
    exact ⟨_, _, resN (ol := []) (.cons (.rc ty25 rfl rfl) (.cons (.rc ty28 rfl rfl) (.cons (.v rfl (Conv.of rfl)) .nil))) rfl (fun o ho => absurd (show o ∈ ([] : List Nat) from ho) (by simp)) oln noS, rfl, rfl⟩
theorem res3_sN {x : Nod × Vote × Bool} {G : Gh} {w : Go.World} {u : Value} (h : RelV G w (.ret, []) (res3S x) u) : RelV G w (.ret, []) (res3 x) u := by
  obtain ⟨us, e0, u1, r1, e1, ⟨cs, h1, h2⟩, h3⟩ := h
  exact ⟨us, e0, u1, r1, e1, ⟨cs, rd_SN h1, h2⟩, h3⟩
theorem sNodeHear_ct (n : Nod) (v : Vote) (hv : v.chain.length ≤ 1000000) : CtP Try.prog 9 [.v n, .v v] (res3 (nodeHearR n v)) := by
  unfold nodeHearR
  cases h : nodeOk n with
  | false =>
    refine Ct.intro Try.func9 rfl rfl ?_
    all_goals first | refine awp_seq (awp_region (id := 0) ?_) | refine awp_seq (awp_seq (awp_region (id := 0) ?_)) | refine awp_region (id := 0) ?_ | refine awp_seq (awp_seq (awp_seq (awp_region (id := 0) ?_)))
    all_goals first | refine awpOps_cons (op_box (o := 0) ty25 rfl (Conv.of rfl) rfl rfl) ?_ | refine awpOps_cons (op_boxm (o := 0) ty25 rfl rfl rfl rfl) ?_
    all_goals first | refine awpOps_cons (op_box (o := 1) ty28 rfl (Conv.of rfl) rfl rfl) ?_ | refine awpOps_cons (op_boxm (o := 1) ty28 rfl rfl rfl rfl) ?_
    all_goals refine awpOps_cons (op_alloc (o := 2) z25 rfl rfl) ?_
    all_goals refine awpOps_cons (op_alloc (o := 3) z28 rfl rfl) ?_
    all_goals refine awpOps_cons (op_as rfl (Conv.of rfl) rfl) ?_
    all_goals refine awpOps_nil ?_
    all_goals first | refine awp_seq (awp_region (id := 1) ?_) | refine awp_seq (awp_seq (awp_region (id := 1) ?_)) | refine awp_region (id := 1) ?_ | refine awp_seq (awp_seq (awp_seq (awp_region (id := 1) ?_)))
    all_goals first | refine awpOps_cons (op_ld ty25 rfl rfl rfl) ?_ | refine awpOps_cons (op_ldr ty25 rfl rfl) ?_ | refine awpOps_cons (op_lde ty25 rfl rfl (by assumption) rfl) ?_ | refine awpOps_cons (op_ldl ty25 rfl rfl rfl) ?_ | refine awpOps_cons (op_ldd ty25 rfl rfl rfl) ?_ | refine awpOps_cons (op_ldde ty25 rfl rfl (by assumption) rfl) ?_
    all_goals refine awpOps_cons (op_call fb18 (.cons rfl (Conv.of rfl) (.nil _)) (sNodeOk_ct _) (argOk rfl rfl argOk0) rfl rfl) ?_
    all_goals refine awpOps_cons (op_not rfl rfl) ?_
    all_goals refine awpOps_nil ?_
    first | refine awp_seq (awp_cond rfl (fun h2 => ?_) (fun h2 => absurd (not_f h2) (by rw [h]; decide))) | refine awp_seq (awp_seq (awp_cond rfl (fun h2 => ?_) (fun h2 => absurd (not_f h2) (by rw [h]; decide)))) | refine awp_cond rfl (fun h2 => ?_) (fun h2 => absurd (not_f h2) (by rw [h]; decide)) | refine awp_seq (awp_seq (awp_seq (awp_cond rfl (fun h2 => ?_) (fun h2 => absurd (not_f h2) (by rw [h]; decide)))))
    all_goals first | refine awp_seq (awp_region (id := 2) ?_) | refine awp_seq (awp_seq (awp_region (id := 2) ?_)) | refine awp_region (id := 2) ?_ | refine awp_seq (awp_seq (awp_seq (awp_region (id := 2) ?_)))
    all_goals refine awpOps_cons (op_build (.nil _) z25 rfl pl25 rfl) ?_
    all_goals refine awpOps_cons (op_build (.nil _) z28 rfl pl28 rfl) ?_
    all_goals first | refine awpOps_cons (op_st ty25 rfl rfl (Conv.of rfl) rfl) ?_ | refine awpOps_cons (op_ste ty25 rfl rfl (Conv.of rfl) rfl (by assumption)) ?_ | refine awpOps_cons (op_stm ty25 rfl rfl rfl) ?_ | refine awpOps_cons (op_stme ty25 rfl rfl rfl (by assumption)) ?_
    all_goals first | refine awpOps_cons (op_st ty28 rfl rfl (Conv.of rfl) rfl) ?_ | refine awpOps_cons (op_ste ty28 rfl rfl (Conv.of rfl) rfl (by assumption)) ?_ | refine awpOps_cons (op_stm ty28 rfl rfl rfl) ?_ | refine awpOps_cons (op_stme ty28 rfl rfl rfl (by assumption)) ?_
    all_goals refine awpOps_cons (op_as rfl (Conv.of rfl) rfl) ?_
    all_goals refine awpOps_nil ?_
    refine awp_ret ?_
    repeat first | refine rt_seq ?_ | refine rt_block ?_
    exact ⟨_, _, resN (ol := []) (.cons (.rc ty25 rfl rfl) (.cons (.rc ty28 rfl rfl) (.cons (.v rfl (Conv.of rfl)) .nil))) rfl (fun o ho => absurd (show o ∈ ([] : List Nat) from ho) (by simp)) oln noS, rfl, rfl⟩
  | true =>
    have hs := nodeOk_seen h
    have hg := gdOf hs.1 (by omega)
    have hh : CtP Try.prog 40 [.v (sN n), .v v] (res3 (hearF n v)) := Ct.res (l12Hear_w n v h hv) fun G w u hh => res3_sN hh
    refine Ct.intro Try.func9 rfl rfl ?_
    all_goals first | refine awp_seq (awp_region (id := 0) ?_) | refine awp_seq (awp_seq (awp_region (id := 0) ?_)) | refine awp_region (id := 0) ?_ | refine awp_seq (awp_seq (awp_seq (awp_region (id := 0) ?_)))
    all_goals first | refine awpOps_cons (op_box (o := 0) ty25 rfl (Conv.of rfl) rfl rfl) ?_ | refine awpOps_cons (op_boxm (o := 0) ty25 rfl rfl rfl rfl) ?_
    all_goals first | refine awpOps_cons (op_box (o := 1) ty28 rfl (Conv.of rfl) rfl rfl) ?_ | refine awpOps_cons (op_boxm (o := 1) ty28 rfl rfl rfl rfl) ?_
    all_goals refine awpOps_cons (op_alloc (o := 2) z25 rfl rfl) ?_
    all_goals refine awpOps_cons (op_alloc (o := 3) z28 rfl rfl) ?_
    all_goals refine awpOps_cons (op_as rfl (Conv.of rfl) rfl) ?_
    all_goals refine awpOps_nil ?_
    all_goals first | refine awp_seq (awp_region (id := 1) ?_) | refine awp_seq (awp_seq (awp_region (id := 1) ?_)) | refine awp_region (id := 1) ?_ | refine awp_seq (awp_seq (awp_seq (awp_region (id := 1) ?_)))
    all_goals first | refine awpOps_cons (op_ld ty25 rfl rfl rfl) ?_ | refine awpOps_cons (op_ldr ty25 rfl rfl) ?_ | refine awpOps_cons (op_lde ty25 rfl rfl (by assumption) rfl) ?_ | refine awpOps_cons (op_ldl ty25 rfl rfl rfl) ?_ | refine awpOps_cons (op_ldd ty25 rfl rfl rfl) ?_ | refine awpOps_cons (op_ldde ty25 rfl rfl (by assumption) rfl) ?_
    all_goals refine awpOps_cons (op_call fb18 (.cons rfl (Conv.of rfl) (.nil _)) (sNodeOk_ct _) (argOk rfl rfl argOk0) rfl rfl) ?_
    all_goals refine awpOps_cons (op_not rfl rfl) ?_
    all_goals refine awpOps_nil ?_
    first | refine awp_seq (awp_cond rfl (fun h2 => absurd (not_t h2) (by rw [h]; decide)) (fun h2 => ?_)) | refine awp_seq (awp_seq (awp_cond rfl (fun h2 => absurd (not_t h2) (by rw [h]; decide)) (fun h2 => ?_))) | refine awp_cond rfl (fun h2 => absurd (not_t h2) (by rw [h]; decide)) (fun h2 => ?_) | refine awp_seq (awp_seq (awp_seq (awp_cond rfl (fun h2 => absurd (not_t h2) (by rw [h]; decide)) (fun h2 => ?_))))
    refine awp_skip ?_
    all_goals first | refine awp_seq (dr_start (id := 3) ?_) | refine awp_seq (awp_seq (dr_start (id := 3) ?_)) | refine dr_start (id := 3) ?_ | refine awp_seq (awp_seq (awp_seq (dr_start (id := 3) ?_)))
    all_goals first | refine dr_cons (op_ld ty25 rfl rfl rfl) ?_ | refine dr_cons (op_ldr ty25 rfl rfl) ?_ | refine dr_cons (op_lde ty25 rfl rfl (by assumption) rfl) ?_ | refine dr_cons (op_ldl ty25 rfl rfl rfl) ?_ | refine dr_cons (op_ldd ty25 rfl rfl rfl) ?_ | refine dr_cons (op_ldde ty25 rfl rfl (by assumption) rfl) ?_
    all_goals refine dr_cons (op_call fb41 (.cons rfl (Conv.of rfl) (.nil _)) (l12Copy_ct n hg.l' hg.v) (argOk rfl rfl argOk0) rfl rfl) ?_
    all_goals first | refine dr_cons (op_ld ty28 rfl rfl rfl) ?_ | refine dr_cons (op_ldr ty28 rfl rfl) ?_ | refine dr_cons (op_lde ty28 rfl rfl (by assumption) rfl) ?_ | refine dr_cons (op_ldl ty28 rfl rfl rfl) ?_ | refine dr_cons (op_ldd ty28 rfl rfl rfl) ?_ | refine dr_cons (op_ldde ty28 rfl rfl (by assumption) rfl) ?_
    all_goals refine dr_cons (op_callM (s := 13) (ol := []) (ol' := []) (pre := []) fb40 (.nil _) rfl (.cons rfl (Conv.of rfl) (.nil _)) (hh) ols0 oks0 oks0 rfl argO0 (argOk' rfl rfl argO0) (fun o ho => absurd (show o ∈ ([] : List Nat) from ho) (by simp)) (fun o ho => absurd (show o ∈ ([] : List Nat) from ho) (by simp)) rfl) ?_
    all_goals refine dr_cons (op_ext rfl rfl rfl) ?_
    all_goals refine dr_cons (op_ext rfl rfl rfl) ?_
    all_goals refine dr_cons (op_ext rfl rfl rfl) ?_
    all_goals first | refine dr_cons (op_st ty25 rfl rfl (Conv.of rfl) rfl) ?_ | refine dr_cons (op_ste ty25 rfl rfl (Conv.of rfl) rfl (by assumption)) ?_ | refine dr_cons (op_stm ty25 rfl rfl rfl) ?_ | refine dr_cons (op_stme ty25 rfl rfl rfl (by assumption)) ?_
    all_goals first | refine dr_cons (op_st ty28 rfl rfl (Conv.of rfl) rfl) ?_ | refine dr_cons (op_ste ty28 rfl rfl (Conv.of rfl) rfl (by assumption)) ?_ | refine dr_cons (op_stm ty28 rfl rfl rfl) ?_ | refine dr_cons (op_stme ty28 rfl rfl rfl (by assumption)) ?_
    all_goals first | refine dr_cons (op_as rfl (Conv.of rfl) rfl) ?_ | refine dr_cons (op_asl rfl rfl rfl rfl) ?_ | refine dr_cons (op_aso rfl rfl rfl rfl) ?_
    all_goals refine dr_nil mixed rfl ?_
    refine awp_ret ?_
    repeat first | refine rt_seq ?_ | refine rt_block ?_
    exact ⟨_, _, resN (ol := []) (.cons (.rc ty25 rfl rfl) (.cons (.rc ty28 rfl rfl) (.cons (.v rfl (Conv.of rfl)) .nil))) rfl (fun o ho => absurd (show o ∈ ([] : List Nat) from ho) (by simp)) oln noS, rfl, rfl⟩
theorem nodeEnter_ct (n : Nod) (e : Int) (h : nodeOk n = true) : CtP Try.prog 20 [.v n, .v e] (.v (enterF n e)) := by
  have hs := nodeOk_seen h
  have hg := gdOf hs.1 (by omega)
  have hep := (nodeOk_iff.1 h).1.2.1
  refine Ct.intro Try.func20 rfl rfl ?_
  all_goals first | refine awp_seq (awp_region (id := 0) ?_) | refine awp_seq (awp_seq (awp_region (id := 0) ?_)) | refine awp_region (id := 0) ?_ | refine awp_seq (awp_seq (awp_seq (awp_region (id := 0) ?_)))
  all_goals first | refine awpOps_cons (op_box (o := 0) ty25 rfl (Conv.of rfl) rfl rfl) ?_ | refine awpOps_cons (op_boxm (o := 0) ty25 rfl rfl rfl rfl) ?_
  all_goals refine awpOps_cons (op_alloc (o := 1) z25 rfl rfl) ?_
  all_goals refine awpOps_nil ?_
  all_goals first | refine awp_seq (awp_region (id := 1) ?_) | refine awp_seq (awp_seq (awp_region (id := 1) ?_)) | refine awp_region (id := 1) ?_ | refine awp_seq (awp_seq (awp_seq (awp_region (id := 1) ?_)))
  all_goals first | refine awpOps_cons (op_ld ty25 rfl rfl rfl) ?_ | refine awpOps_cons (op_ldr ty25 rfl rfl) ?_ | refine awpOps_cons (op_lde ty25 rfl rfl (by assumption) rfl) ?_ | refine awpOps_cons (op_ldl ty25 rfl rfl rfl) ?_ | refine awpOps_cons (op_ldd ty25 rfl rfl rfl) ?_ | refine awpOps_cons (op_ldde ty25 rfl rfl (by assumption) rfl) ?_
  all_goals refine awpOps_cons (op_call fb42 (.cons rfl (Conv.of rfl) (.nil _)) (nodeOk_ct _) (argOk rfl rfl argOk0) rfl rfl) ?_
  all_goals refine awpOps_cons (op_not rfl rfl) ?_
  all_goals refine awpOps_nil ?_
  first | refine awp_seq (awp_cond rfl (fun h2 => absurd (not_t h2) (by rw [h]; decide)) (fun h2 => ?_)) | refine awp_seq (awp_seq (awp_cond rfl (fun h2 => absurd (not_t h2) (by rw [h]; decide)) (fun h2 => ?_))) | refine awp_cond rfl (fun h2 => absurd (not_t h2) (by rw [h]; decide)) (fun h2 => ?_) | refine awp_seq (awp_seq (awp_seq (awp_cond rfl (fun h2 => absurd (not_t h2) (by rw [h]; decide)) (fun h2 => ?_))))
  refine awp_skip ?_
  all_goals first | refine awp_seq (awp_region (id := 3) ?_) | refine awp_seq (awp_seq (awp_region (id := 3) ?_)) | refine awp_region (id := 3) ?_ | refine awp_seq (awp_seq (awp_seq (awp_region (id := 3) ?_)))
  all_goals first | refine awpOps_cons (op_ld ty25 rfl rfl rfl) ?_ | refine awpOps_cons (op_ldr ty25 rfl rfl) ?_ | refine awpOps_cons (op_lde ty25 rfl rfl (by assumption) rfl) ?_ | refine awpOps_cons (op_ldl ty25 rfl rfl rfl) ?_ | refine awpOps_cons (op_ldd ty25 rfl rfl rfl) ?_ | refine awpOps_cons (op_ldde ty25 rfl rfl (by assumption) rfl) ?_
  all_goals refine awpOps_cons (op_call fb43 (.cons rfl (Conv.of rfl) (.nil _)) (nodeCopied_ct n hg) (argOk rfl rfl argOk0) rfl rfl) ?_
  all_goals first | refine awpOps_cons (op_mv rfl (Conv.of rfl) rfl) ?_ | refine awpOps_cons (op_mvl rfl rfl rfl rfl) ?_ | refine awpOps_cons (op_mvo rfl rfl rfl rfl) ?_
  all_goals refine awpOps_cons (op_call fb55 (.cons rfl (Conv.of rfl) (.cons rfl (Conv.of rfl) (.nil _))) (enter_ct n e hep) (argOk rfl rfl (argOk rfl rfl argOk0)) rfl rfl) ?_
  all_goals first | refine awpOps_cons (op_st ty25 rfl rfl (Conv.of rfl) rfl) ?_ | refine awpOps_cons (op_ste ty25 rfl rfl (Conv.of rfl) rfl (by assumption)) ?_ | refine awpOps_cons (op_stm ty25 rfl rfl rfl) ?_ | refine awpOps_cons (op_stme ty25 rfl rfl rfl (by assumption)) ?_
  all_goals refine awpOps_nil ?_
  refine awp_ret ?_
  repeat first | refine rt_seq ?_ | refine rt_block ?_
  exact finP (.rc ty25 rfl rfl) rfl rfl
end Go.Proofs.Ytmabpmlcclgecaa

/- What happens in a world in form. -/
set_option linter.unusedVariables false
set_option linter.unusedSimpArgs false
namespace Go.Wt
/-- What a node does when it hears `v`, or proposes. -/
structure NS (n : Nod) (v : Option Vote) (x : Nod × Vote × Bool) : Prop where
  id : x.1.id = n.id
  ep : x.1.epoch = n.epoch
  seen : ∃ N, x.1.seen = n.seen ++ N ∧ ∀ u ∈ N, some u = v ∨ (x.2.2 = true ∧ u = x.2.1)
  by_ : x.2.2 = true → x.2.1.by_ = n.id
theorem NS.refl (n : Nod) (v : Option Vote) : NS n v (n, .zero, false) := ⟨rfl, rfl, ⟨[], by simp, fun u hu => by cases hu⟩, fun h => by cases h⟩
theorem NS.keep {n m : Nod} {v : Option Vote} (hid : m.id = n.id) (hep : m.epoch = n.epoch) (hs : ∃ N, m.seen = n.seen ++ N ∧ ∀ u ∈ N, some u = v) : NS n v (m, .zero, false) := by
  obtain ⟨N, h1, h2⟩ := hs
  exact ⟨hid, hep, ⟨N, h1, fun u hu => .inl (h2 u hu)⟩, fun h => by cases h⟩
theorem NS.vote {n m : Nod} {v : Option Vote} {c : List Itm} (hid : m.id = n.id) (hep : m.epoch = n.epoch) (hs : ∃ N, m.seen = n.seen ++ N ∧ ∀ u ∈ N, some u = v) : NS n v (voteF m c) := by
  unfold voteF
  split
  · exact NS.keep hid hep hs
  · obtain ⟨N, h1, h2⟩ := hs
    refine ⟨hid, hep, ⟨N ++ [⟨m.id, c⟩], by simp [h1], fun u hu => ?_⟩, fun _ => hid⟩
    rcases List.mem_append.1 hu with hu | hu
    · exact .inl (h2 u hu)
    · simp at hu; exact .inr ⟨rfl, hu⟩
theorem NS.try {n m : Nod} {v : Option Vote} (hid : m.id = n.id) (hep : m.epoch = n.epoch) (hs : ∃ N, m.seen = n.seen ++ N ∧ ∀ u ∈ N, some u = v) : ∀ l : List Vote, NS n v (tryF m l)
  | [] => NS.keep hid hep hs
  | u :: r => by
    simp only [tryF]
    split
    · exact NS.vote hid hep hs
    · exact NS.try hid hep hs r
theorem seeF_app (n : Nod) (v : Vote) : ∃ N, (seeF n v).seen = n.seen ++ N ∧ ∀ u ∈ N, some u = some v := by
  unfold seeF
  split
  · exact ⟨[], by simp, fun u hu => by cases hu⟩
  · exact ⟨[v], rfl, fun u hu => by simp at hu; rw [hu]⟩
theorem NS.hear (n : Nod) (v : Vote) : NS n (some v) (hearF n v) := by
  have h := seeF_app n v
  have h2 := seeF_epoch n v
  unfold hearF
  split
  · split
    · exact NS.try h2.2.1 h2.1 h _
    · exact NS.keep h2.2.1 h2.1 h
  · exact NS.refl n _
theorem NS.propose (n : Nod) (p : Pay) : NS n none (proposeF n p) := by
  unfold proposeF
  split
  · exact NS.vote rfl rfl ⟨[], by simp, fun u hu => by cases hu⟩
  · exact NS.refl n _
theorem putF_nodes (w : Wrld) (k : Nat) (x : Nod × Vote × Bool) : (putF w k x).nodes = w.nodes.set k x.1 := by
  unfold putF
  split
  · unfold sendF; split <;> rfl
  · rfl
/-- What is sent: at most one more. -/
def Sn (w w' : Wrld) (p : Vote → Prop) : Prop := w'.log = w.log ∨ ∃ v, w'.log = w.log ++ [v] ∧ p v
theorem sendF_sn (w : Wrld) (v : Vote) {p : Vote → Prop} (h : p v) : Sn w (sendF w v) p := by
  unfold sendF
  split
  · exact .inr ⟨v, rfl, h⟩
  · exact .inl rfl
theorem sendF_mem {w : Wrld} {v : Vote} (h : w.log.length < 80) : v ∈ (sendF w v).log := by
  unfold sendF
  split
  · simp
  · rename_i hh
    simp only [Bool.and_eq_true, Bool.not_eq_true', decide_eq_false_iff_not, decide_eq_true_eq, not_and] at hh
    by_cases hm : v ∈ w.log
    · exact hm
    · exact absurd h (hh hm)
theorem putF_sn {w : Wrld} {k : Nat} {x : Nod × Vote × Bool} {p : Vote → Prop} (h : x.2.2 = true → p x.2.1) : Sn w (putF w k x) p := by
  unfold putF
  split
  · rename_i hh
    exact sendF_sn { w with nodes := w.nodes.set k x.1 } x.2.1 (h hh)
  · exact .inl rfl
theorem putF_has {w : Wrld} {k : Nat} {x : Nod × Vote × Bool} (h : x.2.2 = true) (hl : w.log.length < 80) : x.2.1 ∈ (putF w k x).log := by
  unfold putF
  rw [if_pos h]
  exact sendF_mem hl
theorem Sn.sub {w w' : Wrld} {p : Vote → Prop} (h : Sn w w' p) : ∀ v ∈ w.log, v ∈ w'.log := fun v hv => by
  rcases h with e | ⟨u, e, _⟩
  · rw [e]; exact hv
  · rw [e]; exact List.mem_append_left _ hv
/-- What a world becomes. -/
structure Stp (w w' : Wrld) : Prop where
  ok : WOk w'
  bad : w'.bad = w.bad
  ep : w.epoch ≤ w'.epoch ∧ w'.epoch ≤ w.epoch + 1
  log : Sn w w' (fun _ => True)
  seen : ∀ (i : Nat) (n : Nod), w.nodes[i]? = some n → ∃ n' N, w'.nodes[i]? = some n' ∧ n'.seen = n.seen ++ N
theorem Stp.refl {w : Wrld} (h : WOk w) : Stp w w := ⟨h, rfl, by omega, .inl rfl, fun i n hn => ⟨n, [], hn, by simp⟩⟩
theorem Stp.put {w : Wrld} {k : Nat} {n : Nod} {v : Option Vote} {x : Nod × Vote × Bool} (h : WOk w) (hn : w.nodes[k]? = some n) (hx : NS n v x) (hv : ∀ u, v = some u → u ∈ w.log) (hl : w.log.length < 80)
    (h1 : nodeOk x.1 = true) (h2 : x.2.2 = true → voteOk x.2.1 = true) : Stp w (putF w k x) := by
  have hno := putF_nodes w k x
  have hsn : Sn w (putF w k x) (fun _ => True) := putF_sn fun _ => trivial
  have heb := putF_eb w k x
  have hlt := (List.getElem?_eq_some_iff.1 hn).1
  refine ⟨⟨putF_ok h.fx h1 h2, by rw [heb.2]; exact h.bad, fun i m hm => ?_⟩, heb.2, by rw [heb.1]; omega, hsn, fun i m hm => ?_⟩
  · rw [hno] at hm
    rw [heb.1, heb.2]
    by_cases hik : k = i
    · subst hik
      rw [List.getElem?_set_self hlt] at hm
      injection hm with hm
      subst hm
      obtain ⟨a, b, c⟩ := h.node k n hn
      refine ⟨by rw [hx.id]; exact a, by rw [hx.ep]; exact b, fun u hu => ?_⟩
      obtain ⟨N, e, hN⟩ := hx.seen
      rw [e] at hu
      rcases List.mem_append.1 hu with hu | hu
      · rcases c u hu with q | q
        · exact .inl q
        · exact .inr (hsn.sub u q)
      · rcases hN u hu with q | ⟨q1, q2⟩
        · exact .inr (hsn.sub u (hv u q.symm))
        · rw [q2]; exact .inr (putF_has q1 hl)
    · rw [List.getElem?_set_ne hik] at hm
      obtain ⟨a, b, c⟩ := h.node i m hm
      exact ⟨a, b, fun u hu => (c u hu).imp id (hsn.sub u)⟩
  · rw [hno]
    by_cases hik : k = i
    · subst hik
      rw [hn] at hm
      injection hm with hm
      subst hm
      obtain ⟨N, e, _⟩ := hx.seen
      exact ⟨x.1, N, by rw [List.getElem?_set_self hlt], e⟩
    · exact ⟨m, [], by rw [List.getElem?_set_ne hik]; exact hm, by simp⟩
theorem Stp.tick {w : Wrld} (h : WOk w) : Stp w (tickF w) := by
  have hep := h.fx.ep
  refine ⟨⟨tickF_ok h.fx, h.bad, fun i m hm => ?_⟩, rfl, ?_, .inl rfl, fun i n hn => ?_⟩
  · have hm' : (w.nodes.map fun n => enterF n (min (w.epoch + 1) 30))[i]? = some m := hm
    rw [List.getElem?_map] at hm'
    cases hn : w.nodes[i]? with
    | none => rw [hn] at hm'; cases hm'
    | some n =>
      rw [hn] at hm'
      simp at hm'
      obtain ⟨a, b, c⟩ := h.node i n hn
      subst hm'
      refine ⟨?_, ?_, fun u hu => ?_⟩
      · unfold enterF; split <;> exact a
      · show (enterF n (min (w.epoch + 1) 30)).epoch = min (w.epoch + 1) 30
        unfold enterF
        split
        · rfl
        · rename_i hh
          simp only [within, Bool.and_eq_true, decide_eq_true_eq, not_and] at hh
          rw [b] at hh ⊢
          omega
      · have : (enterF n (min (w.epoch + 1) 30)).seen = n.seen := by unfold enterF; split <;> rfl
        rw [this] at hu
        exact c u hu
  · show w.epoch ≤ min (w.epoch + 1) 30 ∧ min (w.epoch + 1) 30 ≤ w.epoch + 1
    omega
  · refine ⟨enterF n (min (w.epoch + 1) 30), [], ?_, ?_⟩
    · show (w.nodes.map fun n => enterF n (min (w.epoch + 1) 30))[i]? = _
      rw [List.getElem?_map, hn]; rfl
    · unfold enterF; split <;> simp
theorem Stp.send {w : Wrld} {v : Vote} (h : WOk w) (hv : voteOk v = true) : Stp w (sendF w v) := by
  have hsn : Sn w (sendF w v) (fun _ => True) := sendF_sn w v trivial
  have e : (sendF w v).epoch = w.epoch ∧ (sendF w v).bad = w.bad ∧ (sendF w v).nodes = w.nodes := by unfold sendF; split <;> exact ⟨rfl, rfl, rfl⟩
  refine ⟨⟨sendF_ok h.fx hv, by rw [e.2.1]; exact h.bad, fun i m hm => ?_⟩, e.2.1, by rw [e.1]; omega, hsn, fun i n hn => ⟨n, [], by rw [e.2.2]; exact hn, by simp⟩⟩
  rw [e.2.2] at hm
  rw [e.1, e.2.1]
  obtain ⟨a, b, c⟩ := h.node i m hm
  exact ⟨a, b, fun u hu => (c u hu).imp id (hsn.sub u)⟩
theorem Stp.bring {w : Wrld} (h : WOk w) (a id : Int) : Stp w (wbringF w a id) := by
  unfold wbringF
  split
  · rename_i hh
    simp only [honestB, Bool.and_eq_true, Bool.not_eq_true', decide_eq_false_iff_not, decide_eq_true_eq] at hh
    split
    · rename_i n v hn hv
      have := hearF_ok v (h.fx.nodes n (List.mem_of_getElem? hn))
      exact Stp.put h hn (NS.hear n v) (fun u hu => by injection hu with hu; rw [← hu]; exact List.mem_of_getElem? hv) hh.1.2 this.1 this.2
    · exact Stp.refl h
  · exact Stp.refl h
theorem Stp.propose {w : Wrld} (h : WOk w) (id : Int) (p : Pay) : Stp w (wproposeF w id p) := by
  unfold wproposeF
  split
  · rename_i hh
    simp only [honestB, Bool.and_eq_true, Bool.not_eq_true', decide_eq_false_iff_not, decide_eq_true_eq] at hh
    split
    · rename_i n hn
      have := proposeF_ok p (h.fx.nodes n (List.mem_of_getElem? hn))
      exact Stp.put h hn (NS.propose n p) (fun u hu => by cases hu) hh.1.2 this.1 this.2
    · exact Stp.refl h
  · exact Stp.refl h
theorem Stp.do {w : Wrld} (h : WOk w) (e : Evt) : Stp w (doF w e) := by
  unfold doF
  split
  · exact Stp.tick h
  · split
    · exact Stp.propose h _ _
    · split
      · exact Stp.bring h _ _
      · split
        · split
          · rename_i hh
            simp only [Bool.and_eq_true] at hh
            exact Stp.send h hh.1
          · exact Stp.refl h
        · exact Stp.refl h
end Go.Wt

/- Parking of a world's room. -/
set_option linter.unusedVariables false
set_option linter.unusedSimpArgs false
namespace Go.Wt
open Go
variable {P : Program} {S : Nat → Prop} {ops : Array Oper} {st : St}
/-- Between the parts of a region: a variable is seen in another way. -/
theorem recell {o tb : Nat} {α β : Type} [Enc α] [Enc β] {x : α} {y : β} (ho : st.ob o = .cell x) (htb : st.tm tb = some (.box o (IsLens.whole α)))
    (hc : ∀ (G : Gh) (w : Go.World) (ω : Owner) (cs : List Value), Enc.rd G w ω x cs → Enc.rd G w ω y cs) :
    ∀ G w a, RelSt G w a st → ∃ (_ : Unit) (G' : Gh), RelSt G' w a (st.upd [(tb, some (.box o (IsLens.whole β)))] [(o, .cell y)]) ∧ Keep S G w G' w := fun G w a hr => by
  have hob := hr.objs o
  rw [ho] at hob
  obtain ⟨b', cs, e, k1, k2, k3, k4⟩ := hob
  refine ⟨(), G, ⟨hr.defers, hr.size, fun q => ?_, fun j => ?_⟩, Keep.refl _ _ _⟩
  · show RelT _ _ _ (orr (lk [(tb, _)] q) (st.tm q)) (a.tmps.getD q undef)
    simp only [lk]
    by_cases eb : q = tb
    · subst eb
      rw [if_pos rfl]
      have := hr.tmps q
      rw [htb] at this
      exact this
    · rw [if_neg eb]
      exact hr.tmps q
  · show RelO _ _ j (orr (lk [(o, _)] j) (st.ob j))
    simp only [lk]
    by_cases ek : j = o
    · subst ek
      rw [if_pos rfl]
      exact ⟨b', cs, e, k1, k2, hc _ _ _ _ k3, k4⟩
    · rw [if_neg ek]
      exact hr.objs j
/-! ### Quiet epochs in worlds in form -/
theorem Stp.wok {w w' : Wrld} (h : Stp w w') : WOk w' := h.ok
end Go.Wt

/- Drawn nodes. -/
set_option linter.unusedVariables false
set_option linter.unusedSimpArgs false
namespace Go.Wt
open Go
theorem rd_FN {G : Gh} {w : Go.World} {ω : Owner} {n : Nod} {cs : List Value} (h : Enc.rd G w ω (fN n) cs) : Enc.rd G w ω n cs := by
  obtain ⟨c1, c2, rfl, r1, ⟨c3, c4, rfl, r3, ⟨c5, c6, rfl, r5, ⟨a, cap, h1, h2, h3, h4⟩⟩⟩⟩ := h
  exact ⟨c1, _, rfl, r1, c3, _, rfl, r3, c5, _, rfl, r5, ⟨a, cap, h1, h2, h3⟩⟩
theorem arr_nF {G : Gh} {w : Go.World} {o : Nat} {ns : List Nod} {k : Nat} {n : Nod} (hx : ns[k]? = some n) (h : RelO G w o (.arr ((ns.map sN).set k (fN n)))) : RelO G w o (.arr ns) := by
  obtain ⟨b, cap, cs, e, h1, h2, h3, h4, h5, h6⟩ := h
  refine ⟨b, cap, cs, e, by simpa using h1, h2, by simpa using h3, h4, fun i x hi => ?_, h6⟩
  by_cases ek : i = k
  · subst ek
    rw [hx] at hi
    injection hi with hi
    subst hi
    obtain ⟨c, c1, c2⟩ := h5 i (fN n) (by rw [List.getElem?_set_self (by rw [List.length_map]; exact getElem?_lt hx)])
    exact ⟨c, rd_FN c1, c2⟩
  · obtain ⟨c, c1, c2⟩ := h5 i (sN x) (by rw [List.getElem?_set_ne (Ne.symm ek), List.getElem?_map, hi]; rfl)
    exact ⟨c, rd_SN c1, c2⟩
/-- A node of a drawn one's size. -/
structure Ln (n : Nod) : Prop where
  ep : 0 ≤ n.epoch ∧ n.epoch ≤ 30
  sl : n.seen.length ≤ 101
  sc : ∀ v ∈ n.seen, v.chain.length ≤ 30
theorem FineX.ln {w : Wrld} (h : FineX w) {n : Nod} (hn : n ∈ w.nodes) : Ln n :=
  ⟨h.fine.nep n hn, by have := h.lw.sl n hn; omega, (h.lw.sl n hn).2⟩
/-- Which node is drawn. -/
def idF (bad q : Int) : Int := if q = bad then q.tmod 4 + 1 else q
theorem idF_bd {bad q : Int} (h : 1 ≤ q ∧ q ≤ 4) : 1 ≤ idF bad q ∧ idF bad q ≤ 4 := by
  unfold idF
  split
  · have : q = 1 ∨ q = 2 ∨ q = 3 ∨ q = 4 := by omega
    rcases this with e | e | e | e <;> rw [e] <;> decide
  · exact h
end Go.Wt

/- The reference: drawn nodes. -/
set_option linter.unusedVariables false
set_option linter.unusedSimpArgs false
namespace Go.Proofs.Ytmabpmlcclgecaa
open Go Go.Wt
theorem l12EnterP_ct (n : Nod) (e : Int) (hn : 0 ≤ n.epoch ∧ n.epoch ≤ 30) : CtP Try.prog 34 [.v n, .v e] (.v (enterF n e)) := by
  refine Ct.intro Try.func34 rfl rfl ?_
  all_goals refine awp_seq (awp_region (id := 0) ?_)
  all_goals refine awpOps_cons (op_box (o := 0) ty25 rfl (Conv.of rfl) rfl rfl) ?_
  all_goals refine awpOps_cons (op_alloc (o := 1) z25 rfl rfl) ?_
  all_goals refine awpOps_nil ?_
  all_goals refine awp_seq (awp_seq (awp_region (id := 1) ?_))
  all_goals refine awpOps_cons (op_mv rfl (Conv.of rfl) rfl) ?_
  all_goals refine awpOps_cons (op_fab f25_1 rfl rfl) ?_
  all_goals refine awpOps_cons (op_ld ty3 rfl rfl rfl) ?_
  all_goals refine awpOps_cons (op_add rfl rfl rfl (by omega)) ?_
  all_goals refine awpOps_cons (op_call fb51 (.cons rfl (Conv.of rfl) (.cons rfl (Conv.of rfl) (.cons rfl (Conv.of rfl) (.nil _)))) (l6In_ct _ _ _) (argOk rfl rfl (argOk rfl rfl (argOk rfl rfl argOk0))) rfl rfl) ?_
  all_goals refine awpOps_nil ?_
  refine awp_cond rfl (fun h => ?_) (fun h => ?_)
  · all_goals refine awp_region (id := 2) ?_
    all_goals refine awpOps_cons (op_mv rfl (Conv.of rfl) rfl) ?_
    all_goals refine awpOps_cons (op_fab f25_1 rfl rfl) ?_
    all_goals refine awpOps_cons (op_st ty3 rfl rfl (Conv.of rfl) rfl) ?_
    all_goals refine awpOps_nil ?_
    all_goals refine awp_seq (awp_region (id := 3) ?_)
    all_goals refine awpOps_cons (op_ld ty25 rfl rfl rfl) ?_
    all_goals refine awpOps_cons (op_st ty25 rfl rfl (Conv.of rfl) rfl) ?_
    all_goals refine awpOps_nil ?_
    refine awp_ret ?_
    repeat first | refine rt_seq ?_ | refine rt_block ?_
    refine ⟨_, _, res1 (ol := []) (.rc ty25 rfl rfl) (fun o ho => by cases ho) oln noS, ?_, rfl⟩
    have h' : within e (n.epoch + 1) 30 = true := h
    show AV.v _ = AV.v _
    simp [enterF, h']
  · refine awp_skip ?_
    all_goals refine awp_seq (awp_region (id := 3) ?_)
    all_goals refine awpOps_cons (op_ld ty25 rfl rfl rfl) ?_
    all_goals refine awpOps_cons (op_st ty25 rfl rfl (Conv.of rfl) rfl) ?_
    all_goals refine awpOps_nil ?_
    refine awp_ret ?_
    repeat first | refine rt_seq ?_ | refine rt_block ?_
    refine ⟨_, _, res1 (ol := []) (.rc ty25 rfl rfl) (fun o ho => by cases ho) oln noS, ?_, rfl⟩
    have h' : within e (n.epoch + 1) 30 = false := h
    show AV.v _ = AV.v _
    simp [enterF, h']
set_option maxHeartbeats 4000000 in
theorem l72Node_ct (r : Rd) (hp : Far 1000 r) : Ct Try.prog 31 [.box 0 (IsLens.whole Rd)] (obs [(0, .cell r)]) (fun r1 h1 => ∃ (n : Nod) (w : Wrld) (r' : Rd), r1 = .tup [.v n, .v w] ∧ h1 = obs [(0, .cell r')] ∧ Ln n ∧ FineX w ∧ Far 21000 r') := by
  refine Ct.intro Try.func31 rfl rfl ?_
  all_goals refine awp_seq (awp_region (id := 0) ?_)
  all_goals refine awpOps_cons (op_alloc (o := 5) z25 rfl rfl) ?_
  all_goals refine awpOps_cons (op_alloc (o := 6) z61 rfl rfl) ?_
  all_goals refine awpOps_nil ?_
  all_goals refine awp_seq (awp_region (id := 1) ?_)
  all_goals refine awpOps_cons (op_mv rfl (Conv.of rfl) rfl) ?_
  refine awpOps_callO [(0, .cell r)] rfl fb63 (.cons rfl (Conv.of rfl) (.nil _)) (l72Play_ct r hp) (olsk rfl ols0) (oksk obOk_cell oks0) (argOb rfl rfl rfl argO0) rfl ?_
  rintro r_ h' ⟨bad, evs, w, r1, rfl, rfl, he, hb, hw, hf⟩
  refine ⟨ro r1 w, rfl, fun o ho => ?_, fun o ho h1 => ?_, oksk obOk_cell (oksk obOkNs oks0), fun o ho => ?_, ?_⟩
  · have : o = 0 := by simpa [keys, lk0] using ho
    subst this; rfl
  · by_cases e0 : o = 0
    · subst e0; cases h1
    · have : o = 1 := by simpa [keys, lk0, e0] using ho
      subst this; rfl
  · have : o = 1 := by simpa using (show o ∈ [1] from ho)
    subst this; rfl
  have h4 := hw.four
  have hf1 : Far 20001 (nx r1 1) := hf.nx (by omega) (by omega)
  have hf2 : Far 20002 (nx (nx r1 1) 1) := hf1.nx (by omega) (by omega)
  have hf3 : Far 20003 (nx (nx (nx r1 1) 1) 1) := hf2.nx (by omega) (by omega)
  have d4 := pk_bd hf (by omega) 4
  have f4 := d4.2 (by omega)
  have d5 := pk_bd hf2 (by omega) 4
  have f5 := d5.2 (by omega)
  have g5 := gi_get (l := [0, 5, 1, 2]) d5.1 (by simp; omega)
  all_goals refine awpOps_cons (op_mvo rfl rfl rfl rfl) ?_
  all_goals refine awpOps_cons (op_ext rfl rfl rfl) ?_
  all_goals refine awpOps_cons (op_extm rfl rfl rfl rfl) ?_
  all_goals refine awpOps_cons (op_extm rfl rfl rfl rfl) ?_
  all_goals refine awpOps_cons (op_alloc (o := 7) z61_WrldS rfl rfl) ?_
  all_goals refine awpOps_cons (op_as rfl (Conv.of rfl) rfl) ?_
  all_goals refine awpOps_cons (op_asl rfl rfl rfl rfl) ?_
  all_goals refine awpOps_cons (op_stm ty61_WrldS rfl rfl rfl) ?_
  all_goals refine awpOps_nil ?_
  all_goals refine awp_seq (awp_region (id := 2) ?_)
  all_goals refine awpOps_cons (op_mv rfl (Conv.of rfl) rfl) ?_
  all_goals refine awpOps_cons (op_callO fb33 (.cons rfl (Conv.of rfl) (.cons rfl (Conv.of rfl) (.nil _))) (pick_ct r1 4 (by unfold Far at hf; omega)) (olsk rfl ols0) (oksk (by exact obOk_cell) oks0) (oksk (by exact obOk_cell) oks0) rfl (argOb rfl rfl rfl (argOk' rfl rfl argO0)) (fun o ho => by cases ho) rfl) ?_
  all_goals refine awpOps_cons (op_add rfl rfl rfl (by omega)) ?_
  all_goals refine awpOps_cons (op_as rfl (Conv.of rfl) rfl) ?_
  all_goals refine awpOps_nil ?_
  all_goals refine awp_seq (awp_seq (awp_region (id := 3) ?_))
  all_goals refine awpOps_cons (op_mv rfl (Conv.of rfl) rfl) ?_
  all_goals refine awpOps_cons (op_mv rfl (Conv.of rfl) rfl) ?_
  all_goals refine awpOps_cons (op_eql rfl rfl rfl) ?_
  all_goals refine awpOps_nil ?_
  have hid := idF_bd (bad := bad) (q := 1 + pk r1 4) (by omega)
  refine awp_to (s' := mkSt 57 [(0, .box 0 (IsLens.whole Rd)), (2, .box 5 (IsLens.whole Nod)), (3, .box 6 (IsLens.whole Wrld)), (6, .box 7 (IsLens.whole WrldS)), (7, .v (idF bad (1 + pk r1 4)))] [(0, .cell (nx r1 1)), (1, .arr (w.nodes.map sN)), (7, .cell (sW w)), (5, .cell Nod.zero), (6, .cell Wrld.zero)]) ?_ ?_
  · refine awp_cond rfl (fun h => ?_) (fun h => ?_)
    · have ht4 := tmod_bd (show (0 : Int) ≤ 1 + pk r1 4 by omega) (show (0 : Int) < 4 by omega)
      all_goals refine awp_region (id := 4) ?_
      all_goals refine awpOps_cons (op_mv rfl (Conv.of rfl) rfl) ?_
      all_goals refine awpOps_cons (op_rem rfl rfl rfl (by decide)) ?_
      all_goals refine awpOps_cons (op_add rfl rfl rfl (by omega)) ?_
      all_goals refine awpOps_cons (op_as rfl (Conv.of rfl) rfl) ?_
      all_goals refine awpOps_nil ?_
      all_goals exact Le.mk rfl (tlb rfl rfl rfl (tlb rfl rfl rfl (tlb rfl rfl rfl (tlb rfl rfl rfl (tle rfl (by (show AV.v _ = AV.v _; congr 1; unfold idF; rw [if_pos (by simpa using (show (1 + pk r1 4 == bad) = true from h))])) rfl tln))))) (olk rfl (by exact obOk_cell) (olk rfl (by exact obOkNs) (olk rfl (by exact obOkS rfl) (olk rfl (by exact obOk_cell) (olk rfl (by exact obOk_cell) oln))))) (hS_sub (a := [(0, .cell r)]) rfl)
    · refine awp_skip ?_
      all_goals exact Le.mk rfl (tlb rfl rfl rfl (tlb rfl rfl rfl (tlb rfl rfl rfl (tlb rfl rfl rfl (tle rfl (by (show AV.v _ = AV.v _; congr 1; unfold idF; rw [if_neg (by simpa using (show (1 + pk r1 4 == bad) = false from h))])) rfl tln))))) (olk rfl (by exact obOk_cell) (olk rfl (by exact obOkNs) (olk rfl (by exact obOkS rfl) (olk rfl (by exact obOk_cell) (olk rfl (by exact obOk_cell) oln))))) (hS_sub (a := [(0, .cell r)]) rfl)
  generalize idF bad (1 + pk r1 4) = id at hid ⊢
  have hx : w.nodes[(id - 1).toNat]? = some (w.nodes[(id - 1).toNat]'(by omega)) := List.getElem?_eq_getElem (by omega)
  generalize w.nodes[(id - 1).toNat]'(by omega) = n at hx
  have hx' : (w.nodes.map sN)[(id - 1).toNat]? = some (sN n) := by rw [List.getElem?_map, hx]; rfl
  have hln := hw.ln (List.mem_of_getElem? hx)
  have hlep := hln.ep
  have hnl := hw.lw.sl n (List.mem_of_getElem? hx)
  have hv := voteD_p hf2 (by omega)
  have hvf := voteD_far (m' := 20062) hf2 (by omega) (by omega)
  by_cases hq1 : pk (nx r1 1) 24 = 1
  · all_goals refine awp_seq (awp_region (id := 5) ?_)
    all_goals refine awpOps_cons (op_fab f61_1_WrldS rfl rfl) ?_
    all_goals refine awpOps_cons (op_ld ty59_NRef rfl rfl rfl) ?_
    all_goals refine awpOps_cons (op_mv rfl (Conv.of rfl) rfl) ?_
    all_goals refine awpOps_cons (op_sub rfl rfl rfl (by omega)) ?_
    all_goals refine awpOps_cons (op_ixA sl59_NodS rfl rfl rfl rfl ⟨by omega, by simp; omega⟩) ?_
    all_goals refine awpOps_cons (op_ldme ty25_NodS rfl rfl hx' rfl) ?_
    all_goals refine awpOps_cons (op_alloc (o := 8) z25_NodS rfl rfl) ?_
    all_goals refine awpOps_cons (op_stm ty25_NodS rfl rfl rfl) ?_
    all_goals refine awpOps_nil ?_
    all_goals refine awp_seq (awp_seq (awp_region (id := 6) ?_))
    all_goals refine awpOps_cons (op_mv rfl (Conv.of rfl) rfl) ?_
    all_goals refine awpOps_cons (op_callO fb33 (.cons rfl (Conv.of rfl) (.cons rfl (Conv.of rfl) (.nil _))) (pick_ct (nx r1 1) 24 (by unfold Far at hf1; omega)) (olsk rfl ols0) (oksk (by exact obOk_cell) oks0) (oksk (by exact obOk_cell) oks0) rfl (argOb rfl rfl rfl (argOk' rfl rfl argO0)) (fun o ho => by cases ho) rfl) ?_
    all_goals refine awpOps_nil ?_
    rw [hq1]
    refine awp_to (s' := mkSt 57 [(0, .box 0 (IsLens.whole Rd)), (2, .box 5 (IsLens.whole Nod)), (3, .box 6 (IsLens.whole Wrld)), (6, .box 7 (IsLens.whole WrldS)), (8, .box 8 (IsLens.whole NodS))] [(0, .cell (voteDF (nx (nx r1 1) 1)).2), (1, .arr ((w.nodes.map sN).set (id - 1).toNat (fN n))), (7, .cell (sW w)), (8, .cell (sN { n with seen := n.seen ++ [(voteDF (nx (nx r1 1) 1)).1] })), (5, .cell Nod.zero), (6, .cell Wrld.zero)]) ?_ ?_
    · refine awp_block ?_
      all_goals refine awp_seq (awp_region (id := 7) ?_)
      all_goals refine awpOps_cons (op_eql rfl rfl rfl) ?_
      all_goals refine awpOps_cons (op_as rfl (Conv.of rfl) rfl) ?_
      all_goals refine awpOps_nil ?_
      refine awp_cond rfl (fun h => absurd h (by decide)) (fun h => ?_)
      all_goals refine awp_seq (awp_region (id := 9) ?_)
      all_goals refine awpOps_cons (op_eql rfl rfl rfl) ?_
      all_goals refine awpOps_cons (op_as rfl (Conv.of rfl) rfl) ?_
      all_goals refine awpOps_nil ?_
      refine awp_cond rfl (fun h => ?_) (fun h => absurd h (by decide))
      all_goals refine dr_start (id := 10) ?_
      all_goals refine dr_cons (op_fab f25_3_NodS rfl rfl) ?_
      all_goals refine dr_cons (op_ldm ty23_OListVote rfl rfl rfl) ?_
      all_goals refine dr_cons (op_mv rfl (Conv.of rfl) rfl) ?_
      all_goals refine dr_cons (op_callO fb32 (.cons rfl (Conv.of rfl) (.nil _)) (voteD_ct (nx (nx r1 1) 1) (hf2.weak (by omega))) (olsk rfl ols0) (oksk (by exact obOk_cell) oks0) (oksk (by exact obOk_cell) oks0) rfl (argOb rfl rfl rfl argO0) (fun o ho => by cases ho) rfl) ?_
      all_goals refine dr_cons (op_bsl sl23 z28 (.cons rfl (Conv.of rfl) (.nil _)) rfl (by decide) rfl) ?_
      all_goals refine dr_cons (op_app sl23 z28 ul23 rfl rfl rfl (by (simp [sN]; omega)) (by (simp [sN]; omega)) rfl rfl) ?_
      all_goals refine dr_cons (op_fab f25_3_NodS rfl rfl) ?_
      all_goals refine dr_cons (op_stm ty23_OListVote rfl rfl rfl) ?_
      all_goals refine dr_nil mixed rfl ?_
      all_goals exact Le.mk rfl (tlb rfl rfl rfl (tlb rfl rfl rfl (tlb rfl rfl rfl (tlb rfl rfl rfl (tlb rfl rfl rfl tln))))) (olk rfl (by exact obOk_cell) (olk rfl (by exact obOkNs) (olk rfl (by exact obOkS rfl) (olk rfl (by exact obOkN) (olk rfl (by exact obOk_cell) (olk rfl (by exact obOk_cell) oln)))))) (hS_sub (a := [(0, .cell r)]) rfl)
    refine awp_le (Le.trans (b := mkSt 57 [(6, .box 7 (IsLens.whole WrldS)), (0, .box 0 (IsLens.whole Rd)), (2, .box 5 (IsLens.whole Nod)), (3, .box 6 (IsLens.whole Wrld)), (8, .box 8 (IsLens.whole NodS))] [(7, .cell (WrldS.mk w.epoch (.ref 1) ⟨w.log, true⟩ w.bad)), (1, .arr ((w.nodes.map sN).set (id - 1).toNat (fN n))), (0, .cell (voteDF (nx (nx r1 1) 1)).2), (8, .cell (sN { n with seen := n.seen ++ [(voteDF (nx (nx r1 1) 1)).1] })), (5, .cell Nod.zero), (6, .cell Wrld.zero)]) (Le.mk rfl (tlb rfl rfl rfl (tlb rfl rfl rfl (tlb rfl rfl rfl (tlb rfl rfl rfl (tlb rfl rfl rfl tln))))) (olk rfl (by exact obOkS rfl) (olk rfl (by exact obOkNs) (olk rfl (by exact obOk_cell) (olk rfl (by exact obOkN) (olk rfl (by exact obOk_cell) (olk rfl (by exact obOk_cell) oln)))))) (hS_sub (a := [(0, .cell r)]) rfl)) (Le.frzWr (t := 6) (c := 7) (o := 1) (w0 := w) (own := true) (fun _ _ => arr_nF hx) (by show _ ≤ 4611686018427387904; omega) rfl (hS_sub rfl) rfl rfl rfl (oblk obOk_cell (oblk obOkN (oblk obOk_cell (oblk obOk_cell obl0)))))) ?_
    refine awp_le (Le.trans (b := mkSt 57 [(8, .box 8 (IsLens.whole NodS)), (6, .box 7 (IsLens.whole Wrld)), (0, .box 0 (IsLens.whole Rd)), (2, .box 5 (IsLens.whole Nod)), (3, .box 6 (IsLens.whole Wrld))] [(8, .cell (sN { n with seen := n.seen ++ [(voteDF (nx (nx r1 1) 1)).1] })), (7, .cell w), (0, .cell (voteDF (nx (nx r1 1) 1)).2), (5, .cell Nod.zero), (6, .cell Wrld.zero)]) (Le.mk rfl (tlb rfl rfl rfl (tlb rfl rfl rfl (tlb rfl rfl rfl (tlb rfl rfl rfl (tlb rfl rfl rfl tln))))) (olk rfl (by exact obOkN) (olk rfl (by exact obOk_cell) (olk rfl (by exact obOk_cell) (olk rfl (by exact obOk_cell) (olk rfl (by exact obOk_cell) oln))))) (hS_sub (a := [(0, .cell r)]) rfl)) (Le.recell (y := { n with seen := n.seen ++ [(voteDF (nx (nx r1 1) 1)).1] }) (fun G w ω cs hh => rd_SN hh))) ?_
    all_goals refine awp_seq (dr_start (id := 13) ?_)
    all_goals refine dr_cons (op_ld ty25_Nod rfl rfl rfl) ?_
    all_goals refine dr_cons (op_ld ty61_Wrld rfl rfl rfl) ?_
    all_goals refine dr_cons (op_st ty25_Nod rfl rfl (Conv.of rfl) rfl) ?_
    all_goals refine dr_cons (op_st ty61_Wrld rfl rfl (Conv.of rfl) rfl) ?_
    all_goals refine dr_nil mixed rfl ?_
    refine awp_ret ?_
    repeat first | refine rt_seq ?_ | refine rt_block ?_
    exact ⟨_, _, resN (ol := [(0, .cell (voteDF (nx (nx r1 1) 1)).2)]) (.cons (.rc ty25_Nod rfl rfl) (.cons (.rc ty61_Wrld rfl rfl) .nil)) rfl (fun o ho => absurd (show o ∈ ([] : List Nat) from ho) (by simp)) (olk rfl obOk_cell oln) (hS_sub rfl), _, _, _, rfl, rfl, ⟨hln.ep, by simp; omega, fun v hvv => by
      rcases List.mem_append.1 hvv with q | q
      · exact hln.sc v q
      · simp at q; subst q; omega⟩, hw, hvf.weak (by omega)⟩
  · refine awp_le (Le.trans (b := mkSt 57 [(6, .box 7 (IsLens.whole WrldS)), (0, .box 0 (IsLens.whole Rd)), (2, .box 5 (IsLens.whole Nod)), (3, .box 6 (IsLens.whole Wrld)), (7, .v id)] [(7, .cell (WrldS.mk w.epoch (.ref 1) ⟨w.log, true⟩ w.bad)), (1, .arr (w.nodes.map sN)), (0, .cell (nx r1 1)), (5, .cell Nod.zero), (6, .cell Wrld.zero)]) (Le.mk rfl (tlb rfl rfl rfl (tlb rfl rfl rfl (tlb rfl rfl rfl (tlb rfl rfl rfl (tle rfl (rfl) rfl tln))))) (olk rfl (by exact obOkS rfl) (olk rfl (by exact obOkNs) (olk rfl (by exact obOk_cell) (olk rfl (by exact obOk_cell) (olk rfl (by exact obOk_cell) oln))))) (hS_sub (a := [(0, .cell r)]) rfl)) (Le.frzW (t := 6) (c := 7) (o := 1) (w0 := w) (own := true) (by show _ ≤ 4611686018427387904; omega) rfl (hS_sub rfl) rfl rfl rfl (oblk obOk_cell (oblk obOk_cell (oblk obOk_cell obl0))))) ?_
    all_goals refine awp_seq (awp_region (id := 5) ?_)
    all_goals refine awpOps_cons (op_fab f61_1_Wrld rfl rfl) ?_
    all_goals refine awpOps_cons (op_ld ty59_ListNod rfl rfl rfl) ?_
    all_goals refine awpOps_cons (op_mv rfl (Conv.of rfl) rfl) ?_
    all_goals refine awpOps_cons (op_sub rfl rfl rfl (by omega)) ?_
    all_goals refine awpOps_cons (op_ix sl59 rfl rfl rfl (by omega) hx) ?_
    all_goals refine awpOps_cons (op_ldr ty25_Nod rfl rfl) ?_
    all_goals refine awpOps_cons (op_alloc (o := 8) z25_Nod rfl rfl) ?_
    all_goals refine awpOps_cons (op_st ty25_Nod rfl rfl (Conv.of rfl) rfl) ?_
    all_goals refine awpOps_nil ?_
    all_goals refine awp_seq (awp_seq (awp_region (id := 6) ?_))
    all_goals refine awpOps_cons (op_mv rfl (Conv.of rfl) rfl) ?_
    all_goals refine awpOps_cons (op_callO fb33 (.cons rfl (Conv.of rfl) (.cons rfl (Conv.of rfl) (.nil _))) (pick_ct (nx r1 1) 24 (by unfold Far at hf1; omega)) (olsk rfl ols0) (oksk (by exact obOk_cell) oks0) (oksk (by exact obOk_cell) oks0) rfl (argOb rfl rfl rfl (argOk' rfl rfl argO0)) (fun o ho => by cases ho) rfl) ?_
    all_goals refine awpOps_nil ?_
    generalize pk (nx r1 1) 24 = q at hq1 ⊢
    refine nx_seq (awp_to_ex (ι := Nod × Rd) (fun i => mkSt 57 [(0, .box 0 (IsLens.whole Rd)), (2, .box 5 (IsLens.whole Nod)), (3, .box 6 (IsLens.whole Wrld)), (6, .box 7 (IsLens.whole Wrld)), (8, .box 8 (IsLens.whole Nod))] [(0, .cell i.2), (7, .cell w), (8, .cell i.1), (5, .cell Nod.zero), (6, .cell Wrld.zero)]) (fun i => Ln i.1 ∧ Far 21000 i.2) ?_ ?_)
    · refine awp_block ?_
      all_goals refine awp_seq (awp_region (id := 7) ?_)
      all_goals refine awpOps_cons (op_eql rfl rfl rfl) ?_
      all_goals refine awpOps_cons (op_as rfl (Conv.of rfl) rfl) ?_
      all_goals refine awpOps_nil ?_
      refine awp_cond rfl (fun h => ?_) (fun h => ?_)
      · all_goals refine awp_region (id := 8) ?_
        all_goals refine awpOps_cons (op_fab f25_1_Nod rfl rfl) ?_
        all_goals refine awpOps_cons (op_ld ty3 rfl rfl rfl) ?_
        all_goals refine awpOps_cons (op_add rfl rfl rfl (by omega)) ?_
        all_goals refine awpOps_cons (op_fab f25_2_Nod rfl rfl) ?_
        all_goals refine awpOps_cons (op_st ty3 rfl rfl (Conv.of rfl) rfl) ?_
        all_goals refine awpOps_nil ?_
        repeat first | refine nx_seq ?_ | refine nx_block ?_
        exact ⟨({ n with voted := n.epoch + 1 }, nx (nx r1 1) 1), ⟨⟨hln.ep, hln.sl, hln.sc⟩, hf2.weak (by omega)⟩, Le.mk rfl (tlb rfl rfl rfl (tlb rfl rfl rfl (tlb rfl rfl rfl (tlb rfl rfl rfl (tlb rfl rfl rfl tln))))) (olk rfl (by exact obOk_cell) (olk rfl (by exact obOk_cell) (olk rfl (by exact obOk_cell) (olk rfl (by exact obOk_cell) (olk rfl (by exact obOk_cell) oln))))) (hS_sub (a := [(0, .cell r)]) rfl)⟩
      · all_goals refine awp_seq (awp_region (id := 9) ?_)
        all_goals refine awpOps_cons (op_eql rfl rfl rfl) ?_
        all_goals refine awpOps_cons (op_as rfl (Conv.of rfl) rfl) ?_
        all_goals refine awpOps_nil ?_
        refine awp_cond rfl (fun h2 => absurd (of_decide_eq_true h2) hq1) (fun h2 => ?_)
        all_goals refine awp_seq (awp_region (id := 11) ?_)
        all_goals refine awpOps_cons (op_eql rfl rfl rfl) ?_
        all_goals refine awpOps_cons (op_as rfl (Conv.of rfl) rfl) ?_
        all_goals refine awpOps_nil ?_
        refine awp_cond rfl (fun h3 => ?_) (fun h3 => ?_)
        · all_goals refine awp_region (id := 12) ?_
          all_goals refine awpOps_cons (op_bsl sl52 z3 (.cons rfl (Conv.of rfl) (.cons rfl (Conv.of rfl) (.cons rfl (Conv.of rfl) (.cons rfl (Conv.of rfl) (.nil _))))) rfl (by decide) rfl) ?_
          all_goals refine awpOps_cons (op_mv rfl (Conv.of rfl) rfl) ?_
          all_goals refine awpOps_cons (op_callO fb33 (.cons rfl (Conv.of rfl) (.cons rfl (Conv.of rfl) (.nil _))) (pick_ct (nx (nx r1 1) 1) 4 (by unfold Far at hf2; omega)) (olsk rfl ols0) (oksk (by exact obOk_cell) oks0) (oksk (by exact obOk_cell) oks0) rfl (argOb rfl rfl rfl (argOk' rfl rfl argO0)) (fun o ho => by cases ho) rfl) ?_
          all_goals refine awpOps_cons (op_ix sl52 rfl rfl rfl d5.1 g5) ?_
          all_goals refine awpOps_cons (op_ldr ty3 rfl rfl) ?_
          all_goals refine awpOps_cons (op_fab f25_0_Nod rfl rfl) ?_
          all_goals refine awpOps_cons (op_st ty3 rfl rfl (Conv.of rfl) rfl) ?_
          all_goals refine awpOps_nil ?_
          repeat first | refine nx_seq ?_ | refine nx_block ?_
          exact ⟨({ n with id := gi [0, 5, 1, 2] (pk (nx (nx r1 1) 1) 4) }, nx (nx (nx r1 1) 1) 1), ⟨⟨hln.ep, hln.sl, hln.sc⟩, hf3.weak (by omega)⟩, Le.mk rfl (tlb rfl rfl rfl (tlb rfl rfl rfl (tlb rfl rfl rfl (tlb rfl rfl rfl (tlb rfl rfl rfl tln))))) (olk rfl (by exact obOk_cell) (olk rfl (by exact obOk_cell) (olk rfl (by exact obOk_cell) (olk rfl (by exact obOk_cell) (olk rfl (by exact obOk_cell) oln))))) (hS_sub (a := [(0, .cell r)]) rfl)⟩
        · refine awp_skip ?_
          repeat first | refine nx_seq ?_ | refine nx_block ?_
          exact ⟨(n, nx (nx r1 1) 1), ⟨hln, hf2.weak (by omega)⟩, Le.mk rfl (tlb rfl rfl rfl (tlb rfl rfl rfl (tlb rfl rfl rfl (tlb rfl rfl rfl (tlb rfl rfl rfl tln))))) (olk rfl (by exact obOk_cell) (olk rfl (by exact obOk_cell) (olk rfl (by exact obOk_cell) (olk rfl (by exact obOk_cell) (olk rfl (by exact obOk_cell) oln))))) (hS_sub (a := [(0, .cell r)]) rfl)⟩
    · rintro ⟨m, r2⟩ ⟨hm, hr2⟩
      simp only at hm hr2 ⊢
      all_goals refine awp_seq (dr_start (id := 13) ?_)
      all_goals refine dr_cons (op_ld ty25_Nod rfl rfl rfl) ?_
      all_goals refine dr_cons (op_ld ty61_Wrld rfl rfl rfl) ?_
      all_goals refine dr_cons (op_st ty25_Nod rfl rfl (Conv.of rfl) rfl) ?_
      all_goals refine dr_cons (op_st ty61_Wrld rfl rfl (Conv.of rfl) rfl) ?_
      all_goals refine dr_nil mixed rfl ?_
      refine awp_ret ?_
      repeat first | refine rt_seq ?_ | refine rt_block ?_
      exact ⟨_, _, resN (ol := [(0, .cell r2)]) (.cons (.rc ty25_Nod rfl rfl) (.cons (.rc ty61_Wrld rfl rfl) .nil)) rfl (fun o ho => absurd (show o ∈ ([] : List Nat) from ho) (by simp)) (olk rfl obOk_cell oln) (hS_sub rfl), _, _, _, rfl, rfl, hm, hw, hr2⟩
end Go.Proofs.Ytmabpmlcclgecaa

/- The reference: drawn nodes and votes. -/
set_option linter.unusedVariables false
set_option linter.unusedSimpArgs false
namespace Go.Proofs.Ytmabpmlcclgecaa
open Go Go.Wt
set_option maxHeartbeats 4000000 in
theorem drawNodeHear_ct (code : List UInt8) : Ct Try.prog 8 [.v code] noObj (fun r1 h1 => ∃ (n : Nod) (v : Vote), r1 = .tup [.v n, .v v] ∧ h1 = noObj ∧ Ln n ∧ v.chain.length ≤ 1000) := by
  refine Ct.intro Try.func8 rfl rfl ?_
  all_goals first | refine awp_seq (awp_region (id := 0) ?_) | refine awp_seq (awp_seq (awp_region (id := 0) ?_)) | refine awp_region (id := 0) ?_ | refine awp_seq (awp_seq (awp_seq (awp_region (id := 0) ?_)))
  all_goals refine awpOps_cons (op_alloc (o := 5) z25 rfl rfl) ?_
  all_goals refine awpOps_cons (op_alloc (o := 6) z28 rfl rfl) ?_
  all_goals refine awpOps_nil ?_
  all_goals first | refine awp_seq (awp_region (id := 1) ?_) | refine awp_seq (awp_seq (awp_region (id := 1) ?_)) | refine awp_region (id := 1) ?_ | refine awp_seq (awp_seq (awp_seq (awp_region (id := 1) ?_)))
  all_goals first | refine awpOps_cons (op_mv rfl (Conv.of rfl) rfl) ?_ | refine awpOps_cons (op_mvl rfl rfl rfl rfl) ?_ | refine awpOps_cons (op_mvo rfl rfl rfl rfl) ?_
  refine awpOps_callO [] rfl fb30 (.cons rfl (Conv.of rfl) (.nil _)) (l6Open_ct code) ols0 oks0 (argOk' rfl rfl argO0) rfl ?_
  rintro r_ h' ⟨rfl, rfl⟩
  refine ⟨[(0, .cell (Rd.mk (code.take 2000) 0))], rfl, (fun o ho => by cases ho), fun o ho _ => ?_, oksk obOk_cell oks0, fun o ho => ?_, ?_⟩
  · have : o = 0 := by simpa [keys, lk0] using ho
    subst this; rfl
  · have : o = 0 := by simpa using (show o ∈ [0] from ho)
    subst this; rfl
  have hf0 : Far 1000 (Rd.mk (code.take 2000) 0) := ⟨by simp, by simp⟩
  generalize Rd.mk (code.take 2000) 0 = r0 at hf0 ⊢
  all_goals first | refine awpOps_cons (op_as rfl (Conv.of rfl) rfl) ?_ | refine awpOps_cons (op_asl rfl rfl rfl rfl) ?_ | refine awpOps_cons (op_aso rfl rfl rfl rfl) ?_
  all_goals refine awpOps_nil ?_
  all_goals first | refine awp_seq (awp_region (id := 2) ?_) | refine awp_seq (awp_seq (awp_region (id := 2) ?_)) | refine awp_region (id := 2) ?_ | refine awp_seq (awp_seq (awp_seq (awp_region (id := 2) ?_)))
  all_goals first | refine awpOps_cons (op_mv rfl (Conv.of rfl) rfl) ?_ | refine awpOps_cons (op_mvl rfl rfl rfl rfl) ?_ | refine awpOps_cons (op_mvo rfl rfl rfl rfl) ?_
  refine awpOps_callE (ι := Nod × Wrld × Rd) [(0, .cell r0)] (fun i => .tup [.v i.1, .v i.2.1]) (fun i => [(0, .cell i.2.2)]) (fun i => Ln i.1 ∧ FineX i.2.1 ∧ Far 21000 i.2.2) rfl fb31 (.cons rfl (Conv.of rfl) (.nil _)) (l72Node_ct r0 hf0) (fun r h' ⟨n, w, r', e1, e2, e3, e4, e5⟩ => ⟨(n, w, r'), e1, e2, e3, e4, e5⟩) (olsk rfl ols0) (oksk obOk_cell oks0) (argOb rfl rfl rfl argO0) rfl (fun i => rfl) (fun i => oksk obOk_cell oks0) (fun i o ho => by cases ho) ?_
  rintro ⟨n, w, r1⟩ ⟨hn, hw, hf1⟩
  simp only at hn hw hf1 ⊢
  have hv := voteD_p hf1 (by omega)
  have hf2 := voteD_far (m' := 21060) hf1 (by omega) (by omega)
  have hll := hw.lw.ll
  have hlc := hw.lw.lc
  all_goals first | refine awpOps_cons (op_mv rfl (Conv.of rfl) rfl) ?_ | refine awpOps_cons (op_mvl rfl rfl rfl rfl) ?_ | refine awpOps_cons (op_mvo rfl rfl rfl rfl) ?_
  all_goals refine awpOps_cons (op_ext rfl rfl rfl) ?_
  all_goals refine awpOps_cons (op_ext rfl rfl rfl) ?_
  all_goals refine awpOps_cons (op_alloc (o := 7) z25 rfl rfl) ?_
  all_goals refine awpOps_cons (op_alloc (o := 8) z61 rfl rfl) ?_
  all_goals first | refine awpOps_cons (op_st ty25 rfl rfl (Conv.of rfl) rfl) ?_ | refine awpOps_cons (op_ste ty25 rfl rfl (Conv.of rfl) rfl (by assumption)) ?_ | refine awpOps_cons (op_stm ty25 rfl rfl rfl) ?_ | refine awpOps_cons (op_stme ty25 rfl rfl rfl (by assumption)) ?_
  all_goals first | refine awpOps_cons (op_st ty61 rfl rfl (Conv.of rfl) rfl) ?_ | refine awpOps_cons (op_ste ty61 rfl rfl (Conv.of rfl) rfl (by assumption)) ?_ | refine awpOps_cons (op_stm ty61 rfl rfl rfl) ?_ | refine awpOps_cons (op_stme ty61 rfl rfl rfl (by assumption)) ?_
  all_goals refine awpOps_nil ?_
  all_goals first | refine awp_seq (awp_region (id := 3) ?_) | refine awp_seq (awp_seq (awp_region (id := 3) ?_)) | refine awp_region (id := 3) ?_ | refine awp_seq (awp_seq (awp_seq (awp_region (id := 3) ?_)))
  all_goals first | refine awpOps_cons (op_mv rfl (Conv.of rfl) rfl) ?_ | refine awpOps_cons (op_mvl rfl rfl rfl rfl) ?_ | refine awpOps_cons (op_mvo rfl rfl rfl rfl) ?_
  all_goals refine awpOps_cons (op_callO fb32 (.cons rfl (Conv.of rfl) (.nil _)) (voteD_ct r1 (hf1.weak (by omega))) (olsk rfl ols0) (oksk (by first | exact obOk_cell | exact obOk_arr | exact obOkW rfl | exact obOkW0 | exact obOkN | exact obOkS rfl | exact obOkNs | exact obOkS0 | trivial) oks0) (oksk (by first | exact obOk_cell | exact obOk_arr | exact obOkW rfl | exact obOkW0 | exact obOkN | exact obOkS rfl | exact obOkNs | exact obOkS0 | trivial) oks0) rfl (argOb rfl rfl rfl argO0) (fun o ho => by cases ho) rfl) ?_
  all_goals refine awpOps_cons (op_alloc (o := 9) z28 rfl rfl) ?_
  all_goals first | refine awpOps_cons (op_st ty28 rfl rfl (Conv.of rfl) rfl) ?_ | refine awpOps_cons (op_ste ty28 rfl rfl (Conv.of rfl) rfl (by assumption)) ?_ | refine awpOps_cons (op_stm ty28 rfl rfl rfl) ?_ | refine awpOps_cons (op_stme ty28 rfl rfl rfl (by assumption)) ?_
  all_goals refine awpOps_nil ?_
  generalize (voteDF r1).1 = v at hv ⊢
  generalize (voteDF r1).2 = r2 at hf2 hv ⊢
  have hv8 : v.chain.length ≤ 30 := by omega
  clear hv
  have hk1 := pk_bd hf2 (by omega) 3
  have hf3 : Far 21061 (nx r2 1) := hf2.nx (by omega) (by omega)
  refine awp_seq_ex (ι := Vote × Rd) (fun i => mkSt 70 [(4, .box 0 (IsLens.whole Rd)), (2, .box 5 (IsLens.whole Nod)), (3, .box 6 (IsLens.whole Vote)), (5, .box 7 (IsLens.whole Nod)), (7, .box 9 (IsLens.whole Vote))] [(0, .cell i.2), (5, .cell Nod.zero), (6, .cell Vote.zero), (7, .cell n), (9, .cell i.1)]) (fun i => i.1.chain.length ≤ 30 ∧ Far 21062 i.2) ?_ ?_
  · all_goals first | refine awp_seq (awp_region (id := 4) ?_) | refine awp_seq (awp_seq (awp_region (id := 4) ?_)) | refine awp_region (id := 4) ?_ | refine awp_seq (awp_seq (awp_seq (awp_region (id := 4) ?_)))
    all_goals first | refine awpOps_cons (op_fab f61_2 rfl rfl) ?_ | refine awpOps_cons (op_far f61_2 rfl rfl) ?_ | refine awpOps_cons (op_fae f61_2 rfl rfl) ?_
    all_goals first | refine awpOps_cons (op_ld ty23 rfl rfl rfl) ?_ | refine awpOps_cons (op_ldr ty23 rfl rfl) ?_ | refine awpOps_cons (op_lde ty23 rfl rfl (by assumption) rfl) ?_ | refine awpOps_cons (op_ldl ty23 rfl rfl rfl) ?_ | refine awpOps_cons (op_ldd ty23 rfl rfl rfl) ?_ | refine awpOps_cons (op_ldde ty23 rfl rfl (by assumption) rfl) ?_
    all_goals first | refine awpOps_cons (op_len sl23 rfl rfl) ?_ | refine awpOps_cons (op_lenA sl23 rfl rfl rfl) ?_
    all_goals refine awpOps_cons (op_gtr rfl rfl rfl) ?_
    all_goals first | refine awpOps_cons (op_mv rfl (Conv.of rfl) rfl) ?_ | refine awpOps_cons (op_mvl rfl rfl rfl rfl) ?_ | refine awpOps_cons (op_mvo rfl rfl rfl rfl) ?_
    all_goals first | refine g_lit (t := 21) (b := true) rfl ?_ | refine g_lit (t := 21) (b := false) rfl ?_ | refine g_ulit (t := 21) rfl ?_ | refine g_split (t := 21) rfl (fun h => ?_) (fun h => ?_)
    all_goals first | refine awpOps_cons (g_off rfl rfl rfl rfl rfl) ?_ | refine awpOps_cons (g_und rfl rfl rfl) ?_ | refine awpOps_cons (g_on rfl rfl rfl (op_mv rfl (Conv.of rfl) rfl)) ?_ | refine awpOps_cons (g_on rfl rfl rfl (op_mvl rfl rfl rfl rfl)) ?_ | refine awpOps_cons (g_on rfl rfl rfl (op_mvo rfl rfl rfl rfl)) ?_
    all_goals first | refine awpOps_cons (g_off rfl rfl rfl rfl rfl) ?_ | refine awpOps_cons (g_und rfl rfl rfl) ?_ | refine awpOps_cons (g_on rfl rfl rfl (op_callO fb33 (.cons rfl (Conv.of rfl) (.cons rfl (Conv.of rfl) (.nil _))) (pick_ct r2 3 (by unfold Far at hf2; omega)) (olsk rfl ols0) (oksk (by first | exact obOk_cell | exact obOk_arr | exact obOkW rfl | exact obOkW0 | exact obOkN | exact obOkS rfl | exact obOkNs | exact obOkS0 | trivial) oks0) (oksk (by first | exact obOk_cell | exact obOk_arr | exact obOkW rfl | exact obOkW0 | exact obOkN | exact obOkS rfl | exact obOkNs | exact obOkS0 | trivial) oks0) rfl (argOb rfl rfl rfl (argOk' rfl rfl argO0)) (fun o ho => by cases ho) rfl)) ?_
    all_goals first | refine awpOps_cons (g_off rfl rfl rfl rfl rfl) ?_ | refine awpOps_cons (g_und rfl rfl rfl) ?_ | refine awpOps_cons (g_on rfl rfl rfl (op_gtr rfl rfl rfl)) ?_
    all_goals refine awpOps_cons (op_pick rfl rfl rfl rfl) ?_
    all_goals refine awpOps_nil ?_
    · first | refine awp_seq (awp_cond rfl (fun h2 => ?_) (fun h2 => ?_)) | refine awp_seq (awp_seq (awp_cond rfl (fun h2 => ?_) (fun h2 => ?_))) | refine awp_cond rfl (fun h2 => ?_) (fun h2 => ?_) | refine awp_seq (awp_seq (awp_seq (awp_cond rfl (fun h2 => ?_) (fun h2 => ?_))))
      · have hlg : 0 < w.log.length := by have h0 : (w.log.length : Int) > 0 := of_decide_eq_true h; omega
        have hk2 := pk_bd hf3 (by omega) (w.log.length : Int)
        have hk3 := hk2.2 (by omega)
        have hx : w.log[(pk (nx r2 1) (w.log.length : Int)).toNat]? = some (w.log[(pk (nx r2 1) (w.log.length : Int)).toNat]'(by omega)) := List.getElem?_eq_getElem (by omega)
        generalize w.log[(pk (nx r2 1) (w.log.length : Int)).toNat]'(by omega) = u at hx
        have huc := hlc u (List.mem_of_getElem? hx)
        all_goals first | refine awp_seq (dr_start (id := 5) ?_) | refine awp_seq (awp_seq (dr_start (id := 5) ?_)) | refine dr_start (id := 5) ?_ | refine awp_seq (awp_seq (awp_seq (dr_start (id := 5) ?_)))
        all_goals first | refine dr_cons (op_fab f61_2 rfl rfl) ?_ | refine dr_cons (op_far f61_2 rfl rfl) ?_ | refine dr_cons (op_fae f61_2 rfl rfl) ?_
        all_goals first | refine dr_cons (op_ld ty23 rfl rfl rfl) ?_ | refine dr_cons (op_ldr ty23 rfl rfl) ?_ | refine dr_cons (op_lde ty23 rfl rfl (by assumption) rfl) ?_ | refine dr_cons (op_ldl ty23 rfl rfl rfl) ?_ | refine dr_cons (op_ldd ty23 rfl rfl rfl) ?_ | refine dr_cons (op_ldde ty23 rfl rfl (by assumption) rfl) ?_
        all_goals first | refine dr_cons (op_mv rfl (Conv.of rfl) rfl) ?_ | refine dr_cons (op_mvl rfl rfl rfl rfl) ?_ | refine dr_cons (op_mvo rfl rfl rfl rfl) ?_
        all_goals first | refine dr_cons (op_fab f61_2 rfl rfl) ?_ | refine dr_cons (op_far f61_2 rfl rfl) ?_ | refine dr_cons (op_fae f61_2 rfl rfl) ?_
        all_goals first | refine dr_cons (op_ld ty23 rfl rfl rfl) ?_ | refine dr_cons (op_ldr ty23 rfl rfl) ?_ | refine dr_cons (op_lde ty23 rfl rfl (by assumption) rfl) ?_ | refine dr_cons (op_ldl ty23 rfl rfl rfl) ?_ | refine dr_cons (op_ldd ty23 rfl rfl rfl) ?_ | refine dr_cons (op_ldde ty23 rfl rfl (by assumption) rfl) ?_
        all_goals first | refine dr_cons (op_len sl23 rfl rfl) ?_ | refine dr_cons (op_lenA sl23 rfl rfl rfl) ?_
        all_goals refine dr_cons (op_callO fb33 (.cons rfl (Conv.of rfl) (.cons rfl (Conv.of rfl) (.nil _))) (pick_ct (nx r2 1) (w.log.length : Int) (by unfold Far at hf3; omega)) (olsk rfl ols0) (oksk (by first | exact obOk_cell | exact obOk_arr | exact obOkW rfl | exact obOkW0 | exact obOkN | exact obOkS rfl | exact obOkNs | exact obOkS0 | trivial) oks0) (oksk (by first | exact obOk_cell | exact obOk_arr | exact obOkW rfl | exact obOkW0 | exact obOkN | exact obOkS rfl | exact obOkNs | exact obOkS0 | trivial) oks0) rfl (argOb rfl rfl rfl (argOk' rfl rfl argO0)) (fun o ho => by cases ho) rfl) ?_
        all_goals first | refine dr_cons (op_ix sl23 rfl rfl rfl hk2.1 hx) ?_ | refine dr_cons (op_ixA sl23 rfl rfl rfl rfl (by omega)) ?_
        all_goals first | refine dr_cons (op_ld ty28 rfl rfl rfl) ?_ | refine dr_cons (op_ldr ty28 rfl rfl) ?_ | refine dr_cons (op_lde ty28 rfl rfl (by assumption) rfl) ?_ | refine dr_cons (op_ldl ty28 rfl rfl rfl) ?_ | refine dr_cons (op_ldd ty28 rfl rfl rfl) ?_ | refine dr_cons (op_ldde ty28 rfl rfl (by assumption) rfl) ?_
        all_goals first | refine dr_cons (op_st ty28 rfl rfl (Conv.of rfl) rfl) ?_ | refine dr_cons (op_ste ty28 rfl rfl (Conv.of rfl) rfl (by assumption)) ?_ | refine dr_cons (op_stm ty28 rfl rfl rfl) ?_ | refine dr_cons (op_stme ty28 rfl rfl rfl (by assumption)) ?_
        all_goals refine dr_nil mixed rfl ?_
        exact nx_seq ⟨(u, nx (nx r2 1) 1), ⟨huc, hf3.nx (by omega) (by omega)⟩, Le.mk rfl (tlb rfl rfl rfl (tlb rfl rfl rfl (tlb rfl rfl rfl (tlb rfl rfl rfl (tlb rfl rfl rfl tln))))) (olk rfl (by first | exact obOk_cell | exact obOk_arr | exact obOkW rfl | exact obOkW0 | exact obOkN | exact obOkS rfl | exact obOkNs | exact obOkS0 | trivial) (olk rfl (by first | exact obOk_cell | exact obOk_arr | exact obOkW rfl | exact obOkW0 | exact obOkN | exact obOkS rfl | exact obOkNs | exact obOkS0 | trivial) (olk rfl (by first | exact obOk_cell | exact obOk_arr | exact obOkW rfl | exact obOkW0 | exact obOkN | exact obOkS rfl | exact obOkNs | exact obOkS0 | trivial) (olk rfl (by first | exact obOk_cell | exact obOk_arr | exact obOkW rfl | exact obOkW0 | exact obOkN | exact obOkS rfl | exact obOkNs | exact obOkS0 | trivial) (olk rfl (by first | exact obOk_cell | exact obOk_arr | exact obOkW rfl | exact obOkW0 | exact obOkN | exact obOkS rfl | exact obOkNs | exact obOkS0 | trivial) oln))))) noS⟩
      · refine awp_skip ?_
        exact nx_seq ⟨(v, nx r2 1), ⟨hv8, hf3.weak (by omega)⟩, Le.mk rfl (tlb rfl rfl rfl (tlb rfl rfl rfl (tlb rfl rfl rfl (tlb rfl rfl rfl (tlb rfl rfl rfl tln))))) (olk rfl (by first | exact obOk_cell | exact obOk_arr | exact obOkW rfl | exact obOkW0 | exact obOkN | exact obOkS rfl | exact obOkNs | exact obOkS0 | trivial) (olk rfl (by first | exact obOk_cell | exact obOk_arr | exact obOkW rfl | exact obOkW0 | exact obOkN | exact obOkS rfl | exact obOkNs | exact obOkS0 | trivial) (olk rfl (by first | exact obOk_cell | exact obOk_arr | exact obOkW rfl | exact obOkW0 | exact obOkN | exact obOkS rfl | exact obOkNs | exact obOkS0 | trivial) (olk rfl (by first | exact obOk_cell | exact obOk_arr | exact obOkW rfl | exact obOkW0 | exact obOkN | exact obOkS rfl | exact obOkNs | exact obOkS0 | trivial) (olk rfl (by first | exact obOk_cell | exact obOk_arr | exact obOkW rfl | exact obOkW0 | exact obOkN | exact obOkS rfl | exact obOkNs | exact obOkS0 | trivial) oln))))) noS⟩
    · first | refine awp_seq (awp_cond rfl (fun h2 => absurd h2 (by decide)) (fun h2 => ?_)) | refine awp_seq (awp_seq (awp_cond rfl (fun h2 => absurd h2 (by decide)) (fun h2 => ?_))) | refine awp_cond rfl (fun h2 => absurd h2 (by decide)) (fun h2 => ?_) | refine awp_seq (awp_seq (awp_seq (awp_cond rfl (fun h2 => absurd h2 (by decide)) (fun h2 => ?_))))
      refine awp_skip ?_
      exact nx_seq ⟨(v, r2), ⟨hv8, hf2.weak (by omega)⟩, Le.mk rfl (tlb rfl rfl rfl (tlb rfl rfl rfl (tlb rfl rfl rfl (tlb rfl rfl rfl (tlb rfl rfl rfl tln))))) (olk rfl (by first | exact obOk_cell | exact obOk_arr | exact obOkW rfl | exact obOkW0 | exact obOkN | exact obOkS rfl | exact obOkNs | exact obOkS0 | trivial) (olk rfl (by first | exact obOk_cell | exact obOk_arr | exact obOkW rfl | exact obOkW0 | exact obOkN | exact obOkS rfl | exact obOkNs | exact obOkS0 | trivial) (olk rfl (by first | exact obOk_cell | exact obOk_arr | exact obOkW rfl | exact obOkW0 | exact obOkN | exact obOkS rfl | exact obOkNs | exact obOkS0 | trivial) (olk rfl (by first | exact obOk_cell | exact obOk_arr | exact obOkW rfl | exact obOkW0 | exact obOkN | exact obOkS rfl | exact obOkNs | exact obOkS0 | trivial) (olk rfl (by first | exact obOk_cell | exact obOk_arr | exact obOkW rfl | exact obOkW0 | exact obOkN | exact obOkS rfl | exact obOkNs | exact obOkS0 | trivial) oln))))) noS⟩
  · rintro ⟨u, r3⟩ ⟨hu, hf4⟩
    simp only at hu hf4 ⊢
    have hf5 : Far 21063 (nx r3 1) := hf4.nx (by omega) (by omega)
    refine awp_seq_ex (ι := Nod × Vote) (fun i => mkSt 70 [(2, .box 5 (IsLens.whole Nod)), (3, .box 6 (IsLens.whole Vote)), (5, .box 7 (IsLens.whole Nod)), (7, .box 9 (IsLens.whole Vote))] [(5, .cell Nod.zero), (6, .cell Vote.zero), (7, .cell i.1), (9, .cell i.2)]) (fun i => Ln i.1 ∧ i.2.chain.length ≤ 1000) ?_ ?_
    · first | refine awp_seq (awp_seq (awp_seq (awp_seq_to (s' := mkSt 70 [(4, .box 0 (IsLens.whole Rd)), (2, .box 5 (IsLens.whole Nod)), (3, .box 6 (IsLens.whole Vote)), (5, .box 7 (IsLens.whole Nod)), (7, .box 9 (IsLens.whole Vote)), (46, .v (decide (pk r3 2 = 0) && nodeOk n && decide (n.epoch < 30)))] [(0, .cell (nx r3 1)), (5, .cell Nod.zero), (6, .cell Vote.zero), (7, .cell n), (9, .cell u)]) ?_ ?_))) | refine awp_seq (awp_seq (awp_seq_to (s' := mkSt 70 [(4, .box 0 (IsLens.whole Rd)), (2, .box 5 (IsLens.whole Nod)), (3, .box 6 (IsLens.whole Vote)), (5, .box 7 (IsLens.whole Nod)), (7, .box 9 (IsLens.whole Vote)), (46, .v (decide (pk r3 2 = 0) && nodeOk n && decide (n.epoch < 30)))] [(0, .cell (nx r3 1)), (5, .cell Nod.zero), (6, .cell Vote.zero), (7, .cell n), (9, .cell u)]) ?_ ?_)) | refine awp_seq (awp_seq_to (s' := mkSt 70 [(4, .box 0 (IsLens.whole Rd)), (2, .box 5 (IsLens.whole Nod)), (3, .box 6 (IsLens.whole Vote)), (5, .box 7 (IsLens.whole Nod)), (7, .box 9 (IsLens.whole Vote)), (46, .v (decide (pk r3 2 = 0) && nodeOk n && decide (n.epoch < 30)))] [(0, .cell (nx r3 1)), (5, .cell Nod.zero), (6, .cell Vote.zero), (7, .cell n), (9, .cell u)]) ?_ ?_) | refine awp_seq_to (s' := mkSt 70 [(4, .box 0 (IsLens.whole Rd)), (2, .box 5 (IsLens.whole Nod)), (3, .box 6 (IsLens.whole Vote)), (5, .box 7 (IsLens.whole Nod)), (7, .box 9 (IsLens.whole Vote)), (46, .v (decide (pk r3 2 = 0) && nodeOk n && decide (n.epoch < 30)))] [(0, .cell (nx r3 1)), (5, .cell Nod.zero), (6, .cell Vote.zero), (7, .cell n), (9, .cell u)]) ?_ ?_ | refine awp_toB (s' := mkSt 70 [(4, .box 0 (IsLens.whole Rd)), (2, .box 5 (IsLens.whole Nod)), (3, .box 6 (IsLens.whole Vote)), (5, .box 7 (IsLens.whole Nod)), (7, .box 9 (IsLens.whole Vote)), (46, .v (decide (pk r3 2 = 0) && nodeOk n && decide (n.epoch < 30)))] [(0, .cell (nx r3 1)), (5, .cell Nod.zero), (6, .cell Vote.zero), (7, .cell n), (9, .cell u)]) ?_ ?_ | refine awp_to (s' := mkSt 70 [(4, .box 0 (IsLens.whole Rd)), (2, .box 5 (IsLens.whole Nod)), (3, .box 6 (IsLens.whole Vote)), (5, .box 7 (IsLens.whole Nod)), (7, .box 9 (IsLens.whole Vote)), (46, .v (decide (pk r3 2 = 0) && nodeOk n && decide (n.epoch < 30)))] [(0, .cell (nx r3 1)), (5, .cell Nod.zero), (6, .cell Vote.zero), (7, .cell n), (9, .cell u)]) ?_ ?_
      · all_goals first | refine awp_seq (awp_region (id := 6) ?_) | refine awp_seq (awp_seq (awp_region (id := 6) ?_)) | refine awp_region (id := 6) ?_ | refine awp_seq (awp_seq (awp_seq (awp_region (id := 6) ?_)))
        all_goals first | refine awpOps_cons (op_mv rfl (Conv.of rfl) rfl) ?_ | refine awpOps_cons (op_mvl rfl rfl rfl rfl) ?_ | refine awpOps_cons (op_mvo rfl rfl rfl rfl) ?_
        all_goals refine awpOps_cons (op_callO fb33 (.cons rfl (Conv.of rfl) (.cons rfl (Conv.of rfl) (.nil _))) (pick_ct r3 2 (by unfold Far at hf4; omega)) (olsk rfl ols0) (oksk (by first | exact obOk_cell | exact obOk_arr | exact obOkW rfl | exact obOkW0 | exact obOkN | exact obOkS rfl | exact obOkNs | exact obOkS0 | trivial) oks0) (oksk (by first | exact obOk_cell | exact obOk_arr | exact obOkW rfl | exact obOkW0 | exact obOkN | exact obOkS rfl | exact obOkNs | exact obOkS0 | trivial) oks0) rfl (argOb rfl rfl rfl (argOk' rfl rfl argO0)) (fun o ho => by cases ho) rfl) ?_
        all_goals refine awpOps_cons (op_eql rfl rfl rfl) ?_
        all_goals first | refine awpOps_cons (op_mv rfl (Conv.of rfl) rfl) ?_ | refine awpOps_cons (op_mvl rfl rfl rfl rfl) ?_ | refine awpOps_cons (op_mvo rfl rfl rfl rfl) ?_
        all_goals first | refine g_lit (t := 38) (b := true) rfl ?_ | refine g_lit (t := 38) (b := false) rfl ?_ | refine g_ulit (t := 38) rfl ?_ | refine g_split (t := 38) rfl (fun h => ?_) (fun h => ?_)
        all_goals first | refine awpOps_cons (g_off rfl rfl rfl rfl rfl) ?_ | refine awpOps_cons (g_und rfl rfl rfl) ?_ | refine awpOps_cons (g_on rfl rfl rfl (op_ld ty25 rfl rfl rfl)) ?_ | refine awpOps_cons (g_on rfl rfl rfl (op_ldr ty25 rfl rfl)) ?_ | refine awpOps_cons (g_on rfl rfl rfl (op_lde ty25 rfl rfl (by assumption) rfl)) ?_ | refine awpOps_cons (g_on rfl rfl rfl (op_ldl ty25 rfl rfl rfl)) ?_ | refine awpOps_cons (g_on rfl rfl rfl (op_ldd ty25 rfl rfl rfl)) ?_ | refine awpOps_cons (g_on rfl rfl rfl (op_ldde ty25 rfl rfl (by assumption) rfl)) ?_
        all_goals first | refine awpOps_cons (g_off rfl rfl rfl rfl rfl) ?_ | refine awpOps_cons (g_und rfl rfl rfl) ?_ | refine awpOps_cons (g_on rfl rfl rfl (op_call fb18 (.cons rfl (Conv.of rfl) (.nil _)) (sNodeOk_ct n) (argOk rfl rfl argOk0) rfl rfl)) ?_
        all_goals refine awpOps_cons (op_pick rfl rfl rfl rfl) ?_
        all_goals first | refine awpOps_cons (op_mv rfl (Conv.of rfl) rfl) ?_ | refine awpOps_cons (op_mvl rfl rfl rfl rfl) ?_ | refine awpOps_cons (op_mvo rfl rfl rfl rfl) ?_
        all_goals first | refine g_lit (t := 42) (b := true) rfl ?_ | refine g_lit (t := 42) (b := false) rfl ?_ | refine g_ulit (t := 42) rfl ?_ | refine g_split (t := 42) rfl (fun h => ?_) (fun h => ?_)
        all_goals first | refine awpOps_cons (g_off rfl rfl rfl rfl rfl) ?_ | refine awpOps_cons (g_und rfl rfl rfl) ?_ | refine awpOps_cons (g_on rfl rfl rfl (op_fab f25_1 rfl rfl)) ?_ | refine awpOps_cons (g_on rfl rfl rfl (op_far f25_1 rfl rfl)) ?_ | refine awpOps_cons (g_on rfl rfl rfl (op_fae f25_1 rfl rfl)) ?_
        all_goals first | refine awpOps_cons (g_off rfl rfl rfl rfl rfl) ?_ | refine awpOps_cons (g_und rfl rfl rfl) ?_ | refine awpOps_cons (g_on rfl rfl rfl (op_ld ty3 rfl rfl rfl)) ?_ | refine awpOps_cons (g_on rfl rfl rfl (op_ldr ty3 rfl rfl)) ?_ | refine awpOps_cons (g_on rfl rfl rfl (op_lde ty3 rfl rfl (by assumption) rfl)) ?_ | refine awpOps_cons (g_on rfl rfl rfl (op_ldl ty3 rfl rfl rfl)) ?_ | refine awpOps_cons (g_on rfl rfl rfl (op_ldd ty3 rfl rfl rfl)) ?_ | refine awpOps_cons (g_on rfl rfl rfl (op_ldde ty3 rfl rfl (by assumption) rfl)) ?_
        all_goals first | refine awpOps_cons (g_off rfl rfl rfl rfl rfl) ?_ | refine awpOps_cons (g_und rfl rfl rfl) ?_ | refine awpOps_cons (g_on rfl rfl rfl (op_lss rfl rfl rfl)) ?_
        all_goals refine awpOps_cons (op_pick rfl rfl rfl rfl) ?_
        all_goals refine awpOps_nil ?_
        all_goals exact Le.mk rfl (tlb rfl rfl rfl (tlb rfl rfl rfl (tlb rfl rfl rfl (tlb rfl rfl rfl (tlb rfl rfl rfl (tle rfl (by first | rfl | (have e1 : ∀ b : Bool, Enc.dis b = b := fun _ => rfl; show AV.v _ = AV.v _; simp_all; try omega)) rfl tln)))))) (olk rfl (by first | exact obOk_cell | exact obOk_arr | exact obOkW rfl | exact obOkW0 | exact obOkN | exact obOkS rfl | exact obOkNs | exact obOkS0 | trivial) (olk rfl (by first | exact obOk_cell | exact obOk_arr | exact obOkW rfl | exact obOkW0 | exact obOkN | exact obOkS rfl | exact obOkNs | exact obOkS0 | trivial) (olk rfl (by first | exact obOk_cell | exact obOk_arr | exact obOkW rfl | exact obOkW0 | exact obOkN | exact obOkS rfl | exact obOkNs | exact obOkS0 | trivial) (olk rfl (by first | exact obOk_cell | exact obOk_arr | exact obOkW rfl | exact obOkW0 | exact obOkN | exact obOkS rfl | exact obOkNs | exact obOkS0 | trivial) (olk rfl (by first | exact obOk_cell | exact obOk_arr | exact obOkW rfl | exact obOkW0 | exact obOkN | exact obOkS rfl | exact obOkNs | exact obOkS0 | trivial) oln))))) noS
      first | refine awp_seq (awp_cond rfl (fun h2 => ?_) (fun h2 => ?_)) | refine awp_seq (awp_seq (awp_cond rfl (fun h2 => ?_) (fun h2 => ?_))) | refine awp_cond rfl (fun h2 => ?_) (fun h2 => ?_) | refine awp_seq (awp_seq (awp_seq (awp_cond rfl (fun h2 => ?_) (fun h2 => ?_))))
      · have hlt : n.epoch < 30 := by simp at h2; exact h2.2
        have hep := hn.ep
        have hep2 : (enterF n (n.epoch + 1)).epoch = n.epoch + 1 := by unfold enterF; rw [if_pos (by simp [within]; omega)]
        have hse : (enterF n (n.epoch + 1)).seen = n.seen := by unfold enterF; split <;> rfl
        all_goals first | refine awp_seq (awp_region (id := 7) ?_) | refine awp_seq (awp_seq (awp_region (id := 7) ?_)) | refine awp_region (id := 7) ?_ | refine awp_seq (awp_seq (awp_seq (awp_region (id := 7) ?_)))
        all_goals first | refine awpOps_cons (op_ld ty25 rfl rfl rfl) ?_ | refine awpOps_cons (op_ldr ty25 rfl rfl) ?_ | refine awpOps_cons (op_lde ty25 rfl rfl (by assumption) rfl) ?_ | refine awpOps_cons (op_ldl ty25 rfl rfl rfl) ?_ | refine awpOps_cons (op_ldd ty25 rfl rfl rfl) ?_ | refine awpOps_cons (op_ldde ty25 rfl rfl (by assumption) rfl) ?_
        all_goals first | refine awpOps_cons (op_fab f25_1 rfl rfl) ?_ | refine awpOps_cons (op_far f25_1 rfl rfl) ?_ | refine awpOps_cons (op_fae f25_1 rfl rfl) ?_
        all_goals first | refine awpOps_cons (op_ld ty3 rfl rfl rfl) ?_ | refine awpOps_cons (op_ldr ty3 rfl rfl) ?_ | refine awpOps_cons (op_lde ty3 rfl rfl (by assumption) rfl) ?_ | refine awpOps_cons (op_ldl ty3 rfl rfl rfl) ?_ | refine awpOps_cons (op_ldd ty3 rfl rfl rfl) ?_ | refine awpOps_cons (op_ldde ty3 rfl rfl (by assumption) rfl) ?_
        all_goals refine awpOps_cons (op_add rfl rfl rfl (by omega)) ?_
        all_goals refine awpOps_cons (op_call fb34 (.cons rfl (Conv.of rfl) (.cons rfl (Conv.of rfl) (.nil _))) (l12EnterP_ct n (n.epoch + 1) hn.ep) (argOk rfl rfl (argOk rfl rfl argOk0)) rfl rfl) ?_
        all_goals first | refine awpOps_cons (op_st ty25 rfl rfl (Conv.of rfl) rfl) ?_ | refine awpOps_cons (op_ste ty25 rfl rfl (Conv.of rfl) rfl (by assumption)) ?_ | refine awpOps_cons (op_stm ty25 rfl rfl rfl) ?_ | refine awpOps_cons (op_stme ty25 rfl rfl rfl (by assumption)) ?_
        all_goals refine awpOps_nil ?_
        have hm : Ln (enterF n (n.epoch + 1)) := ⟨by omega, by rw [hse]; exact hn.sl, by rw [hse]; exact hn.sc⟩
        generalize enterF n (n.epoch + 1) = m at hm ⊢
        have hmep := hm.ep
        have hmsl := hm.sl
        have htl := tipS_len hm.sc
        all_goals first | refine awp_seq (dr_start (id := 8) ?_) | refine awp_seq (awp_seq (dr_start (id := 8) ?_)) | refine dr_start (id := 8) ?_ | refine awp_seq (awp_seq (awp_seq (dr_start (id := 8) ?_)))
        all_goals first | refine dr_cons (op_fab f25_1 rfl rfl) ?_ | refine dr_cons (op_far f25_1 rfl rfl) ?_ | refine dr_cons (op_fae f25_1 rfl rfl) ?_
        all_goals first | refine dr_cons (op_ld ty3 rfl rfl rfl) ?_ | refine dr_cons (op_ldr ty3 rfl rfl) ?_ | refine dr_cons (op_lde ty3 rfl rfl (by assumption) rfl) ?_ | refine dr_cons (op_ldl ty3 rfl rfl rfl) ?_ | refine dr_cons (op_ldd ty3 rfl rfl rfl) ?_ | refine dr_cons (op_ldde ty3 rfl rfl (by assumption) rfl) ?_
        all_goals refine dr_cons (op_call fb35 (.cons rfl (Conv.of rfl) (.nil _)) (l3Leader_ct m.epoch (by omega)) (argOk rfl rfl argOk0) rfl rfl) ?_
        all_goals first | refine dr_cons (op_fab f25_3 rfl rfl) ?_ | refine dr_cons (op_far f25_3 rfl rfl) ?_ | refine dr_cons (op_fae f25_3 rfl rfl) ?_
        all_goals first | refine dr_cons (op_ld ty23 rfl rfl rfl) ?_ | refine dr_cons (op_ldr ty23 rfl rfl) ?_ | refine dr_cons (op_lde ty23 rfl rfl (by assumption) rfl) ?_ | refine dr_cons (op_ldl ty23 rfl rfl rfl) ?_ | refine dr_cons (op_ldd ty23 rfl rfl rfl) ?_ | refine dr_cons (op_ldde ty23 rfl rfl (by assumption) rfl) ?_
        all_goals refine dr_cons (op_call fb37 (.cons rfl (Conv.of rfl) (.nil _)) (l11Tip_ct m.seen (by omega) (fun v hv => Nat.le_trans (hm.sc v hv) (by decide))) (argOk rfl rfl argOk0) rfl rfl) ?_
        all_goals refine dr_cons (op_call fb36 (.cons rfl (Conv.of rfl) (.nil _)) (l1Copy_ct (tipOfS m.seen) (by omega)) (argOk rfl rfl argOk0) rfl rfl) ?_
        all_goals first | refine dr_cons (op_fab f25_1 rfl rfl) ?_ | refine dr_cons (op_far f25_1 rfl rfl) ?_ | refine dr_cons (op_fae f25_1 rfl rfl) ?_
        all_goals first | refine dr_cons (op_ld ty3 rfl rfl rfl) ?_ | refine dr_cons (op_ldr ty3 rfl rfl) ?_ | refine dr_cons (op_lde ty3 rfl rfl (by assumption) rfl) ?_ | refine dr_cons (op_ldl ty3 rfl rfl rfl) ?_ | refine dr_cons (op_ldd ty3 rfl rfl rfl) ?_ | refine dr_cons (op_ldde ty3 rfl rfl (by assumption) rfl) ?_
        all_goals first | refine dr_cons (op_mv rfl (Conv.of rfl) rfl) ?_ | refine dr_cons (op_mvl rfl rfl rfl rfl) ?_ | refine dr_cons (op_mvo rfl rfl rfl rfl) ?_
        all_goals refine dr_cons (op_callO fb38 (.cons rfl (Conv.of rfl) (.nil _)) (l71Pay_ct (nx r3 1) (hf5.weak (by omega))) (olsk rfl ols0) (oksk (by first | exact obOk_cell | exact obOk_arr | exact obOkW rfl | exact obOkW0 | exact obOkN | exact obOkS rfl | exact obOkNs | exact obOkS0 | trivial) oks0) (oksk (by first | exact obOk_cell | exact obOk_arr | exact obOkW rfl | exact obOkW0 | exact obOkN | exact obOkS rfl | exact obOkNs | exact obOkS0 | trivial) oks0) rfl (argOb rfl rfl rfl argO0) (fun o ho => by cases ho) rfl) ?_
        all_goals refine dr_cons (op_build (.cons f38_0 rfl (Conv.of rfl) (.cons f38_1 rfl (Conv.of rfl) (.nil _))) z38 rfl pl38 rfl) ?_
        all_goals refine dr_cons (op_bsl sl26 z38 (.cons rfl (Conv.of rfl) (.nil _)) rfl (by decide) rfl) ?_
        all_goals refine dr_cons (op_app sl26 z38 ul26 rfl rfl rfl (by (simp; omega)) (by (simp; omega)) rfl rfl) ?_
        all_goals refine dr_cons (op_build (.cons f28_0 rfl (Conv.of rfl) (.cons f28_1 rfl (Conv.ol) (.nil _))) z28 rfl pl28 rfl) ?_
        all_goals first | refine dr_cons (op_st ty28 rfl rfl (Conv.of rfl) rfl) ?_ | refine dr_cons (op_ste ty28 rfl rfl (Conv.of rfl) rfl (by assumption)) ?_ | refine dr_cons (op_stm ty28 rfl rfl rfl) ?_ | refine dr_cons (op_stme ty28 rfl rfl rfl (by assumption)) ?_
        all_goals refine dr_nil mixed rfl ?_
        exact nx_seq ⟨(m, ⟨leadS m.epoch, tipOfS m.seen ++ [⟨m.epoch, payV (nx r3 1)⟩]⟩), ⟨hm, by simp; omega⟩, Le.mk rfl (tlb rfl rfl rfl (tlb rfl rfl rfl (tlb rfl rfl rfl (tlb rfl rfl rfl tln)))) (olk rfl (by first | exact obOk_cell | exact obOk_arr | exact obOkW rfl | exact obOkW0 | exact obOkN | exact obOkS rfl | exact obOkNs | exact obOkS0 | trivial) (olk rfl (by first | exact obOk_cell | exact obOk_arr | exact obOkW rfl | exact obOkW0 | exact obOkN | exact obOkS rfl | exact obOkNs | exact obOkS0 | trivial) (olk rfl (by first | exact obOk_cell | exact obOk_arr | exact obOkW rfl | exact obOkW0 | exact obOkN | exact obOkS rfl | exact obOkNs | exact obOkS0 | trivial) (olk rfl (by first | exact obOk_cell | exact obOk_arr | exact obOkW rfl | exact obOkW0 | exact obOkN | exact obOkS rfl | exact obOkNs | exact obOkS0 | trivial) oln)))) noS⟩
      · refine awp_skip ?_
        exact nx_seq ⟨(n, u), ⟨hn, by show u.chain.length ≤ 1000; omega⟩, Le.mk rfl (tlb rfl rfl rfl (tlb rfl rfl rfl (tlb rfl rfl rfl (tlb rfl rfl rfl tln)))) (olk rfl (by first | exact obOk_cell | exact obOk_arr | exact obOkW rfl | exact obOkW0 | exact obOkN | exact obOkS rfl | exact obOkNs | exact obOkS0 | trivial) (olk rfl (by first | exact obOk_cell | exact obOk_arr | exact obOkW rfl | exact obOkW0 | exact obOkN | exact obOkS rfl | exact obOkNs | exact obOkS0 | trivial) (olk rfl (by first | exact obOk_cell | exact obOk_arr | exact obOkW rfl | exact obOkW0 | exact obOkN | exact obOkS rfl | exact obOkNs | exact obOkS0 | trivial) (olk rfl (by first | exact obOk_cell | exact obOk_arr | exact obOkW rfl | exact obOkW0 | exact obOkN | exact obOkS rfl | exact obOkNs | exact obOkS0 | trivial) oln)))) noS⟩
    · rintro ⟨m, u2⟩ ⟨hm, hu2⟩
      simp only at hm hu2 ⊢
      all_goals first | refine awp_seq (dr_start (id := 9) ?_) | refine awp_seq (awp_seq (dr_start (id := 9) ?_)) | refine dr_start (id := 9) ?_ | refine awp_seq (awp_seq (awp_seq (dr_start (id := 9) ?_)))
      all_goals first | refine dr_cons (op_ld ty25 rfl rfl rfl) ?_ | refine dr_cons (op_ldr ty25 rfl rfl) ?_ | refine dr_cons (op_lde ty25 rfl rfl (by assumption) rfl) ?_ | refine dr_cons (op_ldl ty25 rfl rfl rfl) ?_ | refine dr_cons (op_ldd ty25 rfl rfl rfl) ?_ | refine dr_cons (op_ldde ty25 rfl rfl (by assumption) rfl) ?_
      all_goals first | refine dr_cons (op_ld ty28 rfl rfl rfl) ?_ | refine dr_cons (op_ldr ty28 rfl rfl) ?_ | refine dr_cons (op_lde ty28 rfl rfl (by assumption) rfl) ?_ | refine dr_cons (op_ldl ty28 rfl rfl rfl) ?_ | refine dr_cons (op_ldd ty28 rfl rfl rfl) ?_ | refine dr_cons (op_ldde ty28 rfl rfl (by assumption) rfl) ?_
      all_goals refine dr_cons (op_call fb39 (.cons rfl (Conv.of rfl) (.nil _)) (l3VoteCopy_ct u2 (by omega)) (argOk rfl rfl argOk0) rfl rfl) ?_
      all_goals first | refine dr_cons (op_st ty25 rfl rfl (Conv.of rfl) rfl) ?_ | refine dr_cons (op_ste ty25 rfl rfl (Conv.of rfl) rfl (by assumption)) ?_ | refine dr_cons (op_stm ty25 rfl rfl rfl) ?_ | refine dr_cons (op_stme ty25 rfl rfl rfl (by assumption)) ?_
      all_goals first | refine dr_cons (op_st ty28 rfl rfl (Conv.of rfl) rfl) ?_ | refine dr_cons (op_ste ty28 rfl rfl (Conv.of rfl) rfl (by assumption)) ?_ | refine dr_cons (op_stm ty28 rfl rfl rfl) ?_ | refine dr_cons (op_stme ty28 rfl rfl rfl (by assumption)) ?_
      all_goals refine dr_nil mixed rfl ?_
      refine awp_ret ?_
      repeat first | refine rt_seq ?_ | refine rt_block ?_
      exact ⟨_, _, resN (ol := []) (.cons (.rc ty25 rfl rfl) (.cons (.rc ty28 rfl rfl) .nil)) rfl (fun o ho => absurd (show o ∈ ([] : List Nat) from ho) (by simp)) oln noS, _, _, rfl, rfl, hm, hu2⟩
end Go.Proofs.Ytmabpmlcclgecaa

/- When a node votes. -/
set_option linter.unusedVariables false
set_option linter.unusedSimpArgs false
namespace Go.Wt
open Go
theorem try_casesX (n : Nod) : ∀ l : List Vote, (∀ v ∈ l, v ∈ n.seen) → tryF n l = (n, .zero, false) ∨ ∃ u, u ∈ n.seen ∧ fits n u = true ∧ tryF n l = voteF n u.chain
  | [], _ => .inl rfl
  | u :: r, h => by
    simp only [tryF]
    split
    · rename_i hf
      exact .inr ⟨u, h u (by simp), hf, rfl⟩
    · exact try_casesX n r fun v hv => h v (by simp [hv])
theorem fits_iff {n : Nod} {u : Vote} : fits n u = true ↔ u.by_ = leader n.epoch ∧ lastEp u.chain = n.epoch ∧ u.chain.length = (tipOf n.seen).length + 1 ∧ sure n.seen (u.chain.take (u.chain.length - 1)) = true := by
  simp only [fits, Bool.and_eq_true, decide_eq_true_eq, and_assoc]
theorem hear_vote {n : Nod} {v : Vote} (hn : nodeOk n = true) (hk : (hearF n v).2.2 = true) : ∃ m c, hearF n v = ({ m with voted := n.epoch, seen := m.seen ++ [⟨n.id, c⟩] }, ⟨n.id, c⟩, true) ∧ nodeOk m = true ∧ m.epoch = n.epoch ∧ m.id = n.id ∧ m.voted = n.voted ∧
    n.voted < n.epoch ∧ lastEp c = n.epoch ∧ c.length = (tipOf m.seen).length + 1 ∧ sure m.seen (c.take (c.length - 1)) = true ∧ chainOk c = true ∧ Vote.mk (leader n.epoch) c ∈ m.seen ∧ m.seen.length < 80 := by
  have hse := seeF_epoch n v
  unfold hearF at hk ⊢
  split at hk
  · rename_i hc
    rw [if_pos hc]
    simp only [Bool.and_eq_true, Bool.not_eq_true', decide_eq_false_iff_not, decide_eq_true_eq] at hc
    have hmo := seeF_nok hn hc.1.1 hc.1.2 hc.2
    split at hk
    · rename_i hmay
      rw [if_pos hmay]
      rcases try_casesX (seeF n v) (seeF n v).seen (fun _ h => h) with e | ⟨u, hu, hf, e⟩
      · rw [e] at hk; cases hk
      · have hlen : (seeF n v).seen.length < 80 := by
          apply Classical.byContradiction
          intro hno
          rw [e, voteF_no hno] at hk
          cases hk
        obtain ⟨f1, f2, f3, f4⟩ := fits_iff.1 hf
        have hok := nodeOk_iff.1 hmo
        have hup := votesOk_mem hok.1.2.2.2.2 u hu
        simp only [mayN, Bool.and_eq_true, decide_eq_true_eq, bne_iff_ne] at hmay
        refine ⟨seeF n v, u.chain, ?_, hmo, hse.1, hse.2.1, hse.2.2, ?_, by rw [f2, hse.1], f3, f4, voteOk_chain hup, ?_, hlen⟩
        · rw [e, voteF_yes hlen, hse.1, hse.2.1]
        · have := hok.1.2.2.1
          rw [hse.1, hse.2.2] at this
          rw [hse.1, hse.2.2] at hmay
          omega
        · have : Vote.mk (leader n.epoch) u.chain = u := by rw [← hse.1, ← f1]
          rw [this]; exact hu
    · cases hk
  · cases hk
theorem mayN_see (n : Nod) (v : Vote) : mayN (seeF n v) = mayN n := by
  have := seeF_epoch n v
  unfold mayN
  rw [this.1, this.2.2]
theorem hear_done {x : Nod} {u : Vote} (hm : mayN x = false) : (hearF x u).2.2 = false ∧ (hearF x u).1.voted = x.voted ∧ mayN (hearF x u).1 = false := by
  unfold hearF
  split
  · rw [if_neg (by rw [mayN_see, hm]; decide)]
    exact ⟨rfl, (seeF_epoch x u).2.2, by rw [mayN_see]; exact hm⟩
  · exact ⟨rfl, rfl, hm⟩
theorem propose_done {z : Nod} {p : Pay} (hm : mayN z = false) : proposeF z p = (z, .zero, false) := by
  unfold proposeF
  rw [hm]; rfl
theorem voters_snoc {l : List Vote} {v : Vote} {c : List Itm} (h : c ≠ v.chain) : voters (l ++ [v]) c = voters l c := by
  unfold voters
  congr 1
  funext n
  have : Vote.mk n c ∈ l ++ [v] ↔ Vote.mk n c ∈ l := by
    rw [List.mem_append]
    constructor
    · rintro (q | q)
      · exact q
      · simp at q
        exact absurd (by rw [← q]) h
    · exact .inl
  simp only [this]
theorem voters_one {l : List Vote} {v : Vote} (h : ∀ u ∈ l, u.chain ≠ v.chain) : (voters (l ++ [v]) v.chain).length ≤ 1 := by
  have e : ∀ n : Int, decide (Vote.mk n v.chain ∈ l ++ [v]) = decide (n = v.by_) := fun n => by
    rw [decide_eq_decide, List.mem_append]
    constructor
    · rintro (q | q)
      · exact absurd (show (Vote.mk n v.chain).chain = v.chain from rfl) (h _ q)
      · simp at q
        rw [← q]
    · intro q
      exact .inr (by simp [q])
  unfold voters
  simp only [e]
  by_cases h1 : v.by_ = 1
  · rw [h1]; decide
  by_cases h2 : v.by_ = 2
  · rw [h2]; decide
  by_cases h3 : v.by_ = 3
  · rw [h3]; decide
  by_cases h4 : v.by_ = 4
  · rw [h4]; decide
  · simp [List.filter, Ne.symm h1, Ne.symm h2, Ne.symm h3, Ne.symm h4]
theorem tip_snoc {l : List Vote} {v : Vote} (h : ∀ u ∈ l, u.chain ≠ v.chain) : (tipOf (l ++ [v])).length = (tipOf l).length := by
  apply Nat.le_antisymm
  · apply tip_max
    have hs := tip_sure (l ++ [v])
    rw [sure_iff] at hs ⊢
    intro j h1 h2
    have := hs j h1 h2
    by_cases e : (tipOf (l ++ [v])).take j = v.chain
    · rw [e] at this
      have := voters_one h
      omega
    · rwa [voters_snoc e] at this
  · exact tip_mono fun u hu => List.mem_append_left _ hu
theorem try_skip {n : Nod} : ∀ (l r : List Vote), (∀ u ∈ l, fits n u = false) → tryF n (l ++ r) = tryF n r
  | [], _, _ => rfl
  | u :: l, r, h => by
    show (if fits n u then voteF n u.chain else tryF n (l ++ r)) = _
    rw [if_neg (by rw [h u (by simp)]; decide)]
    exact try_skip l r fun v hv => h v (by simp [hv])
theorem leader_in {e : Int} (h : 1 ≤ e ∧ e ≤ 30) : 1 ≤ leader e ∧ leader e ≤ 4 := by
  unfold leader
  rw [if_pos (by simp [within]; omega)]
  have h1 := Int.tmod_nonneg 4 (show 0 ≤ e - 1 by omega)
  have h2 := Int.tmod_lt_of_pos (e - 1) (show (0 : Int) < 4 by omega)
  omega
theorem not_seen {m : Nod} {v : Vote} (hall : ∀ u ∈ m.seen, lastEp u.chain < m.epoch) (hv : lastEp v.chain = m.epoch) : v ∉ m.seen ∧ ∀ u ∈ m.seen, u.chain ≠ v.chain :=
  ⟨fun h => by have := hall v h; omega, fun u hu e => by have := hall u hu; rw [e] at this; omega⟩
theorem hear_leads {m : Nod} {c : List Itm} {p : Pay} (hm : nodeOk m = true) (hv : m.voted < m.epoch) (hl : m.seen.length + 2 ≤ 80) (hall : ∀ u ∈ m.seen, lastEp u.chain < m.epoch) (hld : leader m.epoch ≠ m.id)
    (he : c = tipOf m.seen ++ [⟨m.epoch, p⟩]) (hc : chainOk c = true) : hearF m ⟨leader m.epoch, c⟩ = ({ m with voted := m.epoch, seen := m.seen ++ [⟨leader m.epoch, c⟩] ++ [⟨m.id, c⟩] }, ⟨m.id, c⟩, true) := by
  have hok := nodeOk_iff.1 hm
  have hle : lastEp c = m.epoch := by rw [he, lastEp_snoc]
  have hep : 1 ≤ m.epoch ∧ m.epoch ≤ 30 := by have := hok.1.2.1; have := hok.1.2.2.1; omega
  have hlb := leader_in hep
  obtain ⟨n1, n2⟩ := not_seen (v := ⟨leader m.epoch, c⟩) hall hle
  have hsee : seeF m ⟨leader m.epoch, c⟩ = { m with seen := m.seen ++ [⟨leader m.epoch, c⟩] } := by unfold seeF; rw [if_neg (by simpa using n1)]
  have hvo : voteOk ⟨leader m.epoch, c⟩ = true := by
    simp only [voteOk, within, Bool.and_eq_true, decide_eq_true_eq]
    exact ⟨⟨hlb, by rw [he]; simp⟩, hc⟩
  unfold hearF
  rw [if_pos (by simp [hvo, hld]; omega), hsee, if_pos (by simp [mayN]; omega)]
  rw [try_skip m.seen [⟨leader m.epoch, c⟩] (fun u hu => by
    cases hf : fits { m with seen := m.seen ++ [⟨leader m.epoch, c⟩] } u with
    | false => rfl
    | true =>
      have := (fits_iff.1 hf).2.1
      have h2 := hall u hu
      have : lastEp u.chain = m.epoch := this
      omega)]
  have htip := tip_snoc (v := ⟨leader m.epoch, c⟩) n2
  have hfit : fits { m with seen := m.seen ++ [⟨leader m.epoch, c⟩] } ⟨leader m.epoch, c⟩ = true := by
    rw [fits_iff]
    refine ⟨rfl, hle, ?_, ?_⟩
    · show c.length = (tipOf (m.seen ++ [⟨leader m.epoch, c⟩])).length + 1
      rw [htip, he]; simp
    · show sure (m.seen ++ [⟨leader m.epoch, c⟩]) (c.take (c.length - 1)) = true
      have : c.take (c.length - 1) = tipOf m.seen := by rw [he]; simp
      rw [this]
      exact sure_mono (fun u hu => List.mem_append_left _ hu) (tip_sure _)
  simp only [tryF]
  rw [if_pos hfit, voteF_yes (by simp; omega)]
theorem try_none {n : Nod} : ∀ (l : List Vote), (∀ u ∈ l, fits n u = false) → tryF n l = (n, .zero, false)
  | [], _ => rfl
  | u :: l, h => by
    simp only [tryF]
    rw [if_neg (by rw [h u (by simp)]; decide)]
    exact try_none l fun v hv => h v (by simp [hv])
theorem hear_short {m : Nod} {b : Int} {c : List Itm} {p : Pay} {k : Nat} (hall : ∀ u ∈ m.seen, lastEp u.chain < m.epoch) (hk : k < (tipOf m.seen).length)
    (he : c = (tipOf m.seen).take k ++ [⟨m.epoch, p⟩]) : (hearF m ⟨b, c⟩).2.2 = false := by
  have hle : lastEp c = m.epoch := by rw [he, lastEp_snoc]
  obtain ⟨n1, n2⟩ := not_seen (v := ⟨b, c⟩) hall hle
  have hsee : seeF m ⟨b, c⟩ = { m with seen := m.seen ++ [⟨b, c⟩] } := by unfold seeF; rw [if_neg (by simpa using n1)]
  unfold hearF
  split
  · rw [hsee]
    split
    · rw [try_none _ fun u hu => ?_]
      cases hf : fits { m with seen := m.seen ++ [⟨b, c⟩] } u with
      | false => rfl
      | true =>
        obtain ⟨_, f2, f3, _⟩ := fits_iff.1 hf
        have f2 : lastEp u.chain = m.epoch := f2
        have f3 : u.chain.length = (tipOf (m.seen ++ [⟨b, c⟩])).length + 1 := f3
        rcases List.mem_append.1 hu with q | q
        · have := hall u q; omega
        · simp at q
          rw [tip_snoc (v := ⟨b, c⟩) n2, q] at f3
          have f3 : c.length = (tipOf m.seen).length + 1 := f3
          rw [he, List.length_append, List.length_take] at f3
          simp at f3
          omega
    · rfl
  · rfl
end Go.Wt

/- A node that is asked to propose. -/
set_option linter.unusedVariables false
set_option linter.unusedSimpArgs false
namespace Go.Proofs.Ytmabpmlcclgecaa
open Go Go.Wt
theorem nodePropose_ct (n : Nod) (p : Pay) (h : nodeOk n = true) (hp : payOk p = true) : CtP Try.prog 19 [.v n, .v p] (res3 (proposeF n p)) := by
  have hs := nodeOk_seen h
  have hg := gdOf hs.1 (by omega)
  refine Ct.intro Try.func19 rfl rfl ?_
  all_goals refine awp_seq (awp_region (id := 0) ?_)
  all_goals refine awpOps_cons (op_box (o := 0) ty25 rfl (Conv.of rfl) rfl rfl) ?_
  all_goals refine awpOps_cons (op_box (o := 1) ty36 rfl (Conv.of rfl) rfl rfl) ?_
  all_goals refine awpOps_cons (op_alloc (o := 2) z25 rfl rfl) ?_
  all_goals refine awpOps_cons (op_alloc (o := 3) z28 rfl rfl) ?_
  all_goals refine awpOps_cons (op_as rfl (Conv.of rfl) rfl) ?_
  all_goals refine awpOps_nil ?_
  refine awp_seq (awp_seq_to (s' := mkSt 24 [(2, .box 0 (IsLens.whole Nod)), (3, .box 1 (IsLens.whole Pay)), (4, .box 2 (IsLens.whole Nod)), (5, .box 3 (IsLens.whole Vote)), (6, .v false), (14, .v false)] [(0, .cell n), (1, .cell p), (2, .cell Nod.zero), (3, .cell Vote.zero)]) ?_ ?_)
  · all_goals refine awp_region (id := 1) ?_
    all_goals refine awpOps_cons (op_ld ty25 rfl rfl rfl) ?_
    all_goals refine awpOps_cons (op_call fb42 (.cons rfl (Conv.of rfl) (.nil _)) (nodeOk_ct _) (argOk rfl rfl argOk0) rfl rfl) ?_
    all_goals refine awpOps_cons (op_not rfl rfl) ?_
    all_goals refine awpOps_cons (op_mv rfl (Conv.of rfl) rfl) ?_
    all_goals refine g_split (t := 10) rfl (fun h => ?_) (fun h => ?_)
    all_goals first | refine awpOps_cons (g_off rfl rfl rfl rfl rfl) ?_ | refine awpOps_cons (g_on rfl rfl rfl (op_ld ty36 rfl rfl rfl)) ?_
    all_goals first | refine awpOps_cons (g_off rfl rfl rfl rfl rfl) ?_ | refine awpOps_cons (g_on rfl rfl rfl (op_call fb53 (.cons rfl (Conv.of rfl) (.nil _)) (payOk_ct _) (argOk rfl rfl argOk0) rfl rfl)) ?_
    all_goals first | refine awpOps_cons (g_off rfl rfl rfl rfl rfl) ?_ | refine awpOps_cons (g_on rfl rfl rfl (op_not rfl rfl)) ?_
    all_goals refine awpOps_cons (op_pick rfl rfl rfl rfl) ?_
    all_goals refine awpOps_nil ?_
    all_goals exact Le.mk rfl (tlb rfl rfl rfl (tlb rfl rfl rfl (tlb rfl rfl rfl (tlb rfl rfl rfl (tle rfl (rfl) rfl (tle rfl (by (show AV.v _ = AV.v _; simp_all)) rfl tln)))))) (olk rfl (by exact obOk_cell) (olk rfl (by exact obOk_cell) (olk rfl (by exact obOk_cell) (olk rfl (by exact obOk_cell) oln)))) noS
  refine awp_cond rfl (fun h2 => absurd h2 (by decide)) (fun h2 => ?_)
  refine awp_skip ?_
  all_goals refine awp_seq (dr_start (id := 3) ?_)
  all_goals refine dr_cons (op_ld ty25 rfl rfl rfl) ?_
  all_goals refine dr_cons (op_call fb43 (.cons rfl (Conv.of rfl) (.nil _)) (nodeCopied_ct n hg) (argOk rfl rfl argOk0) rfl rfl) ?_
  all_goals refine dr_cons (op_ld ty36 rfl rfl rfl) ?_
  all_goals refine dr_cons (op_call fb54 (.cons rfl (Conv.of rfl) (.cons rfl (Conv.of rfl) (.nil _))) (npropose_ct n p hg) (argOk rfl rfl (argOk rfl rfl argOk0)) rfl rfl) ?_
  all_goals refine dr_cons (op_ext rfl rfl rfl) ?_
  all_goals refine dr_cons (op_ext rfl rfl rfl) ?_
  all_goals refine dr_cons (op_ext rfl rfl rfl) ?_
  all_goals refine dr_cons (op_st ty25 rfl rfl (Conv.of rfl) rfl) ?_
  all_goals refine dr_cons (op_st ty28 rfl rfl (Conv.of rfl) rfl) ?_
  all_goals refine dr_cons (op_as rfl (Conv.of rfl) rfl) ?_
  all_goals refine dr_nil mixed rfl ?_
  refine awp_ret ?_
  repeat first | refine rt_seq ?_ | refine rt_block ?_
  exact ⟨_, _, resN (ol := []) (.cons (.rc ty25 rfl rfl) (.cons (.rc ty28 rfl rfl) (.cons (.v rfl (Conv.of rfl)) .nil))) rfl (fun o ho => absurd (show o ∈ ([] : List Nat) from ho) (by simp)) oln noS, rfl, rfl⟩
end Go.Proofs.Ytmabpmlcclgecaa
