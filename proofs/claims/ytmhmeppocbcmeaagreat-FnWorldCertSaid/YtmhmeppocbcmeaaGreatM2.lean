/- Part 2 of the proof: texts one behind the other. -/
import Derived.Test.YtmhmeppocbcmeaaGreatM1
import Derived.Orders
import Derived.Below
import Derived.SizedLaws
import Derived.ChangeSlices
/- Moves: room goes from place to place. -/
set_option linter.unusedVariables false
set_option linter.unusedSimpArgs false
namespace Go.Wt
open Go

variable {P : Program} {S : Nat → Prop} {ops : Array Oper} {st : St}

theorem RelSt.setob {G w a} {o : Nat} {x : Obj} (h : RelSt G w a st) (hx : RelO G w o x) : RelSt G w a (st.upd [] [(o, x)]) where
  defers := h.defers
  size := h.size
  tmps := h.tmps
  objs := fun k => by
    show RelO _ _ k (orr (lk [(o, x)] k) (st.ob k))
    simp only [lk]
    by_cases e : k = o
    · subst e; rw [if_pos rfl]; exact hx
    · rw [if_neg e]; exact h.objs k
/-- What a temporary owns goes elsewhere. -/
theorem RelSt.mvt {G w a} {s : Nat} {D : Owner} {av : AV} (h : RelSt G w a st) (hx : st.tm s = some av) (hD1 : ∀ t, D.1 ≠ .tmp t) (hD2 : ∀ k, st.ob k ≠ .dead → st.ob k ≠ .free → D.1 ≠ .obj k) (hD3 : ∀ k, D.1 ≠ .blk k) :
    RelSt (G.mv (.tmp s, []) D) w a (st.upd [(s, some av.dis)] []) := by
  have hv := h.tmps s
  rw [hx] at hv
  refine ⟨h.defers, h.size, fun t => ?_, fun k => ?_⟩
  · show RelT _ _ _ (orr (lk [(s, some av.dis)] t) (st.tm t)) _
    simp only [lk]
    by_cases e : t = s
    · subst e; rw [if_pos rfl]; exact RelV.mono_dis Sh.mv (fun _ _ _ h => h) hv
    · rw [if_neg e]; exact (h.tmps t).mono Sh.mv (Ow.mv_other (by simpa using e) (Ne.symm (hD1 t))) (fun _ _ _ h => h)
  · show RelO _ _ k (st.ob k)
    cases hk : st.ob k with
    | dead => trivial
    | free => have := h.objs k; rw [hk] at this; exact this
    | cell x =>
      have h0 := h.objs k
      obtain ⟨T', hT⟩ := Obj.refs_all (st.ob k)
      rw [hk] at h0 hT
      exact h0.pres Sh.mv (fun _ _ _ h => h) hT (PresO.mv (by simp) (hD2 k (by rw [hk]; simp) (by rw [hk]; simp)) (by simp) (hD3 k))
    | arr x =>
      have h0 := h.objs k
      obtain ⟨T', hT⟩ := Obj.refs_all (st.ob k)
      rw [hk] at h0 hT
      exact h0.pres Sh.mv (fun _ _ _ h => h) hT (PresO.mv (by simp) (hD2 k (by rw [hk]; simp) (by rw [hk]; simp)) (by simp) (hD3 k))

theorem splice_same (cs : List Value) (off n : Nat) (h : off + n ≤ cs.length) : cs.take off ++ (cs.drop off).take n ++ cs.drop (off + n) = cs := by
  rw [List.append_assoc, ← List.drop_drop, List.take_append_drop, List.take_append_drop]
section ops
variable {d : Nat} {T pos aft} {x y z : Operand}

/-- A load that takes the room along. -/
theorem op_ldm {o : Nat} {α γ : Type} [Enc α] [Enc γ] {get : α → γ} {set off pth} {L : IsLens get set off pth} {c : α} {t : TypeId} (ty : TyOk P t γ) (hx : st.ev x = some (.box o L)) (ho : st.ob o = .cell c) (hn : Nat.blt d st.n = true) :
    OpOk P S ops ⟨some d, .load t x, T, pos, aft, none⟩ (opT x) [o] [(d, some (.v (get c)))] [(o, .cell (set c (Enc.dis (get c))))] st := by
  intro st1 hag G w a hr K Q hK
  unfold stepO
  rw [if_pos (by simp [Region.wanted])]
  refine .inl ?_
  obtain ⟨b, h1, h2⟩ := hr.at hag hx fun t ht => ht
  have hob := hr.objs o
  rw [hag.ob o (by simp), ho] at hob
  obtain ⟨b', cs, e, k1, k2, k3, k4, k5⟩ := cell_load L ty hob
  have : b' = b := by rw [h1] at k1; simpa using k1.symm
  subst this
  unfold Oper.wp
  rw [show (execOp a.eval ⟨some d, .load t x, T, pos, aft, none⟩).run P w = .ok (.value (Enc.val γ ((cs.drop off).take (Enc.size γ)))) w by simp only [execOp, h2, Sem.run_bind, k5, Result.andThen_ok, Sem.run_pure]]
  simp only [Oper.upon]
  have hd' : d < st1.n := by rw [hag.n]; simpa using hn
  have hl := Enc.len k3
  have hf := L.fits
  refine hK _ w (G.mv (.obj o, pth) (.tmp d, [])) ⟨hr.defers, by show (a.tmps.setIfInBounds d _).size = _; simp [hr.size], fun q => ?_, fun k => ?_⟩ (Keep.mv S (by simp) (by simp))
  · show RelT _ _ _ (orr (lk [(d, _)] q) (st1.tm q)) ((a.tmps.setIfInBounds d _).getD q undef)
    rw [getD_set _ _ _ _ (by rw [hr.size]; exact hd')]
    simp only [lk]
    by_cases eq : q = d
    · subst eq
      rw [if_pos rfl, if_pos rfl]
      exact ⟨_, Enc.mono Sh.mv (Ow.mv_src (s := (.obj o, pth))) (fun _ _ _ h => h) (L.rd_get k3), rfl⟩
    · rw [if_neg eq, if_neg eq]
      exact (hr.tmps q).mono Sh.mv (Ow.mv_other (by simp) (by simpa using eq)) (fun _ _ _ h => h)
  · show RelO _ _ k (orr (lk [(o, _)] k) (st1.ob k))
    simp only [lk]
    by_cases ek : k = o
    · subst ek
      rw [if_pos rfl]
      refine ⟨b', cs, e, h1, k2, ?_, fun i hi => by simp [Gh.mv, k4 i hi, relab]⟩
      have := L.rd_set (G' := G.mv (.obj k, pth) (.tmp d, [])) (w' := w) (ω' := (.obj k, [])) k3 (Enc.mono_dis Sh.mv (fun _ _ _ h => h) (L.rd_get k3)) Sh.mv (Ow.mv_rest (ρ := []) rfl (by simp)) (fun _ _ _ h => h)
      rwa [splice_same cs off _ (by omega)] at this
    · rw [if_neg ek]
      obtain ⟨T', hT⟩ := Obj.refs_all (st1.ob k)
      exact (hr.objs k).pres Sh.mv (fun _ _ _ h => h) hT (PresO.mv (by simpa using Ne.symm ek) (by simp) (by simp) (by simp))

/-- A store that takes the room along. -/
theorem op_stm {o s : Nat} {α γ : Type} [Enc α] [Enc γ] {get : α → γ} {set off pth} {L : IsLens get set off pth} {c : α} {e : γ} {t : TypeId} (ty : TyOk P t γ) (hx : st.ev x = some (.box o L)) (hy : st.tm s = some (.v e)) (ho : st.ob o = .cell c) :
    OpOk P S ops ⟨none, .store t x (.tmp s), T, pos, aft, none⟩ (opT x ++ [s]) [o] [(s, some (.v (Enc.dis e)))] [(o, .cell (set c e))] st := by
  intro st1 hag G w a hr K Q hK
  unfold stepO
  rw [if_pos (by simp [Region.wanted])]
  refine .inl ?_
  obtain ⟨b, h1, h2⟩ := hr.at hag hx fun t ht => by simp [ht]
  have hv := hr.tmps s
  have hts : st1.tm s = some (.v e) := by rw [hag.tm s (by simp)]; exact hy
  rw [hts] at hv
  obtain ⟨ds, k1, k2⟩ := hv
  have hob := hr.objs o
  rw [hag.ob o (by simp), ho] at hob
  obtain ⟨b', cs, te, m1, m2, m3, m4⟩ := hob
  have : b' = b := by rw [h1] at m1; simpa using m1.symm
  subst this
  have hl := Enc.len m3
  have hf := L.fits
  have hdl := Enc.len k1
  have hw : Wr G w o b' cs (cs.take off ++ ds ++ cs.drop (off + Enc.size γ)) te := ⟨m2, m4, by simp; omega, by have := Enc.size_pos (α := α); omega⟩
  have hrun := run_store_rd (P := P) (off := off) ty k1 m2 (by omega)
  have hk2 : a.eval (.tmp s) = Enc.val γ ds := k2
  have hc : (execOp a.eval ⟨none, .store t x (.tmp s), T, pos, aft, none⟩).run P w = .ok .skip (w.setRow b' (cs.take off ++ ds ++ cs.drop (off + Enc.size γ)).toArray) := by
    simp only [execOp, h2, hk2, Instr.storeAt, Instr.sureAddr, Sem.run_bind, Sem.run_pure, Result.andThen_ok, hrun]
  unfold Oper.wp
  rw [hc]
  simp only [Oper.upon, Act.put]
  have h1' := hr.write hw (x' := .dead) trivial
  have h2' := h1'.mvt (s := s) (D := (.obj o, pth)) (av := .v e) hts (by simp) (fun k hk _ => by
    intro e'
    injection e' with e'
    subst e'
    exact hk (by simp [St.upd, lk, orr])) (by simp)
  have h3' := h2'.setob (o := o) (x := .cell (set c e)) ⟨b', _, te, m1, setRow_heap _ _ _ _ _ _ m2, ?_, fun i hi => ?_⟩
  · have e0 : ((((st1.upd [] [(o, Obj.dead)]).upd [(s, some (AV.dis (.v e)))] []).upd [] [(o, .cell (set c e))]) : St) = st1.upd [(s, some (.v (Enc.dis e)))] [(o, .cell (set c e))] := by
      unfold St.upd
      congr 1
      funext k
      simp only [lk]
      by_cases ek : k = o <;> simp [ek, orr]
    rw [e0] at h3'
    exact hK _ _ _ h3' ((hw.keep S).trans (Keep.mv S (by simp) (by simp)))
  · have hsh : Sh G w (G.mv (.tmp s, []) (.obj o, pth)) (w.setRow b' (cs.take off ++ ds ++ cs.drop (off + Enc.size γ)).toArray) := hw.sh.trans Sh.mv
    refine L.rd_set m3 (ω' := (.obj o, [])) ?_ hsh ?_ (fun _ _ _ h => h)
    · refine Enc.mono hsh (fun bb i π v hno q1 q2 => ?_) (fun _ _ _ h => h) k1
      obtain ⟨r1, r2, r3⟩ := hw.ow (ω := (.tmp s, [])) (by simp) bb i π v hno q1 q2
      obtain ⟨s1, s2, s3⟩ := Ow.mv_src (s := (.tmp s, [])) (d := (.obj o, pth)) bb i π v id r1 r2
      exact ⟨s1, s2, fun hh => s3 (r3 hh)⟩
    · intro bb i π v hno q1 q2
      obtain ⟨r1, r2, r3⟩ := hw.ow (ω := (.obj o, [])) (by simp) bb i π v id q1 q2
      obtain ⟨s1, s2, s3⟩ := Ow.mv_into (s := (.tmp s, [])) (d := (.obj o, pth)) (p := .obj o) (by simp) rfl bb i π v hno r1 r2
      exact ⟨s1, s2, fun hh => s3 (r3 hh)⟩
  · have := m4 i (by rw [hw.len] at hi; exact hi)
    simp [Gh.mv, this, relab]
end ops

theorem Ow.mv_gen {G : Gh} {w : World} {s d ω : Owner} {no : List Nat → Prop} (h : ∀ π, ¬ no π → ¬ (ω.1 = s.1 ∧ s.2 <+: ω.2 ++ π) ∧ ¬ (ω.1 = d.1 ∧ d.2 <+: ω.2 ++ π)) : Ow G w ω (G.mv s d) w ω no := fun b i π v hn k1 k2 => by
  obtain ⟨h1, h2⟩ := h π hn
  exact ⟨by simp only [Gh.mv, k1, Option.map_some, relab]; rw [if_neg h1, if_neg h2], k2, id⟩
theorem Ow.comp {G w ω G1 w1 ω1 G2 w2 ω2} {no : List Nat → Prop} (h : Ow G w ω G1 w1 ω1 no) (k : Ow G1 w1 ω1 G2 w2 ω2 no) : Ow G w ω G2 w2 ω2 no := fun b i π v hn q1 q2 => by
  obtain ⟨r1, r2, r3⟩ := h b i π v hn q1 q2
  obtain ⟨s1, s2, s3⟩ := k b i π v hn r1 r2
  exact ⟨s1, s2, fun hh => s3 (r3 hh)⟩
section ops
variable {d : Nat} {T pos aft} {x y z : Operand}
/-- A part of a tuple, with its room. -/
theorem op_extm {s k : Nat} {xs : List FV} {e : FV} (hx : st.tm s = some (.tup xs)) (he : xs[k]? = some e) (hne : Nat.beq s d = false) (hn : Nat.blt d st.n = true) :
    OpOk P S ops ⟨some d, .extract (.tmp s) k, T, pos, aft, none⟩ [s] [] [(d, some e.av), (s, some (.tup (xs.set k e.dis)))] [] st := by
  intro st1 hag G w a hr K Q hK
  unfold stepO
  rw [if_pos (by simp [Region.wanted])]
  refine .inl ?_
  have hsd : s ≠ d := by intro e; subst e; simp at hne
  have hd' : d < st1.n := by rw [hag.n]; simpa using hn
  have hv := hr.tmps s
  rw [hag.tm s (by simp), hx] at hv
  obtain ⟨us, h1, h2⟩ := hv
  have key : ∀ (l : List FV) (k0 k : Nat) (us : List Value) (e : FV), RelFs G w (.tmp s, []) k0 l us → l[k]? = some e → ∃ u, us[k]? = some u ∧ RelF G w (.tmp s, [k0 + k]) e u := by
    intro l
    induction l with
    | nil => intro k0 k us e _ h; simp at h
    | cons f l ih =>
      intro k0 k us e h hk
      obtain ⟨u, r, rfl, h2, h3⟩ := h
      cases k with
      | zero => simp at hk; subst hk; exact ⟨u, rfl, h2⟩
      | succ k =>
        obtain ⟨u', q1, q2⟩ := ih (k0 + 1) k r e h3 (by simpa using hk)
        exact ⟨u', by simpa using q1, by rw [show k0 + (k + 1) = k0 + 1 + k by omega]; exact q2⟩
  have rest : ∀ (l : List FV) (k0 k : Nat) (us : List Value) (e : FV), RelFs G w (.tmp s, []) k0 l us → l[k]? = some e → RelFs (G.mv (.tmp s, [k0 + k]) (.tmp d, [])) w (.tmp s, []) k0 (l.set k e.dis) us := by
    intro l
    induction l with
    | nil => intro k0 k us e _ h; simp at h
    | cons f l ih =>
      intro k0 k us e h hk
      obtain ⟨u, r, rfl, h2, h3⟩ := h
      cases k with
      | zero =>
        simp at hk; subst hk
        refine ⟨u, r, rfl, h2.mono_dis Sh.mv (fun _ _ _ h => h), ?_⟩
        have : ∀ (l : List FV) (k1 : Nat) (us : List Value), k0 < k1 → RelFs G w (.tmp s, []) k1 l us → RelFs (G.mv (.tmp s, [k0 + 0]) (.tmp d, [])) w (.tmp s, []) k1 l us := by
          intro l
          induction l with
          | nil => intro k1 us _ h; exact h
          | cons f l ih =>
            rintro k1 us hk ⟨u, r, rfl, q1, q2⟩
            refine ⟨u, r, rfl, q1.mono Sh.mv (Ow.mv_gen fun π _ => ⟨?_, fun h => hsd (by simpa using h.1)⟩) (fun _ _ _ h => h), ih _ _ (by omega) q2⟩
            rintro ⟨_, h⟩
            simp at h
            omega
        exact this l _ r (by omega) h3
      | succ k =>
        refine ⟨u, r, rfl, h2.mono Sh.mv (Ow.mv_gen fun π _ => ⟨?_, fun h => hsd (by simpa using h.1)⟩) (fun _ _ _ h => h), ?_⟩
        · rintro ⟨_, h⟩
          simp at h
        · have := ih (k0 + 1) k r e h3 (by simpa using hk)
          rw [show k0 + (k + 1) = k0 + 1 + k by omega]; exact this
  obtain ⟨u, q1, q2⟩ := key xs 0 k us e h2 he
  rw [Nat.zero_add] at q2
  have hrest := rest xs 0 k us e h2 he
  rw [Nat.zero_add] at hrest
  unfold Oper.wp
  have h1' : a.eval (.tmp s) = .tuple us.toArray := h1
  rw [show (execOp a.eval ⟨some d, .extract (.tmp s) k, T, pos, aft, none⟩).run P w = .ok (.value u) w by simp only [execOp, h1', Instr.extract]; simp [q1]]
  simp only [Oper.upon]
  refine hK _ w (G.mv (.tmp s, [k]) (.tmp d, [])) ⟨hr.defers, by show (a.tmps.setIfInBounds d _).size = _; simp [hr.size], fun q => ?_, fun o => ?_⟩ (Keep.mv S (by simp) (by simp))
  · show RelT _ _ _ (orr (lk [(d, some e.av), (s, some (.tup (xs.set k e.dis)))] q) (st1.tm q)) ((a.tmps.setIfInBounds d _).getD q undef)
    rw [getD_set _ _ _ _ (by rw [hr.size]; exact hd')]
    simp only [lk]
    by_cases eq : q = d
    · subst eq
      simp only [if_true, orr]
      have := q2.mono (ω' := (.tmp q, [])) (Sh.mv (s := (.tmp s, [k])) (d := (.tmp q, []))) Ow.mv_src (fun _ _ _ h => h)
      cases e with
      | v x => exact this
      | box o L => exact this
    · rw [if_neg eq, if_neg eq]
      by_cases e2 : q = s
      · subst e2
        simp only [if_true, orr]
        exact ⟨us, h1', hrest⟩
      · rw [if_neg e2]
        simp only [orr]
        exact (hr.tmps q).mono Sh.mv (Ow.mv_other (by simpa using e2) (by simpa using eq)) (fun _ _ _ h => h)
  · obtain ⟨T', hT⟩ := Obj.refs_all (st1.ob o)
    exact (hr.objs o).pres Sh.mv (fun _ _ _ h => h) hT (PresO.mv (by simp) (by simp) (by simp) (by simp))

/-- A variable that takes its value with the room. -/
theorem op_boxm {o s : Nat} {α : Type} [Enc α] {e : α} {t : TypeId} (ty : TyOk P t α) (hx : st.tm s = some (.v e)) (hne : Nat.beq s d = false) (ho : st.ob o = .free) (hn : Nat.blt d st.n = true) :
    OpOk P S ops ⟨some d, .box t (.tmp s), T, pos, aft, none⟩ [s] [o] [(d, some (.box o (IsLens.whole α))), (s, some (.v (Enc.dis e)))] [(o, .cell e)] st := by
  intro st1 hag G w a hr K Q hK
  unfold stepO
  rw [if_pos (by simp [Region.wanted])]
  refine .inl ?_
  have hsd : s ≠ d := by intro e; subst e; simp at hne
  have hts : st1.tm s = some (.v e) := by rw [hag.tm s (by simp)]; exact hx
  have hfree : st1.ob o = .free := by rw [hag.ob o (by simp)]; exact ho
  have hv := hr.tmps s
  rw [hts] at hv
  obtain ⟨cs, h1, h2⟩ := hv
  have h2' : a.eval (.tmp s) = Enc.val α cs := h2
  have hc : (execOp a.eval ⟨some d, .box t (.tmp s), T, pos, aft, none⟩).run P w = .ok (.value (.pointer (some ⟨w.heap.size, 0, none⟩))) (w.alloc (.cells cs.toArray t)) := by
    simp only [execOp, Instr.box, newVar, newRow, h2', Enc.val_cells h1, newObj, Sem.run_bind, Sem.run, Sem.run_pure, Result.andThen_ok]
    rfl
  unfold Oper.wp
  rw [hc]
  simp only [Oper.upon]
  have g1 := hr.newblk (.cells cs.toArray t) (fun _ => some (.blk o, []))
  have g2 := g1.mvt (s := s) (D := (.obj o, [])) (av := .v e) hts (by simp) (fun k hk hf => by
    intro e'
    injection e' with e'
    subst e'
    exact hf hfree) (by simp)
  have hn0 : G.hdr o = none := by have := hr.objs o; rw [hfree] at this; exact this
  have g3 := g2.sethdr (o := o) (by show st1.ob o = _; exact hfree) (.pointer (some ⟨w.heap.size, 0, none⟩)) (x := .cell e) ?_
  · have g4 := g3.put (d := d) (av := some (.box o (IsLens.whole α))) (u := .pointer (some ⟨w.heap.size, 0, none⟩)) (by show d < st1.n; rw [hag.n]; simpa using hn) ⟨w.heap.size, by simp [Gh.hd], rfl⟩
    have e0 : (((st1.upd [(s, some (AV.dis (.v e)))] []).upd [] [(o, Obj.cell e)]).upd [(d, some (AV.box o (IsLens.whole α)))] []) = st1.upd [(d, some (.box o (IsLens.whole α))), (s, some (.v (Enc.dis e)))] [(o, .cell e)] := by
      unfold St.upd
      congr 1
      · funext q
        simp only [lk]
        by_cases eq : q = d
        · subst eq; simp [orr]
        · by_cases e2 : q = s <;> simp [eq, e2, hsd, orr, AV.dis]
    rw [e0] at g4
    refine hK _ _ _ g4 ((Keep.blk S).trans ((Keep.mv S (by simp) (by simp)).trans (Keep.hd (by simp [Gh.mv, Gh.blk]; exact hn0))))
  · refine ⟨w.heap.size, cs, t, by simp [Gh.hd], heap_alloc_eq _ _, ?_, fun i hi => by simp [Gh.hd, Gh.mv, Gh.blk, relab]⟩
    have r1 : Enc.rd ((G.blk w.heap.size fun _ => some (.blk o, [])).mv (.tmp s, []) (.obj o, [])) (w.alloc (.cells cs.toArray t)) (.obj o, []) e cs :=
      Enc.mono (Sh.blk.trans Sh.mv) (Ow.comp Ow.blk Ow.mv_src) (fun _ _ _ h => h) h1
    refine Enc.mono (G := (G.blk w.heap.size fun _ => some (.blk o, [])).mv (.tmp s, []) (.obj o, [])) (w := w.alloc (.cells cs.toArray t)) (fun b i v h1 h2 => ⟨h1, h2⟩) (fun b i π v _ h1 h2 => ⟨h1, h2, id⟩) (fun o' _ v' hv => ?_) r1
    have hv' : G.hdr o' = some v' := hv
    have hne' : o' ≠ o := by rintro rfl; rw [hn0] at hv'; cases hv'
    simp [Gh.hd, hne', hv]
end ops

/-! ### Results with their room -/
/-- Results, one behind the other: what is moved out is let go. -/
inductive RsM (P : Program) : St → List ResultVar → List FV → St → Prop
  | nil (q : St) : RsM P q [] [] q
  | keep {q q' : St} {rv r rvs rs} (h : ROk P q rv r) (hs : RsM P q rvs rs q') : RsM P q (rv :: rvs) (r :: rs) q'
  | cell {q q' : St} {t o : Nat} {α γ : Type} [Enc α] [Enc γ] {get : α → γ} {set : α → γ → α} {off : Nat} {pth : List Nat} {L : IsLens get set off pth} {c : α} {T : TypeId} {rvs rs} (ty : TyOk P T γ) (hx : q.tm t = some (.box o L)) (ho : q.ob o = .cell c)
      (hs : RsM P (q.upd [] [(o, .cell (set c (Enc.dis (get c))))]) rvs rs q') : RsM P q (.cell t T :: rvs) (.v (get c) :: rs) q'
  | tmp {q q' : St} {t : Nat} {α : Type} [Enc α] {e : α} {rvs rs} (hx : q.tm t = some (.v e)) (hs : RsM P (q.upd [(t, some (.v (Enc.dis e)))] []) rvs rs q') : RsM P q (.tmp t :: rvs) (.v e :: rs) q'
theorem mv_cell {G w a} {o : Nat} {α γ : Type} [Enc α] [Enc γ] {get : α → γ} {set off pth} (L : IsLens get set off pth) {c : α} {D : Owner} (hr : RelSt G w a st) (ho : st.ob o = .cell c) (hD1 : ∀ t, D.1 ≠ .tmp t) (hD2 : ∀ k, D.1 ≠ .obj k) (hD3 : ∀ k, D.1 ≠ .blk k) :
    RelSt (G.mv (.obj o, pth) D) w a (st.upd [] [(o, .cell (set c (Enc.dis (get c))))]) := by
  have hob := hr.objs o
  rw [ho] at hob
  obtain ⟨b', cs, e, k1, k2, k3, k4⟩ := hob
  have hl := Enc.len k3
  have hf := L.fits
  refine ⟨hr.defers, hr.size, fun q => (hr.tmps q).mono Sh.mv (Ow.mv_other (by simp) (Ne.symm (hD1 q))) (fun _ _ _ h => h), fun k => ?_⟩
  show RelO _ _ k (orr (lk [(o, _)] k) (st.ob k))
  simp only [lk]
  by_cases ek : k = o
  · subst ek
    rw [if_pos rfl]
    refine ⟨b', cs, e, k1, k2, ?_, fun i hi => by simp [Gh.mv, k4 i hi, relab, Ne.symm (hD3 k)]⟩
    have := L.rd_set (G' := G.mv (.obj k, pth) D) (w' := w) (ω' := (.obj k, [])) k3 (Enc.mono_dis Sh.mv (fun _ _ _ h => h) (L.rd_get k3)) Sh.mv (Ow.mv_rest (ρ := []) rfl (hD2 k)) (fun _ _ _ h => h)
    rwa [splice_same cs off _ (by omega)] at this
  · rw [if_neg ek]
    obtain ⟨T', hT⟩ := Obj.refs_all (st.ob k)
    exact (hr.objs k).pres Sh.mv (fun _ _ _ h => h) hT (PresO.mv (by simpa using Ne.symm ek) (hD2 k) (by simp) (hD3 k))
theorem RsM.run {w : World} {a : Act} {q q' : St} {rvs rs} (h : RsM P q rvs rs q') : ∀ {k : Nat} {G : Gh}, RelSt G w a q → ∃ (us : List Value) (G' : Gh),
    (rvs.mapM (rvRun a.tmps)).run P w = .ok us w ∧ us.length = rs.length ∧ RelFs G' w (.ret, []) k rs us ∧ RelSt G' w a q' ∧ Sh G w G' w ∧ (∀ j, j < k → Ow G w (.ret, [j]) G' w (.ret, [j]) never) ∧ (∀ o v, G.hdr o = some v → G'.hdr o = some v) ∧ ∀ S, Keep S G w G' w := by
  induction h with
  | nil q => intro k G hr; exact ⟨[], G, rfl, rfl, rfl, hr, Sh.refl _ _, fun _ _ => Ow.refl _ _ _ _, fun _ _ h => h, fun S => Keep.refl _ _ _⟩
  | keep h hs ih =>
    intro k G hr
    obtain ⟨u, u1, u2⟩ := h.run hr (.ret, [k])
    obtain ⟨us, G', v1, v2, v3, v4, v6, v7, v8, v10⟩ := ih (k := k + 1) hr
    refine ⟨u :: us, G', by simp only [List.mapM_cons, Sem.run_bind, u1, Result.andThen_ok, v1, Sem.run_pure], by simp [v2], ⟨u, us, rfl, ?_, v3⟩, v4, v6, fun j hj => v7 j (by omega), v8, v10⟩
    exact u2.mono v6 (v7 k (by omega)) (fun o _ v hv => v8 o v hv)
  | @cell q q' t o α γ _ _ get set off pth L c T rvs rs ty hx ho hs ih =>
    intro k G hr
    have hv := hr.tmps t
    rw [hx] at hv
    obtain ⟨b, h1, h3⟩ := hv
    have hob := hr.objs o
    rw [ho] at hob
    obtain ⟨b', cs, e, k1, k2, k3, k4, k5⟩ := cell_load L ty hob
    have : b' = b := by rw [h1] at k1; simpa using k1.symm
    subst this
    have k6 : (loadVar T ⟨b', off, none⟩).run P w = .ok (Enc.val γ ((cs.drop off).take (Enc.size γ))) w := by
      simpa [Instr.loadAt, Instr.sureAddr] using k5
    have h3' : a.tmps.getD t undef = .pointer (some ⟨b', off, none⟩) := h3
    have hr1 := mv_cell L (D := (.ret, [k])) hr ho (by simp) (by simp) (by simp)
    obtain ⟨us, G', v1, v2, v3, v4, v6, v7, v8, v10⟩ := ih (k := k + 1) hr1
    refine ⟨Enc.val γ ((cs.drop off).take (Enc.size γ)) :: us, G', ?_, by simp [v2], ⟨_, us, rfl, ⟨_, ?_, rfl⟩, v3⟩, v4, Sh.mv.trans v6, fun j hj => ?_, v8, fun S => (Keep.mv S (by simp) (by simp)).trans (v10 S)⟩
    · simp only [List.mapM_cons, rvRun, asAddr, h3', Sem.run_bind, Sem.run_pure, Result.andThen_ok, k6, v1]
    · exact Enc.mono v6 (v7 k (by omega)) (fun o _ v hv => v8 o v hv) (Enc.mono Sh.mv (Ow.mv_src (s := (.obj o, pth)) (d := (.ret, [k]))) (fun _ _ _ h => h) (L.rd_get k3))
    · refine Ow.comp (Ow.mv_gen fun π _ => ⟨by simp, ?_⟩) (v7 j (by omega))
      rintro ⟨_, h⟩
      simp at h
      omega
  | @tmp q q' t α _ e rvs rs hx hs ih =>
    intro k G hr
    have hv := hr.tmps t
    rw [hx] at hv
    have hr1 := hr.mvt (s := t) (D := (.ret, [k])) hx (by simp) (fun _ _ _ => by simp) (by simp)
    obtain ⟨us, G', v1, v2, v3, v4, v6, v7, v8, v10⟩ := ih (k := k + 1) hr1
    obtain ⟨cs, c1, c2⟩ := hv
    refine ⟨a.tmps.getD t undef :: us, G', ?_, by simp [v2], ⟨_, us, rfl, ⟨cs, ?_, c2⟩, v3⟩, v4, Sh.mv.trans v6, fun j hj => ?_, v8, fun S => (Keep.mv S (by simp) (by simp)).trans (v10 S)⟩
    · simp only [List.mapM_cons, rvRun, Sem.run_bind, Sem.run_pure, Result.andThen_ok, v1]
    · exact Enc.mono v6 (v7 k (by omega)) (fun o _ v hv => v8 o v hv) (Enc.mono Sh.mv (Ow.mv_src (s := (.tmp t, [])) (d := (.ret, [k]))) (fun _ _ _ h => h) c1)
    · refine Ow.comp (Ow.mv_gen fun π _ => ⟨by simp, ?_⟩) (v7 j (by omega))
      rintro ⟨_, h⟩
      simp at h
      omega
/-- Several results, with their room. -/
theorem rNM {q' : St} {rvs : List ResultVar} {rs : List FV} {ol : List (Nat × Obj)} (h : RsM P st rvs rs q') (hl : Nat.beq rs.length 1 = false) (hr : ∀ o ∈ rs.flatMap FV.refs, keys ol o = true) (h2 : OL q' (keys ol) ol) (hS : ∀ o, S o → keys ol o = true) :
    ResOk P S rvs.toArray (.tup rs) (obs ol) st := fun fn hfn G w a hrs => by
  obtain ⟨us, G', u1, u2, u3, u4, u6, u7, u8, u10⟩ := RsM.run h (k := 0) hrs
  refine ⟨G'.fg (keys ol), .tuple us.toArray, ?_, ⟨us, rfl, u3.mono (Sh.fg _) (Ow.fg _ _ _) (Hm.fg hr)⟩, objs_fg u4 h2, (u10 S).trans (Keep.fg hS)⟩
  have hne : us.length ≠ 1 := by rw [u2]; intro e; rw [e] at hl; simp at hl
  simp only [results_rv, hfn, List.mapM_toArray, Sem.run_bind, Sem.run_map, Sem.run_pure, u1, Result.andThen_ok]
  rw [dif_neg (by simpa using hne)]
/-- One result out of a variable, with its room. -/
theorem res1C {t o : Nat} {α γ : Type} [Enc α] [Enc γ] {get : α → γ} {set : α → γ → α} {off : Nat} {pth : List Nat} {L : IsLens get set off pth} {c : α} {T : TypeId} {ol : List (Nat × Obj)} (ty : TyOk P T γ) (hx : st.tm t = some (.box o L)) (ho : st.ob o = .cell c)
    (hr : ∀ o ∈ Enc.refs (get c), keys ol o = true) (h2 : OL (st.upd [] [(o, .cell (set c (Enc.dis (get c))))]) (keys ol) ol) (hS : ∀ o, S o → keys ol o = true) :
    ResOk P S #[.cell t T] (.v (get c)) (obs ol) st := fun fn hfn G w a hrs => by
  have hv := hrs.tmps t
  rw [hx] at hv
  obtain ⟨b, h1, h3⟩ := hv
  have hob := hrs.objs o
  rw [ho] at hob
  obtain ⟨b', cs, e, k1, k2, k3, k4, k5⟩ := cell_load L ty hob
  have : b' = b := by rw [h1] at k1; simpa using k1.symm
  subst this
  have k6 : (loadVar T ⟨b', off, none⟩).run P w = .ok (Enc.val γ ((cs.drop off).take (Enc.size γ))) w := by
    simpa [Instr.loadAt, Instr.sureAddr] using k5
  have h3' : a.tmps.getD t undef = .pointer (some ⟨b', off, none⟩) := h3
  have hr1 := mv_cell L (D := (.ret, [])) hrs ho (by simp) (by simp) (by simp)
  refine ⟨(G.mv (.obj o, pth) (.ret, [])).fg (keys ol), Enc.val γ ((cs.drop off).take (Enc.size γ)), ?_, ⟨_, ?_, rfl⟩, objs_fg hr1 h2, (Keep.mv S (by simp) (by simp)).trans (Keep.fg hS)⟩
  · simp only [results_rv, hfn, List.mapM_toArray, List.mapM_cons, List.mapM_nil, rvRun, asAddr, h3', Sem.run_bind, Sem.run_map, Sem.run_pure, Result.andThen_ok, bind_pure_comp, map_pure, k6]
    simp
  · exact Enc.mono (Sh.fg _) (Ow.fg _ _ _) (Hm.fg hr) (Enc.mono Sh.mv (Ow.mv_src (s := (.obj o, pth)) (d := (.ret, []))) (fun _ _ _ h => h) (L.rd_get k3))

/-! ### A call that hands on room -/
theorem RelAs.enter {G G1 : Gh} {w : World} {p : Nat → Bool} (hs : Sh G w G1 w) (hh : ∀ o v, G.hdr o = some v → G1.hdr o = some v) : ∀ {k k' : Nat} {l : List AV} {us : List Value}, RelAs G w k l us → (∀ z ∈ l, z.dis = z ∧ ∀ o ∈ z.refs, p o = true) → RelAs (G1.enter p) w k' l us
  | _, _, [], _, h, _ => h
  | k, k', z :: l, _, ⟨u, r, q1, q2, q3⟩, hz => by
    refine ⟨u, r, q1, RelV.enter (ω := ω0) (hz z (by simp)).1 (hz z (by simp)).2 ?_, RelAs.enter hs hh q3 fun z hz' => hz z (by simp [hz'])⟩
    have := q2.mono_dis (ω' := ω0) hs (fun o _ v hv => hh o v hv)
    rwa [(hz z (by simp)).1] at this
theorem oLM {d s : Nat} {T pos aft} {f : FuncId} {pre post : List Operand} {av1 av2 : List AV} {e : AV} {ts : Array TypeId} {rt1 rt2 : List Nat} {ol ol' : List (Nat × Obj)} {r : AV}
    (hB : fnB P f = true) (ha1 : Args st 0 pre av1 rt1) (hs : st.tm s = some e) (ha2 : Args st 0 post av2 rt2) (hct : CtO P f (av1 ++ e :: av2) ol r ol') (hol : OLs st ol) (hok : OKs (keys ol) ol) (hok' : OKs (keys ol) ol') (hke : keysEq ol ol' = true)
    (hd1 : ∀ z ∈ av1, z.dis = z ∧ ∀ o ∈ z.refs, keys ol o = true) (hd2 : ∀ z ∈ av2, z.dis = z ∧ ∀ o ∈ z.refs, keys ol o = true) (her : ∀ o ∈ e.refs, keys ol o = true) (hrr : ∀ o ∈ r.refs, keys ol o = true) (hn : Nat.blt d st.n = true) :
    OpOk P S ops ⟨some d, .call { callee := .value (.func f), args := (pre ++ .tmp s :: post).toArray, argTypes := ts }, T, pos, aft, none⟩ (s :: (rt1 ++ rt2)) (ol.map (·.1)) [(d, some r), (s, some e.dis)] ol' st := by
  intro st1 hag G w a hr K Q hK
  have hd : d < st1.n := by rw [hag.n]; simpa using hn
  have hob1 : ∀ o, keys ol o = true → st1.ob o = st.ob o := fun o ho => hag.ob o (by rw [keys_map] at ho; simpa using ho)
  have hts : st1.tm s = some e := by rw [hag.tm s (by simp)]; exact hs
  have hlen : ∀ {k : Nat} {xs : List Operand} {avs : List AV} {rt : List Nat}, Args st k xs avs rt → xs.length = avs.length := by
    intro k xs avs rt h
    induction h with
    | nil => rfl
    | cons _ _ _ ih => simp [ih]
  have hr1 := hr.mvt (s := s) (D := (.arg av1.length, [])) hts (by simp) (fun _ _ _ => by simp) (by simp)
  unfold stepO
  rw [if_pos (by simp [Region.wanted])]
  refine .inl ?_
  have hv := hr.tmps s
  rw [hts] at hv
  have hall : RelAs ((G.mv (.tmp s, []) (.arg av1.length, [])).enter (keys ol)) w 0 (av1 ++ e :: av2) ((pre ++ .tmp s :: post).map a.eval) := by
    rw [List.map_append, List.map_cons]
    refine RelAs.append (RelAs.enter Sh.mv (fun _ _ h => h) (Args.rel (k' := 0) hr hag ha1 (fun t ht => by simp [ht])) hd1) ⟨_, _, rfl, ?_, RelAs.enter Sh.mv (fun _ _ h => h) (Args.rel (k' := 0) hr hag ha2 (fun t ht => by simp [ht])) hd2⟩
    have h1 : RelV (G.mv (.tmp s, []) (.arg av1.length, [])) w (.arg av1.length, []) e (a.eval (.tmp s)) := RelV.mono Sh.mv Ow.mv_src (fun _ _ _ h => h) hv
    refine RelV.mono (ω := (.arg av1.length, [])) enter_sh (fun b i π v _ q1 q2 => ⟨by simp [Gh.enter, q1], q2, id⟩) (fun o ho v hv => by simp [Gh.enter, her o ho, hv]) h1
  have hrun : (execOp a.eval ⟨some d, .call { callee := .value (.func f), args := (pre ++ .tmp s :: post).toArray, argTypes := ts }, T, pos, aft, none⟩).run P w = .ok (.enter f ((pre ++ .tmp s :: post).map a.eval).toArray) w := by
    have e1 : a.eval (.func f) = .func (.func f) #[] #[] := rfl
    simp only [execOp, resolve, Deferred.ofValue, e1, Sem.run_bind, Sem.run_pure, Result.andThen_ok, invoke, callFunc_run hB]
    simp
  unfold Oper.wp
  rw [hrun]
  simp only [Oper.upon]
  have hkk := keysEq_keys hke
  have hpo : pass (keys ol) (st1.upd [(s, some e.dis)] []).ob = obs ol := by
    rw [← pass_obs hol]
    funext o
    unfold pass
    by_cases hp : keys ol o = true
    · rw [if_pos hp, if_pos hp]; exact hob1 o hp
    · rw [if_neg hp, if_neg hp]
  refine (hct _ w _ hall fun o => ?_).mono ?_
  · rw [← hpo]
    unfold pass
    by_cases hp : keys ol o = true
    · rw [if_pos hp]
      refine (hr1.objs o).enter hp ?_
      have : (st1.upd [(s, some e.dis)] []).ob o = st.ob o := hob1 o hp
      rw [this]
      unfold keys at hp
      obtain ⟨y, hy⟩ := Option.isSome_iff_exists.1 hp
      rw [hol.get hy]; exact hok.get hy
    · rw [if_neg hp]; simp [RelO, Gh.enter, hp]
  · rintro e' w2 ⟨r', h', v, G2, rfl, ⟨rfl, rfl⟩, q2, q3, q4⟩
    rw [← hpo] at q4
    obtain ⟨k1, k2⟩ := leave_spec (q := keys ol) hr1 (d := d) hd (fun o h => h) (fun o h1 h2 => by rw [h1] at h2; cases h2) (fun o hq => by
        rw [hkk] at hq; unfold keys at hq; unfold obs
        cases hx : lk0 ol' o with
        | none => rfl
        | some y => rw [hx] at hq; cases hq) hrr (fun o => by
          unfold obs
          cases hx : lk0 ol' o with
          | none => trivial
          | some y => exact hok'.get hx) q2 q3 q4
    refine hK _ _ _ ?_ ((Keep.mv S (by simp) (by simp)).trans (k2 S))
    have e0 : (⟨(st1.upd [(s, some e.dis)] []).n, fun t => if t = d then some r' else (st1.upd [(s, some e.dis)] []).tm t, merge (keys ol) (st1.upd [(s, some e.dis)] []).ob (obs ol')⟩ : St) = st1.upd [(d, some r'), (s, some e.dis)] ol' := by
      unfold St.upd merge
      congr 1
      · funext t
        simp only [lk]
        by_cases e1 : t = d <;> simp [e1, orr]
      · funext o
        rw [show lk ol' = lk0 ol' from lk_lk0 ol', hkk]
        unfold keys obs
        cases hx : lk0 ol' o <;> simp [orr, lk]
    rw [← e0]; exact k1

/-! ### Elements, with their room -/
section ops
variable {d : Nat} {T pos aft} {x y z : Operand}
theorem op_ldme {o i : Nat} {α γ : Type} [Enc α] [Enc γ] {get : α → γ} {set off pth} {L : IsLens get set off pth} {xs : List α} {c : α} {t : TypeId} (ty : TyOk P t γ) (hx : st.ev x = some (.elm o i L)) (ho : st.ob o = .arr xs) (hi : xs[i]? = some c) (hn : Nat.blt d st.n = true) :
    OpOk P S ops ⟨some d, .load t x, T, pos, aft, none⟩ (opT x) [o] [(d, some (.v (get c)))] [(o, .arr (xs.set i (set c (Enc.dis (get c)))))] st := by
  intro st1 hag G w a hr K Q hK
  unfold stepO
  rw [if_pos (by simp [Region.wanted])]
  refine .inl ?_
  obtain ⟨b, n, cp, h1, h2⟩ := hr.at hag hx fun t ht => ht
  have hob := hr.objs o
  rw [hag.ob o (by simp), ho] at hob
  obtain ⟨b', cap0, cs0, k1, k3, k5⟩ := elm_load L ty hob hi
  have : b' = b := by rw [h1] at k1; simp at k1; exact k1.1.symm
  subst this
  obtain ⟨bb, cap, cs, te, m1, m2, m3, m4, m5, m6⟩ := hob
  unfold Oper.wp
  rw [show (execOp a.eval ⟨some d, .load t x, T, pos, aft, none⟩).run P w = .ok (.value (Enc.val γ ((cs0.drop off).take (Enc.size γ)))) w by simp only [execOp, h2, Sem.run_bind, k5, Result.andThen_ok, Sem.run_pure]]
  simp only [Oper.upon]
  have hd' : d < st1.n := by rw [hag.n]; simpa using hn
  have hf := L.fits
  refine hK _ w (G.mv (.obj o, i :: pth) (.tmp d, [])) ⟨hr.defers, by show (a.tmps.setIfInBounds d _).size = _; simp [hr.size], fun q => ?_, fun k => ?_⟩ (Keep.mv S (by simp) (by simp))
  · show RelT _ _ _ (orr (lk [(d, _)] q) (st1.tm q)) ((a.tmps.setIfInBounds d _).getD q undef)
    rw [getD_set _ _ _ _ (by rw [hr.size]; exact hd')]
    simp only [lk]
    by_cases eq : q = d
    · subst eq
      rw [if_pos rfl, if_pos rfl]
      exact ⟨_, Enc.mono Sh.mv (Ow.mv_src (s := (.obj o, i :: pth))) (fun _ _ _ h => h) (L.rd_get k3), rfl⟩
    · rw [if_neg eq, if_neg eq]
      exact (hr.tmps q).mono Sh.mv (Ow.mv_other (by simp) (by simpa using eq)) (fun _ _ _ h => h)
  · show RelO _ _ k (orr (lk [(o, _)] k) (st1.ob k))
    simp only [lk]
    by_cases ek : k = o
    · subst ek
      rw [if_pos rfl]
      refine ⟨bb, cap, cs, te, by simpa [Gh.mv] using m1, m2, by simpa using m3, m4, fun j x' hx' => ?_, fun q hq => by simp [Gh.mv, m6 q hq, relab]⟩
      by_cases hj : j = i
      · subst hj
        have hil : j < xs.length := getElem?_lt hi
        rw [List.getElem?_set_self hil] at hx'
        injection hx' with hx'
        subst hx'
        obtain ⟨ce, r1, r2⟩ := m5 j c hi
        have hcl := Enc.len r1
        refine ⟨ce, ?_, r2⟩
        have := L.rd_set (G' := G.mv (.obj k, j :: pth) (.tmp d, [])) (w' := w) (ω' := (.obj k, [j])) r1 (Enc.mono_dis Sh.mv (fun _ _ _ h => h) (L.rd_get r1)) Sh.mv (Ow.mv_gen fun π hπ => ⟨fun h => hπ (by simpa using h.2), fun h => by simp at h⟩) (fun _ _ _ h => h)
        rwa [splice_same ce off _ (by omega)] at this
      · rw [List.getElem?_set_ne (Ne.symm hj)] at hx'
        obtain ⟨ce, r1, r2⟩ := m5 j x' hx'
        exact ⟨ce, Enc.mono Sh.mv (Ow.mv_gen fun π _ => ⟨fun h => hj (by simpa using (show i = j by simpa using (List.cons_prefix_cons.1 (by simpa using h.2)).1).symm), fun h => by simp at h⟩) (fun _ _ _ h => h) r1, r2⟩
    · rw [if_neg ek]
      obtain ⟨T', hT⟩ := Obj.refs_all (st1.ob k)
      exact (hr.objs k).pres Sh.mv (fun _ _ _ h => h) hT (PresO.mv (by simpa using Ne.symm ek) (by simp) (by simp) (by simp))

theorem op_stme {o i s : Nat} {α γ : Type} [Enc α] [Enc γ] {get : α → γ} {set off pth} {L : IsLens get set off pth} {xs : List α} {c : α} {e : γ} {t : TypeId} (ty : TyOk P t γ) (hx : st.ev x = some (.elm o i L)) (hy : st.tm s = some (.v e)) (ho : st.ob o = .arr xs) (hi : xs[i]? = some c) :
    OpOk P S ops ⟨none, .store t x (.tmp s), T, pos, aft, none⟩ (opT x ++ [s]) [o] [(s, some (.v (Enc.dis e)))] [(o, .arr (xs.set i (set c e)))] st := by
  intro st1 hag G w a hr K Q hK
  unfold stepO
  rw [if_pos (by simp [Region.wanted])]
  refine .inl ?_
  obtain ⟨b, n, cp, h1, h2⟩ := hr.at hag hx fun t ht => by simp [ht]
  have hts : st1.tm s = some (.v e) := by rw [hag.tm s (by simp)]; exact hy
  have hv := hr.tmps s
  rw [hts] at hv
  obtain ⟨ds, k1, k2⟩ := hv
  have hk2 : a.eval (.tmp s) = Enc.val γ ds := k2
  have hob := hr.objs o
  rw [hag.ob o (by simp), ho] at hob
  obtain ⟨b', cap, cs, te, m1, m2, m3, m4, m5, m6⟩ := hob
  have : b' = b := by rw [h1] at m1; simp at m1; exact m1.1.symm
  subst this
  have hf := L.fits
  have hdl := Enc.len k1
  have hil : i < xs.length := getElem?_lt hi
  have hsz := Enc.size_pos (α := α)
  have hbd : (i + 1) * Enc.size α ≤ cs.length := Nat.le_trans (Nat.mul_le_mul_right _ (by omega)) m4
  rw [Nat.add_mul, Nat.one_mul] at hbd
  obtain ⟨ce, r1, r2⟩ := m5 i c hi
  have hcl := Enc.len r1
  let cs' := cs.take (i * Enc.size α + off) ++ ds ++ cs.drop (i * Enc.size α + off + Enc.size γ)
  have hw : Wr G w o b' cs cs' te := ⟨m2, m6, by simp [cs']; omega, by omega⟩
  have hrun := run_store_rd (P := P) (off := i * Enc.size α + off) ty k1 m2 (by omega)
  have hc : (execOp a.eval ⟨none, .store t x (.tmp s), T, pos, aft, none⟩).run P w = .ok .skip (w.setRow b' cs'.toArray) := by
    simp only [execOp, h2, hk2, Instr.storeAt, Instr.sureAddr, Sem.run_bind, Sem.run_pure, Result.andThen_ok, hrun]; rfl
  unfold Oper.wp
  rw [hc]
  simp only [Oper.upon, Act.put]
  have h1' := hr.write hw (x' := .dead) trivial
  have h2' := h1'.mvt (s := s) (D := (.obj o, i :: pth)) (av := .v e) hts (by simp) (fun k hk _ => by
    intro e'
    injection e' with e'
    subst e'
    exact hk (by simp [St.upd, lk, orr])) (by simp)
  have hsh : Sh G w (G.mv (.tmp s, []) (.obj o, i :: pth)) (w.setRow b' cs'.toArray) := hw.sh.trans Sh.mv
  have h3' := h2'.setob (o := o) (x := .arr (xs.set i (set c e))) ⟨b', cap, cs', te, by simpa [Gh.mv] using m1, setRow_heap _ _ _ _ _ _ m2, by simpa using m3, by rw [hw.len]; exact m4, ?_, fun q hq => ?_⟩
  · have e0 : ((((st1.upd [] [(o, Obj.dead)]).upd [(s, some (AV.dis (.v e)))] []).upd [] [(o, .arr (xs.set i (set c e)))]) : St) = st1.upd [(s, some (.v (Enc.dis e)))] [(o, .arr (xs.set i (set c e)))] := by
      unfold St.upd
      congr 1
      funext k
      simp only [lk]
      by_cases ek : k = o <;> simp [ek, orr]
    rw [e0] at h3'
    exact hK _ _ _ h3' ((hw.keep S).trans (Keep.mv S (by simp) (by simp)))
  · intro k x' hx'
    have hlk : ∀ q, q < i * Enc.size α + off ∨ i * Enc.size α + off + Enc.size γ ≤ q → cs'[q]? = cs[q]? := by
      intro q hq
      simp only [cs']
      rcases hq with hq | hq
      · rw [List.append_assoc, List.getElem?_append_left (by simp; omega), List.getElem?_take, if_pos hq]
      · rw [List.getElem?_append_right (by simp; omega), List.getElem?_drop]
        congr 1
        simp
        omega
    by_cases hk : k = i
    · subst hk
      rw [List.getElem?_set_self hil] at hx'
      injection hx' with hx'
      subst hx'
      refine ⟨_, L.rd_set (ω' := (.obj o, [k])) (ds := ds) (y := e) r1 ?_ hsh ?_ (fun _ _ _ h => h), fun j v hj => ?_⟩
      · exact Enc.mono hsh (Ow.comp (hw.ow (ω := (.tmp s, [])) (by simp)) Ow.mv_src) (fun _ _ _ h => h) k1
      · exact Ow.comp ((hw.ow (ω := (.obj o, [k])) (by simp)).weak fun _ h => h.elim) (Ow.mv_gen fun π hπ => ⟨fun h => by simp at h, fun h => hπ (by simpa using h.2)⟩)
      by_cases hj1 : j < off
      · rw [List.append_assoc, List.getElem?_append_left (by simp; omega), List.getElem?_take, if_pos hj1] at hj
        rw [hlk _ (.inl (by omega))]
        exact r2 j v hj
      · by_cases hj2 : j < off + Enc.size γ
        · rw [List.getElem?_append_left (by simp; omega), List.getElem?_append_right (by simp; omega)] at hj
          simp only [cs']
          rw [List.getElem?_append_left (by simp; omega), List.getElem?_append_right (by simp; omega), ← hj]
          congr 1
          simp
          omega
        · rw [List.getElem?_append_right (by simp; omega), List.getElem?_drop] at hj
          rw [hlk _ (.inr (by omega))]
          refine r2 j v ?_
          rw [← hj]
          congr 1
          simp
          omega
    · rw [List.getElem?_set_ne (Ne.symm hk)] at hx'
      obtain ⟨c2, q1, q2⟩ := m5 k x' hx'
      refine ⟨c2, Enc.mono hsh (Ow.comp (hw.ow (ω := (.obj o, [k])) (by simp)) (Ow.mv_gen fun π _ => ⟨fun h => by simp at h, fun h => hk (by simpa using (show i = k by simpa using (List.cons_prefix_cons.1 (by simpa using h.2)).1).symm)⟩)) (fun _ _ _ h => h) q1, fun j v hj => ?_⟩
      have hjl : j < Enc.size α := by rw [← Enc.len q1]; exact getElem?_lt hj
      rw [hlk]
      · exact q2 j v hj
      · rcases Nat.lt_or_gt_of_ne hk with hlt | hlt
        · left
          have : (k + 1) * Enc.size α ≤ i * Enc.size α := Nat.mul_le_mul_right _ hlt
          rw [Nat.add_mul, Nat.one_mul] at this
          omega
        · right
          have : (i + 1) * Enc.size α ≤ k * Enc.size α := Nat.mul_le_mul_right _ hlt
          rw [Nat.add_mul, Nat.one_mul] at this
          omega
  · have := m6 q (by rw [hw.len] at hq; exact hq)
    simp [Gh.mv, this, relab]
end ops

/-! ### Rows to read alone -/
section ops
variable {d : Nat} {T pos aft} {x y z : Operand}
theorem op_ldl {o : Nat} {α γ : Type} [Enc α] [Enc γ] [Plain γ] {get : α → OList γ} {set off pth} {L : IsLens get set off pth} {c : α} {t : TypeId} (ty : TyOk P t (OList γ)) (hx : st.ev x = some (.box o L)) (ho : st.ob o = .cell c) (hn : Nat.blt d st.n = true) :
    OpOk P S ops ⟨some d, .load t x, T, pos, aft, none⟩ (opT x) [o] [(d, some (.v (get c).l))] [] st :=
  OpOk.value rfl rfl (by simpa using hn) fun st1 hag G w a hr => by
    obtain ⟨b, h1, h2⟩ := hr.at hag hx fun t ht => ht
    have hob := hr.objs o
    rw [hag.ob o (by simp), ho] at hob
    obtain ⟨b', cs, e, k1, k2, k3, k4, k5⟩ := cell_load L ty hob
    have : b' = b := by rw [h1] at k1; simpa using k1.symm
    subst this
    have h3 : RelV G w (Owner.sub (.obj o, []) pth) (.v (get c)) (Enc.val (OList γ) ((cs.drop off).take (Enc.size (OList γ)))) := ⟨_, L.rd_get k3, rfl⟩
    have h4 : ∀ (q : OList γ) (u : Value) (ω ω' : Owner), RelV G w ω (.v q) u → RelV G w ω' (.v q.l) u := fun ⟨l, b⟩ u ω ω' h => Conv.ol h
    exact ⟨Enc.val (OList γ) ((cs.drop off).take (Enc.size (OList γ))), by simp only [execOp, h2, Sem.run_bind, k5, Result.andThen_ok, Sem.run_pure], h4 _ _ _ _ h3⟩
end ops
end Go.Wt

/- The kinds of the program, as Lean's. -/
set_option linter.unusedVariables false
namespace Go.Wt
open Go

structure Pay where
  frm : Int
  to : Int
  sum : Int
  deriving DecidableEq
structure Itm where
  epoch : Int
  pay : Pay
  deriving DecidableEq
structure Vote where
  by_ : Int
  chain : List Itm
  deriving DecidableEq
structure Nod where
  id : Int
  epoch : Int
  voted : Int
  seen : List Vote
  deriving DecidableEq
structure Wrld where
  epoch : Int
  nodes : List Nod
  log : List Vote
  bad : Int
  deriving DecidableEq
structure Evt where
  kind : Int
  a : Int
  b : Int
  pay : Pay
  vote : Vote
structure Cert where
  chain : List Itm
  by_ : List (List Int)
/-- The reader of a code. -/
structure Rd where
  b : List UInt8
  p : Int

theorem plain_iso {σ τ : Type} [Enc τ] [Plain τ] (f : σ → τ) (g : τ → σ) (fg : ∀ y, f (g y) = y) (gf : ∀ x, g (f x) = x) (ag hag) : @Plain σ (isoEnc f g fg ag hag) :=
  @Plain.mk σ (isoEnc f g fg ag hag) (fun x => by show g (Enc.dis (f x)) = x; rw [Plain.dis_eq, gf]) (fun x => Plain.refs_eq (f x))

instance : Enc Pay := isoEnc (fun p => (p.frm, p.to, p.sum)) (fun q => ⟨q.1, q.2.1, q.2.2⟩) (fun _ => rfl) true (fun h => by cases h)
instance : Plain Pay := plain_iso _ _ _ (fun _ => rfl) _ _
instance : Enc Itm := isoEnc (fun p => (p.epoch, p.pay)) (fun q => ⟨q.1, q.2⟩) (fun _ => rfl) true (fun h => by cases h)
instance : Plain Itm := plain_iso _ _ _ (fun _ => rfl) _ _
instance : Enc Vote := isoEnc (fun p => (p.by_, p.chain)) (fun q => ⟨q.1, q.2⟩) (fun _ => rfl) true (fun h => by cases h)
instance : Plain Vote := plain_iso _ _ _ (fun _ => rfl) _ _
instance : Enc Nod := isoEnc (fun p => (p.id, p.epoch, p.voted, p.seen)) (fun q => ⟨q.1, q.2.1, q.2.2.1, q.2.2.2⟩) (fun _ => rfl) true (fun h => by cases h)
instance : Plain Nod := plain_iso _ _ _ (fun _ => rfl) _ _
instance : Enc Wrld := isoEnc (fun p => (p.epoch, p.nodes, p.log, p.bad)) (fun q => ⟨q.1, q.2.1, q.2.2.1, q.2.2.2⟩) (fun _ => rfl) true (fun h => by cases h)
instance : Plain Wrld := plain_iso _ _ _ (fun _ => rfl) _ _
instance : Enc Evt := isoEnc (fun p => (p.kind, p.a, p.b, p.pay, p.vote)) (fun q => ⟨q.1, q.2.1, q.2.2.1, q.2.2.2.1, q.2.2.2.2⟩) (fun _ => rfl) true (fun h => by cases h)
instance : Plain Evt := plain_iso _ _ _ (fun _ => rfl) _ _
instance : Enc Cert := isoEnc (fun p => (p.chain, p.by_)) (fun q => ⟨q.1, q.2⟩) (fun _ => rfl) true (fun h => by cases h)
instance : Plain Cert := plain_iso _ _ _ (fun _ => rfl) _ _
instance : Enc Rd := isoEnc (fun p => (p.b, p.p)) (fun q => ⟨q.1, q.2⟩) (fun _ => rfl) true (fun h => by cases h)
instance : Plain Rd := plain_iso _ _ _ (fun _ => rfl) _ _

/-- A world whose nodes are written in place. -/
structure WrldA where
  epoch : Int
  nodes : NRef
  log : List Vote
  bad : Int
instance : Enc WrldA := isoEnc (fun p => (p.epoch, p.nodes, p.log, p.bad)) (fun q => ⟨q.1, q.2.1, q.2.2.1, q.2.2.2⟩) (fun _ => rfl) true (fun h => by cases h)
instance : Disl WrldA := ⟨fun _ => rfl⟩
def WrldA.zero : WrldA := ⟨0, .nil, [], 0⟩
/-- A node whose row of votes has room of its own. -/
structure NodS where
  id : Int
  epoch : Int
  voted : Int
  seen : OList Vote
/-- A node whose row of votes has no room. -/
structure NodC where
  id : Int
  epoch : Int
  voted : Int
  seen : CList Vote
/-- The reference's world. -/
structure WrldS where
  epoch : Int
  nodes : NRef
  log : OList Vote
  bad : Int
instance : Enc NodS := isoEnc (fun p => (p.id, p.epoch, p.voted, p.seen)) (fun q => ⟨q.1, q.2.1, q.2.2.1, q.2.2.2⟩) (fun _ => rfl) true (fun h => by cases h)
instance : Enc NodC := isoEnc (fun p => (p.id, p.epoch, p.voted, p.seen)) (fun q => ⟨q.1, q.2.1, q.2.2.1, q.2.2.2⟩) (fun _ => rfl) true (fun h => by cases h)
instance : Plain NodC := plain_iso _ _ _ (fun _ => rfl) _ _
instance : Enc WrldS := isoEnc (fun p => (p.epoch, p.nodes, p.log, p.bad)) (fun q => ⟨q.1, q.2.1, q.2.2.1, q.2.2.2⟩) (fun _ => rfl) true (fun h => by cases h)
def NodS.zero : NodS := ⟨0, 0, 0, ⟨[], true⟩⟩
def NodC.zero : NodC := ⟨0, 0, 0, ⟨[]⟩⟩
def WrldS.zero : WrldS := ⟨0, .nil, ⟨[], true⟩, 0⟩
/-- A world, as the objects 0 and 1. -/
abbrev wA (w : Wrld) : WrldA := ⟨w.epoch, .ref 1, w.log, w.bad⟩
abbrev wo (w : Wrld) : List (Nat × Obj) := [(0, .cell (wA w)), (1, .arr w.nodes)]
theorem obOkW {p : Nat → Bool} {e : Int} {o : Nat} {l : List Vote} {b : Int} (h : p o = true) : obOk p (.cell (WrldA.mk e (.ref o) l b)) := fun o' ho => by
  have : Enc.refs (WrldA.mk e (.ref o) l b) = [o] := rfl
  rw [this] at ho
  simp at ho; subst ho; exact h
theorem obOkW0 {p : Nat → Bool} {e : Int} {l : List Vote} {b : Int} : obOk p (.cell (WrldA.mk e .nil l b)) := fun o' ho => by
  have : Enc.refs (WrldA.mk e .nil l b) = [] := rfl
  rw [this] at ho
  cases ho
theorem wrl_frz {G : Gh} {w : Go.World} {ω : Owner} {e : Int} {o : Nat} {ns : List Nod} {l : List Vote} {b : Int} {cs : List Value} (h : Enc.rd G w ω (WrldA.mk e (.ref o) l b) cs) (ho : RelO G w o (.arr ns)) (hB : ns.length ≤ big) :
    ∃ k, (∀ S, (∀ o, ¬ S o) → Keep S G w (G.frz k) w) ∧ ∀ ω', Enc.rd (G.frz k) w ω' (Wrld.mk e ns l b) cs := by
  obtain ⟨k, n, h1, h2, h3, h4, h5⟩ := frz_elems ho hB
  refine ⟨k, h3, fun ω' => ?_⟩
  obtain ⟨c1, c2, rfl, r1, ⟨c3, c4, rfl, r3, ⟨c5, c6, rfl, r5, r6⟩⟩⟩ := h
  obtain ⟨a, m, c, q1, q2⟩ := r3
  have q2' : G.hdr o = some (.slice a m c) := q2
  rw [h1] at q2'
  injection q2' with q2'
  injection q2' with e1 e2 e3
  subst e1 e2 e3
  refine ⟨c1, _, rfl, r1, c3, _, rfl, ⟨_, _, q1, h2, h5⟩, c5, c6, rfl, Plain.mono h4 (show Enc.rd G w _ l c5 from r5), r6⟩
theorem frz_free {G : Gh} {w : Go.World} {k : Nat} (o : Nat) : RelO (G.frz k) w o .free := rfl
/-- A result whose row is written no more. -/
theorem Ct.frz {P : Program} {f : FuncId} {args : List AV} {r r' : AV} {h' : Nat → Wt.Obj} (k : Ct P f args noObj fun r1 h1 => r1 = r ∧ h1 = h')
    (hx : ∀ G w u, RelV G w (.ret, []) r u → (∀ o, RelO G w o (h' o)) → ∃ G', RelV G' w (.ret, []) r' u ∧ (∀ o, RelO G' w o .free) ∧ ∀ S, (∀ o, ¬ S o) → Keep S G w G' w) : CtP P f args r' := fun G w vs h1 h2 =>
  (k G w vs h1 h2).mono fun e w' ⟨r1, h1', v, G', e1, ⟨e2, e3⟩, e4, e5, e6⟩ => by
    subst e2 e3
    obtain ⟨G'', k1, k2, k3⟩ := hx G' w' v e4 e5
    exact ⟨_, noObj, v, G'', e1, ⟨rfl, rfl⟩, k1, k2, e6.trans (k3 _ (fun o ho => ho rfl))⟩
def Pay.zero : Pay := ⟨0, 0, 0⟩
def Itm.zero : Itm := ⟨0, .zero⟩
def Vote.zero : Vote := ⟨0, []⟩
def Nod.zero : Nod := ⟨0, 0, 0, []⟩
def Wrld.zero : Wrld := ⟨0, [], [], 0⟩
def Evt.zero : Evt := ⟨0, 0, 0, .zero, .zero⟩
def Cert.zero : Cert := ⟨[], []⟩
def Rd.zero : Rd := ⟨[], 0⟩
/-- The cells of a zero value. -/
class ZCells (α : Type) [Enc α] (z : outParam α) where
  cs : List Value
  rd : ∀ G w ω, Enc.rd G w ω z cs
instance : ZCells Int 0 := ⟨[.int .i64 0], fun _ _ _ => rfl⟩
instance : ZCells Bool false := ⟨[.bool false], fun _ _ _ => rfl⟩
instance : ZCells UInt8 0 := ⟨[.int .u8 0], fun _ _ _ => rfl⟩
instance : ZCells ByteArray ByteArray.empty := ⟨[.string ByteArray.empty], fun _ _ _ => rfl⟩
instance {α : Type} [Enc α] [Plain α] : ZCells (List α) [] := ⟨[.slice none 0 0], fun _ _ _ => ⟨none, 0, rfl, Nat.le_refl _, .inl rfl⟩⟩
instance {α : Type} [Enc α] [Plain α] : ZCells (CList α) ⟨[]⟩ := ⟨[.slice none 0 0], fun _ _ _ => ⟨none, rfl, .inl rfl⟩⟩
instance {α β : Type} [Enc α] [Enc β] {x : α} {y : β} [ZCells α x] [ZCells β y] : ZCells (α × β) (x, y) := ⟨ZCells.cs α ++ ZCells.cs β, fun G w ω => ⟨_, _, rfl, ZCells.rd (α := α) _ _ _, ZCells.rd (α := β) _ _ _⟩⟩
instance : ZCells Pay .zero := ⟨ZCells.cs (Int × Int × Int), fun G w ω => ZCells.rd (α := Int × Int × Int) G w ω⟩
instance : ZCells Itm .zero := ⟨ZCells.cs (Int × Pay), fun G w ω => ZCells.rd (α := Int × Pay) G w ω⟩
instance : ZCells Vote .zero := ⟨ZCells.cs (Int × List Itm), fun G w ω => ZCells.rd (α := Int × List Itm) G w ω⟩
instance : ZCells Nod .zero := ⟨ZCells.cs (Int × Int × Int × List Vote), fun G w ω => ZCells.rd (α := Int × Int × Int × List Vote) G w ω⟩
instance : ZCells Wrld .zero := ⟨ZCells.cs (Int × List Nod × List Vote × Int), fun G w ω => ZCells.rd (α := Int × List Nod × List Vote × Int) G w ω⟩
instance : ZCells Evt .zero := ⟨ZCells.cs (Int × Int × Int × Pay × Vote), fun G w ω => ZCells.rd (α := Int × Int × Int × Pay × Vote) G w ω⟩
instance : ZCells Cert .zero := ⟨ZCells.cs (List Itm × List (List Int)), fun G w ω => ZCells.rd (α := List Itm × List (List Int)) G w ω⟩
instance : ZCells Rd .zero := ⟨ZCells.cs (List UInt8 × Int), fun G w ω => ZCells.rd (α := List UInt8 × Int) G w ω⟩
instance : ZCells NRef .nil := ⟨[.slice none 0 0], fun _ _ _ => rfl⟩
instance : ZCells WrldA .zero := ⟨ZCells.cs (Int × NRef × List Vote × Int), fun G w ω => ZCells.rd (α := Int × NRef × List Vote × Int) G w ω⟩
instance {α : Type} [Enc α] [Plain α] : ZCells (OList α) ⟨[], true⟩ := ⟨[.slice none 0 0], fun _ _ _ => ⟨none, 0, rfl, Nat.le_refl _, .inl rfl, fun _ => .inl (by simp)⟩⟩
instance : ZCells NodS .zero := ⟨ZCells.cs (Int × Int × Int × OList Vote), fun G w ω => ZCells.rd (α := Int × Int × Int × OList Vote) G w ω⟩
instance : ZCells NodC .zero := ⟨ZCells.cs (Int × Int × Int × CList Vote), fun G w ω => ZCells.rd (α := Int × Int × Int × CList Vote) G w ω⟩
instance : ZCells WrldS .zero := ⟨ZCells.cs (Int × NRef × OList Vote × Int), fun G w ω => ZCells.rd (α := Int × NRef × OList Vote × Int) G w ω⟩
theorem zero_mk {P : Program} {T : TypeId} {α : Type} [Enc α] {z : α} [zc : ZCells α z] (h : (P.info? T).map (·.zero) = some (some (Enc.val α (ZCells.cs α)))) : ZeroOk P T z := by
  cases hi : P.info? T with
  | none => rw [hi] at h; cases h
  | some i =>
    rw [hi] at h
    simp only [Option.map_some, Option.some.injEq] at h
    exact ⟨i, _, hi, h, zc.rd⟩

/-! Records that are the same -/
section eq
variable {P : Program} {w : Go.World}
abbrev sig (P : Program) (T : TypeId) : List (Bool × TypeId × Nat) := (P.fieldsOf T).toList.map fun f => (f.name == "_", f.type, f.offset)
theorem part_int {T : TypeId} (ty : TyOk P T Int) {xs : Array Value} {off : Nat} {v : Value} (h : xs[off]? = some v) : (part T xs off).run P w = .ok v w := by
  have h0 := ty.isAgg w
  simp only [part, Sem.run_bind, h0, Result.andThen_ok]
  simp [Enc.agg, h]
theorem eqf_int {d : Nat} {f : Field} {fs : List Field} {xs ys : Array Value} {a b : Int} (hn : (f.name == "_") = false) (ty : TyOk P f.type Int) (hu : P.underlying f.type = some (.int .i64)) (hx : xs[f.offset]? = some (.int .i64 a)) (hy : ys[f.offset]? = some (.int .i64 b)) :
    (Op.eqFields (d + 1) xs ys (f :: fs)).run P w = if a = b then (Op.eqFields (d + 1) xs ys fs).run P w else .ok false w := by
  have hn' : f.name ≠ "_" := by intro e; simp [e] at hn
  simp only [Op.eqFields, if_pos hn', Sem.run_bind, part_int ty hx, part_int ty hy, Result.andThen_ok, run_equalIn_int w d f.type .i64 .i64 a b hu]
  by_cases e : a = b <;> simp [e]
theorem eqf_agg {d : Nat} {f : Field} {fs : List Field} {xs ys : Array Value} {α : Type} [Enc α] {us vs : Array Value} {r : Bool} (hn : (f.name == "_") = false) (ty : TyOk P f.type α) (ha : Enc.agg α = true) (hx : xs.extract f.offset (f.offset + Enc.size α) = us) (hy : ys.extract f.offset (f.offset + Enc.size α) = vs)
    (hr : (Op.equalIn d f.type (.agg us) (.agg vs)).run P w = .ok r w) :
    (Op.eqFields d xs ys (f :: fs)).run P w = if r then (Op.eqFields d xs ys fs).run P w else .ok false w := by
  have hn' : f.name ≠ "_" := by intro e; simp [e] at hn
  have hp : ∀ zs : Array Value, (part f.type zs f.offset).run P w = .ok (.agg (zs.extract f.offset (f.offset + Enc.size α))) w := fun zs => by
    simp only [part, Sem.run_bind, ty.isAgg, ty.size, ha, Result.andThen_ok, if_true, Sem.run_pure]
  simp only [Op.eqFields, if_pos hn', Sem.run_bind, hp, hx, hy, Result.andThen_ok, hr]
  cases r <;> simp
theorem pay_cells {G w ω} {x : Pay} {cs} (h : Enc.rd G w ω x cs) : cs = [.int .i64 x.frm, .int .i64 x.to, .int .i64 x.sum] := by
  obtain ⟨c1, c2, rfl, h1, ⟨c3, c4, rfl, h3, h4⟩⟩ := h
  rw [show c1 = [_] from h1, show c3 = [_] from h3, show c4 = [_] from h4]; rfl
theorem itm_cells {G w ω} {x : Itm} {cs} (h : Enc.rd G w ω x cs) : cs = [.int .i64 x.epoch, .int .i64 x.pay.frm, .int .i64 x.pay.to, .int .i64 x.pay.sum] := by
  obtain ⟨c1, c2, rfl, h1, h2⟩ := h
  rw [show c1 = [_] from h1, pay_cells (show Enc.rd _ _ _ x.pay c2 from h2)]; rfl
theorem pay_eq {T Ti : TypeId} (hU : P.underlying T = some (.struct (P.fieldsOf T))) (hst : P.stoodInHeld T = false) (hf : sig P T = [(false, Ti, 0), (false, Ti, 1), (false, Ti, 2)]) (ty : TyOk P Ti Int) (hi : P.underlying Ti = some (.int .i64)) (d : Nat) (x y : Pay) :
    (Op.equalIn (d + 2) T (.agg #[.int .i64 x.frm, .int .i64 x.to, .int .i64 x.sum]) (.agg #[.int .i64 y.frm, .int .i64 y.to, .int .i64 y.sum])).run P w = .ok (decide (x = y)) w := by
  rw [run_equalIn_agg w (d + 1) T _ _ hU hst]
  unfold sig at hf
  generalize (P.fieldsOf T).toList = fs at hf
  · obtain ⟨f0, fs, rfl, h0, hf⟩ := List.map_eq_cons_iff.1 hf
    obtain ⟨f1, fs, rfl, h1, hf⟩ := List.map_eq_cons_iff.1 hf
    obtain ⟨f2, fs, rfl, h2, hf⟩ := List.map_eq_cons_iff.1 hf
    obtain rfl := List.map_eq_nil_iff.1 hf
    simp only [Prod.mk.injEq] at h0 h1 h2
    obtain ⟨n0, t0, o0⟩ := h0
    obtain ⟨n1, t1, o1⟩ := h1
    obtain ⟨n2, t2, o2⟩ := h2
    rw [eqf_int n0 (by rw [t0]; exact ty) (by rw [t0]; exact hi) (a := x.frm) (b := y.frm) (by rw [o0]; rfl) (by rw [o0]; rfl),
      eqf_int n1 (by rw [t1]; exact ty) (by rw [t1]; exact hi) (a := x.to) (b := y.to) (by rw [o1]; rfl) (by rw [o1]; rfl),
      eqf_int n2 (by rw [t2]; exact ty) (by rw [t2]; exact hi) (a := x.sum) (b := y.sum) (by rw [o2]; rfl) (by rw [o2]; rfl)]
    obtain ⟨a1, a2, a3⟩ := x
    obtain ⟨b1, b2, b3⟩ := y
    simp only [Op.eqFields, Sem.run_pure, Pay.mk.injEq]
    by_cases e1 : a1 = b1 <;> by_cases e2 : a2 = b2 <;> by_cases e3 : a3 = b3 <;> simp [e1, e2, e3]
theorem EqOk.itm {T Ti Tp : TypeId} (hU : P.underlying T = some (.struct (P.fieldsOf T))) (hst : P.stoodInHeld T = false) (hg : P.eqGuardType P.depth T = false) (hf : sig P T = [(false, Ti, 0), (false, Tp, 1)]) (ty : TyOk P Ti Int) (hi : P.underlying Ti = some (.int .i64))
    (tp : TyOk P Tp Pay) (hU' : P.underlying Tp = some (.struct (P.fieldsOf Tp))) (hst' : P.stoodInHeld Tp = false) (hf' : sig P Tp = [(false, Ti, 0), (false, Ti, 1), (false, Ti, 2)]) : EqOk P T Itm :=
  ⟨rfl, hg, fun G G' w ω ω' x y cs ds h1 h2 => by
    rw [itm_cells h1, itm_cells h2]
    rw [run_equalIn_agg w 9999 T _ _ hU hst]
    unfold sig at hf
    generalize (P.fieldsOf T).toList = fs at hf
    · obtain ⟨f0, fs, rfl, h0, hf⟩ := List.map_eq_cons_iff.1 hf
      obtain ⟨f1, fs, rfl, h1, hf⟩ := List.map_eq_cons_iff.1 hf
      obtain rfl := List.map_eq_nil_iff.1 hf
      simp only [Prod.mk.injEq] at h0 h1
      obtain ⟨n0, t0, o0⟩ := h0
      obtain ⟨n1, t1, o1⟩ := h1
      rw [eqf_int (d := 9998) n0 (by rw [t0]; exact ty) (by rw [t0]; exact hi) (a := x.epoch) (b := y.epoch) (by rw [o0]; rfl) (by rw [o0]; rfl),
        eqf_agg (α := Pay) n1 (by rw [t1]; exact tp) rfl (us := #[.int .i64 x.pay.frm, .int .i64 x.pay.to, .int .i64 x.pay.sum]) (vs := #[.int .i64 y.pay.frm, .int .i64 y.pay.to, .int .i64 y.pay.sum]) (by rw [o1]; rfl) (by rw [o1]; rfl) (r := decide (x.pay = y.pay)) (by rw [t1]; exact pay_eq hU' hst' hf' ty hi 9997 x.pay y.pay)]
      obtain ⟨a1, a2⟩ := x
      obtain ⟨b1, b2⟩ := y
      simp only [Op.eqFields, Sem.run_pure, Itm.mk.injEq]
      by_cases e1 : a1 = b1 <;> by_cases e2 : a2 = b2 <;> simp [e1, e2]⟩
end eq
section lens
variable (α β γ δ ε : Type) [Enc α] [Enc β] [Enc γ] [Enc δ] [Enc ε]
end lens
theorem Pay.l0 : IsLens Pay.frm (fun x y => { x with frm := y }) 0 [0] := (IsLens.fst Int (Int × Int)).iso (fun _ => rfl) (fun _ _ => rfl)
theorem Pay.l1 : IsLens Pay.to (fun x y => { x with to := y }) 1 [1, 0] := ((IsLens.snd Int (Int × Int)).comp (IsLens.fst Int Int)).iso (fun _ => rfl) (fun _ _ => rfl)
theorem Pay.l2 : IsLens Pay.sum (fun x y => { x with sum := y }) 2 [1, 1] := ((IsLens.snd Int (Int × Int)).comp (IsLens.snd Int Int)).iso (fun _ => rfl) (fun _ _ => rfl)
theorem Itm.l0 : IsLens Itm.epoch (fun x y => { x with epoch := y }) 0 [0] := (IsLens.fst Int Pay).iso (fun _ => rfl) (fun _ _ => rfl)
theorem Itm.l1 : IsLens Itm.pay (fun x y => { x with pay := y }) 1 [1] := (IsLens.snd Int Pay).iso (fun _ => rfl) (fun _ _ => rfl)
theorem Vote.l0 : IsLens Vote.by_ (fun x y => { x with by_ := y }) 0 [0] := (IsLens.fst Int (List Itm)).iso (fun _ => rfl) (fun _ _ => rfl)
theorem Vote.l1 : IsLens Vote.chain (fun x y => { x with chain := y }) 1 [1] := (IsLens.snd Int (List Itm)).iso (fun _ => rfl) (fun _ _ => rfl)
theorem Nod.l0 : IsLens Nod.id (fun x y => { x with id := y }) 0 [0] := (IsLens.fst Int (Int × Int × List Vote)).iso (fun _ => rfl) (fun _ _ => rfl)
theorem Nod.l1 : IsLens Nod.epoch (fun x y => { x with epoch := y }) 1 [1, 0] := ((IsLens.snd Int (Int × Int × List Vote)).comp (IsLens.fst _ _)).iso (fun _ => rfl) (fun _ _ => rfl)
theorem Nod.l2 : IsLens Nod.voted (fun x y => { x with voted := y }) 2 [1, 1, 0] := ((IsLens.snd Int (Int × Int × List Vote)).comp ((IsLens.snd _ _).comp (IsLens.fst _ _))).iso (fun _ => rfl) (fun _ _ => rfl)
theorem Nod.l3 : IsLens Nod.seen (fun x y => { x with seen := y }) 3 [1, 1, 1] := ((IsLens.snd Int (Int × Int × List Vote)).comp ((IsLens.snd _ _).comp (IsLens.snd _ _))).iso (fun _ => rfl) (fun _ _ => rfl)
theorem Wrld.l0 : IsLens Wrld.epoch (fun x y => { x with epoch := y }) 0 [0] := (IsLens.fst Int (List Nod × List Vote × Int)).iso (fun _ => rfl) (fun _ _ => rfl)
theorem Wrld.l1 : IsLens Wrld.nodes (fun x y => { x with nodes := y }) 1 [1, 0] := ((IsLens.snd Int (List Nod × List Vote × Int)).comp (IsLens.fst _ _)).iso (fun _ => rfl) (fun _ _ => rfl)
theorem Wrld.l2 : IsLens Wrld.log (fun x y => { x with log := y }) 2 [1, 1, 0] := ((IsLens.snd Int (List Nod × List Vote × Int)).comp ((IsLens.snd _ _).comp (IsLens.fst _ _))).iso (fun _ => rfl) (fun _ _ => rfl)
theorem Wrld.l3 : IsLens Wrld.bad (fun x y => { x with bad := y }) 3 [1, 1, 1] := ((IsLens.snd Int (List Nod × List Vote × Int)).comp ((IsLens.snd _ _).comp (IsLens.snd _ _))).iso (fun _ => rfl) (fun _ _ => rfl)
theorem NodS.l0 : IsLens NodS.id (fun x y => { x with id := y }) 0 [0] := (IsLens.fst Int (Int × Int × OList Vote)).iso (fun _ => rfl) (fun _ _ => rfl)
theorem NodS.l1 : IsLens NodS.epoch (fun x y => { x with epoch := y }) 1 [1, 0] := ((IsLens.snd Int (Int × Int × OList Vote)).comp (IsLens.fst _ _)).iso (fun _ => rfl) (fun _ _ => rfl)
theorem NodS.l2 : IsLens NodS.voted (fun x y => { x with voted := y }) 2 [1, 1, 0] := ((IsLens.snd Int (Int × Int × OList Vote)).comp ((IsLens.snd _ _).comp (IsLens.fst _ _))).iso (fun _ => rfl) (fun _ _ => rfl)
theorem NodS.l3 : IsLens NodS.seen (fun x y => { x with seen := y }) 3 [1, 1, 1] := ((IsLens.snd Int (Int × Int × OList Vote)).comp ((IsLens.snd _ _).comp (IsLens.snd _ _))).iso (fun _ => rfl) (fun _ _ => rfl)
theorem NodC.l0 : IsLens NodC.id (fun x y => { x with id := y }) 0 [0] := (IsLens.fst Int (Int × Int × CList Vote)).iso (fun _ => rfl) (fun _ _ => rfl)
theorem NodC.l3 : IsLens NodC.seen (fun x y => { x with seen := y }) 3 [1, 1, 1] := ((IsLens.snd Int (Int × Int × CList Vote)).comp ((IsLens.snd _ _).comp (IsLens.snd _ _))).iso (fun _ => rfl) (fun _ _ => rfl)
theorem WrldS.l0 : IsLens WrldS.epoch (fun x y => { x with epoch := y }) 0 [0] := (IsLens.fst Int (NRef × OList Vote × Int)).iso (fun _ => rfl) (fun _ _ => rfl)
theorem WrldS.l1 : IsLens WrldS.nodes (fun x y => { x with nodes := y }) 1 [1, 0] := ((IsLens.snd Int (NRef × OList Vote × Int)).comp (IsLens.fst _ _)).iso (fun _ => rfl) (fun _ _ => rfl)
theorem WrldS.l2 : IsLens WrldS.log (fun x y => { x with log := y }) 2 [1, 1, 0] := ((IsLens.snd Int (NRef × OList Vote × Int)).comp ((IsLens.snd _ _).comp (IsLens.fst _ _))).iso (fun _ => rfl) (fun _ _ => rfl)
theorem WrldS.l3 : IsLens WrldS.bad (fun x y => { x with bad := y }) 3 [1, 1, 1] := ((IsLens.snd Int (NRef × OList Vote × Int)).comp ((IsLens.snd _ _).comp (IsLens.snd _ _))).iso (fun _ => rfl) (fun _ _ => rfl)
theorem Conv.co {α : Type} [Enc α] [Plain α] {xs : CList α} : Conv (.v xs) (.v (OList.mk xs.l true)) := fun {G w ω ω' u} ⟨cs, ⟨a, h1, h3⟩, h4⟩ => ⟨cs, ⟨a, _, h1, Nat.le_refl _, h3, fun _ => .inl (Nat.le_refl _)⟩, h4⟩
def NodC.s (n : NodC) : NodS := ⟨n.id, n.epoch, n.voted, ⟨n.seen.l, true⟩⟩
theorem NodC.rd_s {G : Gh} {w : Go.World} {ω : Owner} {n : NodC} {cs : List Value} (h : Enc.rd G w ω n cs) : Enc.rd G w ω n.s cs := by
  obtain ⟨c1, c2, rfl, r1, ⟨c3, c4, rfl, r3, ⟨c5, c6, rfl, r5, ⟨a, h1, h3⟩⟩⟩⟩ := h
  exact ⟨c1, _, rfl, r1, c3, _, rfl, r3, c5, _, rfl, r5, ⟨a, _, h1, Nat.le_refl _, h3, fun _ => .inl (Nat.le_refl _)⟩⟩
theorem arr_s {G : Gh} {w : Go.World} {o : Nat} {ns : List NodC} (h : RelO G w o (.arr ns)) : RelO G w o (.arr (ns.map NodC.s)) := by
  obtain ⟨b, cap, cs, e, h1, h2, h3, h4, h5, h6⟩ := h
  refine ⟨b, cap, cs, e, by simpa using h1, h2, by simpa using h3, h4, fun i x hx => ?_, h6⟩
  rw [List.getElem?_map] at hx
  cases hn : ns[i]? with
  | none => rw [hn] at hx; cases hx
  | some n =>
    rw [hn] at hx
    simp at hx
    subst hx
    obtain ⟨c, c1, c2⟩ := h5 i n hn
    exact ⟨c, NodC.rd_s c1, c2⟩
theorem Evt.l0 : IsLens Evt.kind (fun x y => { x with kind := y }) 0 [0] := (IsLens.fst Int (Int × Int × Pay × Vote)).iso (fun _ => rfl) (fun _ _ => rfl)
theorem Evt.l1 : IsLens Evt.a (fun x y => { x with a := y }) 1 [1, 0] := ((IsLens.snd Int (Int × Int × Pay × Vote)).comp (IsLens.fst _ _)).iso (fun _ => rfl) (fun _ _ => rfl)
theorem Evt.l2 : IsLens Evt.b (fun x y => { x with b := y }) 2 [1, 1, 0] := ((IsLens.snd Int (Int × Int × Pay × Vote)).comp ((IsLens.snd _ _).comp (IsLens.fst _ _))).iso (fun _ => rfl) (fun _ _ => rfl)
theorem Evt.l3 : IsLens Evt.pay (fun x y => { x with pay := y }) 3 [1, 1, 1, 0] := ((IsLens.snd Int (Int × Int × Pay × Vote)).comp ((IsLens.snd _ _).comp ((IsLens.snd _ _).comp (IsLens.fst _ _)))).iso (fun _ => rfl) (fun _ _ => rfl)
theorem Evt.l4 : IsLens Evt.vote (fun x y => { x with vote := y }) 6 [1, 1, 1, 1] := ((IsLens.snd Int (Int × Int × Pay × Vote)).comp ((IsLens.snd _ _).comp ((IsLens.snd _ _).comp (IsLens.snd _ _)))).iso (fun _ => rfl) (fun _ _ => rfl)
theorem Cert.l0 : IsLens Cert.chain (fun x y => { x with chain := y }) 0 [0] := (IsLens.fst (List Itm) (List (List Int))).iso (fun _ => rfl) (fun _ _ => rfl)
theorem Cert.l1 : IsLens Cert.by_ (fun x y => { x with by_ := y }) 1 [1] := (IsLens.snd (List Itm) (List (List Int))).iso (fun _ => rfl) (fun _ _ => rfl)
theorem Rd.l0 : IsLens Rd.b (fun x y => { x with b := y }) 0 [0] := (IsLens.fst (List UInt8) Int).iso (fun _ => rfl) (fun _ _ => rfl)
theorem Rd.l1 : IsLens Rd.p (fun x y => { x with p := y }) 1 [1] := (IsLens.snd (List UInt8) Int).iso (fun _ => rfl) (fun _ _ => rfl)
end Go.Wt

/- What the program computes, as functions on lists. -/
namespace Go.Wt

theorem not_t {b : Bool} (h : (!b) = true) : b = false := by simpa using h
theorem not_f {b : Bool} (h : (!b) = false) : b = true := by simpa using h
def within (n lo hi : Int) : Bool := decide (lo ≤ n) && decide (n ≤ hi)
def payOk (p : Pay) : Bool := within p.frm 1 3 && within p.to 1 3 && (p.frm != p.to) && within p.sum 1 9
/-- Items that may follow an item of epoch `e`. -/
def chainFrom : Int → List Itm → Bool
  | _, [] => true
  | e, x :: r => within x.epoch 1 30 && payOk x.pay && decide (e < x.epoch) && chainFrom x.epoch r
def chainOk (c : List Itm) : Bool := chainFrom 0 c && decide (c.length ≤ 16)

/-- What the item at place `k` has to be. -/
def itemOk (c : List Itm) (k : Nat) (x : Itm) : Bool :=
  within x.epoch 1 30 && payOk x.pay && (match k with | 0 => true | k + 1 => match c[k]? with | some y => decide (y.epoch < x.epoch) | none => true)
theorem chainFrom_iff (c : List Itm) : ∀ (pre : List Itm) (e : Int), (match pre.getLast? with | some y => y.epoch = e | none => e = 0) →
    (chainFrom e c = true ↔ ∀ (k : Nat) (x : Itm), c[k]? = some x → itemOk (pre ++ c) (pre.length + k) x = true) := by
  induction c with
  | nil => intro pre e _; simp [chainFrom]
  | cons x c ih =>
    intro pre e he
    have h1 := ih (pre ++ [x]) x.epoch (by simp)
    simp only [List.append_assoc, List.singleton_append, List.length_append, List.length_cons, List.length_nil] at h1
    have h0 : itemOk (pre ++ x :: c) pre.length x = (within x.epoch 1 30 && payOk x.pay && decide (e < x.epoch)) := by
      unfold itemOk
      cases hp : pre.length with
      | zero =>
        have : pre = [] := List.eq_nil_of_length_eq_zero hp
        subst this
        simp at he
        subst he
        simp only [Bool.and_true]
        cases hw : within x.epoch 1 30 with
        | false => simp
        | true =>
          simp [within] at hw
          have : decide (0 < x.epoch) = true := by simp; omega
          simp [this]
      | succ k =>
        have hk : pre.getLast? = pre[k]? := by rw [List.getLast?_eq_getElem?, hp]; rfl
        have hlt : k < pre.length := by omega
        rw [hk, List.getElem?_eq_getElem hlt] at he
        simp only at he
        simp only [List.getElem?_append_left hlt, List.getElem?_eq_getElem hlt, he]
    simp only [chainFrom]
    rw [← h0]
    constructor
    · intro h k y hk
      rw [Bool.and_eq_true] at h
      cases k with
      | zero => simp at hk; subst hk; simpa using h.1
      | succ k =>
        have := h1.1 h.2 k y (by simpa using hk)
        rwa [show pre.length + (0 + 1) + k = pre.length + (k + 1) by omega] at this
    · intro h
      rw [Bool.and_eq_true]
      refine ⟨by simpa using h 0 x rfl, h1.2 fun k y hk => ?_⟩
      have := h (k + 1) y (by simpa using hk)
      rwa [show pre.length + (k + 1) = pre.length + (0 + 1) + k by omega] at this
theorem chainFrom_items (c : List Itm) : chainFrom 0 c = true ↔ ∀ (k : Nat) (x : Itm), c[k]? = some x → itemOk c k x = true := by
  have := chainFrom_iff c [] 0 rfl
  simpa using this
end Go.Wt
namespace Go.Wt
theorem itemOk_nat (c : List Itm) (k : Nat) (x : Itm) : itemOk c k x = (within x.epoch 1 30 && payOk x.pay && !(decide ((0 : Int) < k) && (match c[k - 1]? with | some y => decide (x.epoch ≤ y.epoch) | none => false))) := by
  unfold itemOk
  cases k with
  | zero => simp
  | succ k =>
    simp only [Nat.add_sub_cancel]
    have : decide ((0 : Int) < ((k + 1 : Nat) : Int)) = true := by simp <;> omega
    rw [this]
    cases h : c[k]? with
    | none => simp
    | some y =>
      have : decide (y.epoch < x.epoch) = !decide (x.epoch ≤ y.epoch) := by rw [Bool.eq_iff_iff]; simp
      simp [this]
theorem chainOk_bad {c : List Itm} {k : Nat} {x : Itm} (hx : c[k]? = some x) (h : itemOk c k x = false) : chainOk c = false := by
  unfold chainOk
  cases hc : chainFrom 0 c with
  | false => rfl
  | true => exact absurd ((chainFrom_items c).1 hc k x hx) (by simp [h])
theorem chainOk_more {c : List Itm} {k : Nat} {x : Itm} (hx : c[k]? = some x) (hall : ∀ (j : Nat) (x : Itm), j < k → c[j]? = some x → itemOk c j x = true) (h : itemOk c k x = true)
    {j : Nat} {y : Itm} (hj : j < k + 1) (hy : c[j]? = some y) : itemOk c j y = true := by
  rcases Nat.lt_or_ge j k with h1 | h1
  · exact hall j y h1 hy
  · have : j = k := by omega
    subst this
    rw [hx] at hy
    injection hy with hy
    rw [← hy]; exact h
theorem chainOk_good {c : List Itm} {k : Nat} (hk : c.length ≤ k) (hall : ∀ (j : Nat) (x : Itm), j < k → c[j]? = some x → itemOk c j x = true) : chainOk c = decide ((c.length : Int) ≤ 16) := by
  unfold chainOk
  rw [(chainFrom_items c).2 fun j x hx => hall j x (by have := (List.getElem?_eq_some_iff.1 hx).1; omega) hx]
  rw [Bool.true_and, decide_eq_decide]; omega
end Go.Wt
namespace Go.Wt
/-! ### Searching -/
def ixf {α : Type} (p : α → Bool) : List α → Int → Int
  | [], _ => -1
  | x :: r, k => if p x then k else ixf p r (k + 1)
theorem drop_at {α : Type} {l : List α} {k : Nat} {x : α} (h : l[k]? = some x) : l.drop k = x :: l.drop (k + 1) := by
  obtain ⟨h1, h2⟩ := List.getElem?_eq_some_iff.1 h
  rw [List.drop_eq_getElem_cons h1, h2]
theorem ixf_drop {α : Type} {p : α → Bool} {l : List α} {k : Nat} {x : α} (h : l[k]? = some x) : ixf p (l.drop k) k = if p x then (k : Int) else ixf p (l.drop (k + 1)) (k + 1 : Nat) := by
  rw [drop_at h]; rfl
theorem ixf_any {α : Type} (p : α → Bool) : ∀ (l : List α) (k : Int), 0 ≤ k → decide (0 ≤ ixf p l k) = l.any p
  | [], _, _ => by simp [ixf]
  | x :: r, k, h => by
    simp only [ixf, List.any_cons]
    by_cases hp : p x = true
    · simp [hp, h]
    · simp only [Bool.not_eq_true] at hp
      simp only [hp, Bool.false_eq_true, if_false, Bool.false_or]
      exact ixf_any p r (k + 1) (by omega)
theorem drop_end {α : Type} {l : List α} {k : Nat} (h : l.length ≤ k) : l.drop k = [] := List.drop_eq_nil_of_le h
theorem take_end {α : Type} {l : List α} {k : Nat} (h : l.length ≤ k) : l.take k = l := List.take_of_length_le h
theorem take_at {α : Type} {l : List α} {k : Nat} {x : α} (h : l[k]? = some x) : l.take (k + 1) = l.take k ++ [x] := by
  obtain ⟨h1, h2⟩ := List.getElem?_eq_some_iff.1 h
  rw [List.take_succ_eq_append_getElem h1, h2]
/-- Two lists that are the same from a place on. -/
theorem same_drop {α : Type} [DecidableEq α] {a b : List α} {k : Nat} {x y : α} (h1 : a[k]? = some x) (h2 : b[k]? = some y) : decide (a.drop k = b.drop k) = (decide (x = y) && decide (a.drop (k + 1) = b.drop (k + 1))) := by
  rw [drop_at h1, drop_at h2]
  by_cases e : x = y <;> simp [e]
/-! ### Votes -/
def voteOk (v : Vote) : Bool := within v.by_ 1 4 && decide (0 < v.chain.length) && chainOk v.chain
def lastEp (c : List Itm) : Int := match c.getLast? with | some x => x.epoch | none => 0
def leader (e : Int) : Int := if within e 1 30 then (e - 1).tmod 4 + 1 else 0
/-- The votes of `r` are in form, and differ from each other and from those of `pre`. -/
def votesOkFrom (pre : List Vote) : List Vote → Bool
  | [] => true
  | v :: r => voteOk v && !decide (v ∈ pre) && votesOkFrom (pre ++ [v]) r
def votesOk (l : List Vote) : Bool := votesOkFrom [] l
theorem votesOk_drop {l : List Vote} {k : Nat} {x : Vote} (h : l[k]? = some x) : votesOkFrom (l.take k) (l.drop k) = (voteOk x && !decide (x ∈ l.take k) && votesOkFrom (l.take (k + 1)) (l.drop (k + 1))) := by
  rw [drop_at h, take_at h]; rfl
def voters (l : List Vote) (c : List Itm) : List Int := ([1, 2, 3, 4] : List Int).filter fun n => decide (Vote.mk n c ∈ l)
def sureFrom (l : List Vote) (c : List Itm) : Nat → Nat → Bool
  | _, 0 => true
  | k, n + 1 => decide (3 ≤ (voters l (c.take (k + 1))).length) && sureFrom l c (k + 1) n
/-- All beginnings of a chain have votes enough. -/
def sure (l : List Vote) (c : List Itm) : Bool := sureFrom l c 0 c.length
end Go.Wt
namespace Go.Wt
theorem lastEp_get {c : List Itm} {x : Itm} (h : c[c.length - 1]? = some x) : lastEp c = x.epoch := by
  unfold lastEp; rw [List.getLast?_eq_getElem?, h]
/-- All sure chains, as they were voted for first. -/
def allStep (l : List Vote) (out : List (List Itm)) (v : Vote) : List (List Itm) := if !decide (v.chain ∈ out) && sure l v.chain then out ++ [v.chain] else out
def allOf (l : List Vote) : List (List Itm) := l.foldl (allStep l) [[]]
def tipStep (out c : List Itm) : List Itm := if decide (out.length < c.length) then c else out
def tipOf (l : List Vote) : List Itm := (allOf l).foldl tipStep []
def finFrom (c : List Itm) : Nat → Int
  | 0 => 0
  | n + 1 => if decide (2 < n + 1) && (match c[n - 2]?, c[n - 1]?, c[n]? with | some x, some y, some z => decide (x.epoch + 1 = y.epoch) && decide (y.epoch + 1 = z.epoch) | _, _, _ => false) then n else finFrom c n
/-- How long the final part is. -/
def finLen (c : List Itm) : Int := finFrom c c.length
def shownStep (out c : List Itm) : List Itm := if decide (finLen out < finLen c) then c else out
def shownOf (l : List Vote) : List Itm := (allOf l).foldl shownStep []
def finalOf (l : List Vote) : List Itm := (shownOf l).take (finLen (shownOf l)).toNat
theorem foldl_at {α β : Type} (f : β → α → β) (b : β) {l : List α} {k : Nat} {x : α} (h : l[k]? = some x) : (l.take (k + 1)).foldl f b = f ((l.take k).foldl f b) x := by
  rw [take_at h, List.foldl_append]; rfl
theorem finFrom_le (c : List Itm) : ∀ n : Nat, 0 ≤ finFrom c n ∧ finFrom c n ≤ n
  | 0 => by simp [finFrom]
  | n + 1 => by
    have := finFrom_le c n
    simp only [finFrom]
    split <;> omega
end Go.Wt
namespace Go.Wt
theorem allStep_mem (l : List Vote) : ∀ (r : List Vote) (o : List (List Itm)) (c : List Itm), c ∈ r.foldl (allStep l) o → c ∈ o ∨ ∃ v ∈ r, v.chain = c
  | [], o, c, h => .inl h
  | v :: r, o, c, h => by
    rcases allStep_mem l r (allStep l o v) c h with h | ⟨u, h1, h2⟩
    · unfold allStep at h
      split at h
      · rcases List.mem_append.1 h with h | h
        · exact .inl h
        · simp at h; exact .inr ⟨v, by simp, h.symm⟩
      · exact .inl h
    · exact .inr ⟨u, by simp [h1], h2⟩
theorem allOf_mem (l : List Vote) (c : List Itm) (h : c ∈ allOf l) : c = [] ∨ ∃ v ∈ l, v.chain = c := by
  rcases allStep_mem l l [[]] c h with h | h
  · simp at h; exact .inl h
  · exact .inr h
theorem tip_mem : ∀ (r : List (List Itm)) (o : List Itm), r.foldl tipStep o = o ∨ r.foldl tipStep o ∈ r
  | [], o => .inl rfl
  | c :: r, o => by
    rcases tip_mem r (tipStep o c) with h | h
    · simp only [List.foldl_cons, h]
      unfold tipStep
      split
      · exact .inr (by simp)
      · exact .inl rfl
    · exact .inr (by simp [h])
end Go.Wt
namespace Go.Wt
/-! ### Nodes -/
theorem votesOkFrom_mem : ∀ (r pre : List Vote), votesOkFrom pre r = true → ∀ v ∈ r, voteOk v = true
  | [], _, _, v, hv => by cases hv
  | u :: r, pre, h, v, hv => by
    simp only [votesOkFrom, Bool.and_eq_true] at h
    rcases List.mem_cons.1 hv with rfl | hv
    · exact h.1.1
    · exact votesOkFrom_mem r _ h.2 v hv
theorem votesOk_mem {l : List Vote} (h : votesOk l = true) : ∀ v ∈ l, voteOk v = true := votesOkFrom_mem l [] h
theorem chainFrom_ep : ∀ (c : List Itm) (e : Int), chainFrom e c = true → ∀ x ∈ c, 1 ≤ x.epoch ∧ x.epoch ≤ 30
  | [], _, _, x, hx => by cases hx
  | y :: c, e, h, x, hx => by
    simp only [chainFrom, Bool.and_eq_true] at h
    rcases List.mem_cons.1 hx with rfl | hx
    · simpa [within] using h.1.1.1
    · exact chainFrom_ep c _ h.2 x hx
theorem chainOk_ep {c : List Itm} (h : chainOk c = true) : ∀ x ∈ c, 1 ≤ x.epoch ∧ x.epoch ≤ 30 := by
  simp only [chainOk, Bool.and_eq_true] at h
  exact chainFrom_ep c 0 h.1
theorem chainOk_len {c : List Itm} (h : chainOk c = true) : c.length ≤ 16 := by
  simp only [chainOk, Bool.and_eq_true] at h
  simpa using h.2
theorem voteOk_pos {v : Vote} (h : voteOk v = true) : 0 < v.chain.length := by
  simp only [voteOk, Bool.and_eq_true] at h
  simpa using h.1.2
theorem voteOk_chain {v : Vote} (h : voteOk v = true) : chainOk v.chain = true := by
  simp only [voteOk, Bool.and_eq_true] at h
  exact h.2
theorem voteOk_len {v : Vote} (h : voteOk v = true) : v.chain.length ≤ 1000000 := by have := chainOk_len (voteOk_chain h); omega
theorem voteOk_ep {v : Vote} (h : voteOk v = true) : ∀ x ∈ v.chain, 0 ≤ x.epoch ∧ x.epoch ≤ 1000000 := fun x hx => by have := chainOk_ep (voteOk_chain h) x hx; omega
/-- Votes in form, not too many. -/
structure Gd (l : List Vote) : Prop where
  len : l.length ≤ 1000
  ok : ∀ v ∈ l, voteOk v = true
theorem Gd.l {l : List Vote} (h : Gd l) : l.length ≤ 100000 := by have := h.len; omega
theorem Gd.l' {l : List Vote} (h : Gd l) : l.length ≤ 1000000 := by have := h.len; omega
theorem Gd.v {l : List Vote} (h : Gd l) : ∀ v ∈ l, v.chain.length ≤ 1000000 := fun v hv => voteOk_len (h.ok v hv)
theorem Gd.e {l : List Vote} (h : Gd l) : ∀ v ∈ l, ∀ x ∈ v.chain, 0 ≤ x.epoch ∧ x.epoch ≤ 1000000 := fun v hv => voteOk_ep (h.ok v hv)
theorem Gd.tip {l : List Vote} (h : Gd l) : (tipOf l).length ≤ 16 := by
  rcases tip_mem (allOf l) [] with e | e
  · unfold tipOf; rw [e]; simp
  · rcases allOf_mem l _ e with e | ⟨v, h1, h2⟩
    · unfold tipOf; rw [e]; simp
    · unfold tipOf; rw [← h2]; exact chainOk_len (voteOk_chain (h.ok v h1))
def nodeOk0 (n : Nod) : Bool := within n.id 1 4 && within n.epoch 0 30 && within n.voted 0 n.epoch && decide (n.seen.length ≤ 80) && votesOk n.seen
def late (n : Nod) (v : Vote) : Bool := decide (v.by_ = n.id) && decide (n.voted < lastEp v.chain)
def nodeOk (n : Nod) : Bool := nodeOk0 n && !(n.seen.any (late n))
def mayN (n : Nod) : Bool := decide (0 < n.epoch) && (n.voted != n.epoch)
def enterF (n : Nod) (e : Int) : Nod := if within e (n.epoch + 1) 30 then { n with epoch := e } else n
def voteF (n : Nod) (c : List Itm) : Nod × Vote × Bool :=
  if decide (80 ≤ n.seen.length) then (n, .zero, false) else ({ n with voted := n.epoch, seen := n.seen ++ [⟨n.id, c⟩] }, ⟨n.id, c⟩, true)
def proposeF (n : Nod) (p : Pay) : Nod × Vote × Bool :=
  if mayN n && decide (leader n.epoch = n.id) && chainOk (tipOf n.seen ++ [⟨n.epoch, p⟩]) then voteF n (tipOf n.seen ++ [⟨n.epoch, p⟩]) else (n, .zero, false)
def fits (n : Nod) (u : Vote) : Bool :=
  decide (u.by_ = leader n.epoch) && decide (lastEp u.chain = n.epoch) && decide (u.chain.length = (tipOf n.seen).length + 1) && sure n.seen (u.chain.take (u.chain.length - 1))
def tryF (n : Nod) : List Vote → Nod × Vote × Bool
  | [] => (n, .zero, false)
  | u :: r => if fits n u then voteF n u.chain else tryF n r
def seeF (n : Nod) (v : Vote) : Nod := if decide (v ∈ n.seen) then n else { n with seen := n.seen ++ [v] }
def hearF (n : Nod) (v : Vote) : Nod × Vote × Bool :=
  if voteOk v && !decide (v.by_ = n.id) && decide (n.seen.length < 80) then
    (if mayN (seeF n v) then tryF (seeF n v) (seeF n v).seen else (seeF n v, .zero, false))
  else (n, .zero, false)
def res3 (x : Nod × Vote × Bool) : AV := .tup [.v x.1, .v x.2.1, .v x.2.2]
end Go.Wt
namespace Go.Wt
theorem seeF_gd {n : Nod} {v : Vote} (hn : Gd n.seen) (hv : voteOk v = true) (hl : n.seen.length < 80) : Gd (seeF n v).seen := by
  unfold seeF
  split
  · exact hn
  · refine ⟨by simp; omega, fun u hu => ?_⟩
    rcases List.mem_append.1 hu with hu | hu
    · exact hn.ok u hu
    · simp at hu; rw [hu]; exact hv
end Go.Wt
namespace Go.Wt
end Go.Wt
namespace Go.Wt
/-! ### Worlds -/
def sendF (w : Wrld) (v : Vote) : Wrld := if !decide (v ∈ w.log) && decide (w.log.length < 80) then { w with log := w.log ++ [v] } else w
def honestB (w : Wrld) (id : Int) : Bool := within id 1 4 && !decide (id = w.bad) && decide (w.log.length < 80)
def tickF (w : Wrld) : Wrld := { w with epoch := min (w.epoch + 1) 30, nodes := w.nodes.map fun n => enterF n (min (w.epoch + 1) 30) }
def putF (w : Wrld) (k : Nat) (x : Nod × Vote × Bool) : Wrld := if x.2.2 then sendF { w with nodes := w.nodes.set k x.1 } x.2.1 else { w with nodes := w.nodes.set k x.1 }
def wproposeF (w : Wrld) (id : Int) (p : Pay) : Wrld :=
  if honestB w id && payOk p then (match w.nodes[(id - 1).toNat]? with | some n => putF w (id - 1).toNat (proposeF n p) | none => w) else w
def wbringF (w : Wrld) (at_ id : Int) : Wrld :=
  if honestB w id && within at_ 0 ((w.log.length : Int) - 1) then (match w.nodes[(id - 1).toNat]?, w.log[at_.toNat]? with | some n, some v => putF w (id - 1).toNat (hearF n v) | _, _ => w) else w
def doF (w : Wrld) (e : Evt) : Wrld :=
  if e.kind = 1 then tickF w else if e.kind = 2 then wproposeF w e.a e.pay else if e.kind = 3 then wbringF w e.a e.b else
  if e.kind = 4 then (if voteOk e.vote && decide (e.vote.by_ = w.bad) then sendF w e.vote else w) else w
/-- What every world that is reached has. -/
structure Fine (w : Wrld) : Prop where
  ep : 0 ≤ w.epoch ∧ w.epoch ≤ 30
  four : w.nodes.length = 4
  log : Gd w.log
  nep : ∀ n ∈ w.nodes, 0 ≤ n.epoch ∧ n.epoch ≤ 30
  seen : ∀ n ∈ w.nodes, Gd n.seen
  nid : ∀ n ∈ w.nodes, within n.id 1 4 = true
  ll : w.log.length ≤ 80
  sl : ∀ n ∈ w.nodes, n.seen.length ≤ 80
end Go.Wt
namespace Go.Wt
theorem tick_step {w : Wrld} {k : Nat} {x : Nod} {f : Nod → Nod} (hx : w.nodes[k]? = some x) : (w.nodes.take (k + 1)).map f ++ w.nodes.drop (k + 1) = ((w.nodes.take k).map f ++ w.nodes.drop k).set k (f x) := by
  obtain ⟨h1, h2⟩ := List.getElem?_eq_some_iff.1 hx
  rw [List.set_append_right _ _ (by simp; omega)]
  rw [drop_at hx, take_at hx]
  simp [Nat.min_eq_left (Nat.le_of_lt h1)]
end Go.Wt
namespace Go.Wt
theorem proposeF_len {n : Nod} (p : Pay) (hn : Gd n.seen) : (proposeF n p).2.1.chain.length ≤ 1000000 := by
  have := hn.tip
  unfold proposeF
  split
  · unfold voteF
    split
    · simp [Vote.zero]
    · simp; omega
  · simp [Vote.zero]
theorem tryF_len {n : Nod} : ∀ {l : List Vote}, Gd l → (tryF n l).2.1.chain.length ≤ 1000000
  | [], _ => by simp [tryF, Vote.zero]
  | u :: r, h => by
    simp only [tryF]
    split
    · unfold voteF
      split
      · simp [Vote.zero]
      · show u.chain.length ≤ 1000000
        exact voteOk_len (h.ok u (by simp))
    · exact tryF_len (l := r) ⟨by have := h.len; simp at this; omega, fun v hv => h.ok v (by simp [hv])⟩
theorem hearF_len {n : Nod} (v : Vote) (hn : Gd n.seen) : (hearF n v).2.1.chain.length ≤ 1000000 := by
  unfold hearF
  split
  · rename_i h
    simp only [Bool.and_eq_true] at h
    split
    · exact tryF_len (seeF_gd hn h.1.1 (by simpa using h.2))
    · simp [Vote.zero]
  · simp [Vote.zero]
end Go.Wt
namespace Go.Wt
def newN (i : Int) : Nod := ⟨i, 0, 0, []⟩
def newW (bad : Int) : Wrld := ⟨0, [newN 1, newN 2, newN 3, newN 4], [], bad⟩
end Go.Wt
namespace Go.Wt
/-! ### What stays so -/
structure FineN (n : Nod) : Prop where
  ep : 0 ≤ n.epoch ∧ n.epoch ≤ 30
  id : within n.id 1 4 = true
  sl : n.seen.length ≤ 80
  ok : ∀ v ∈ n.seen, voteOk v = true
theorem FineN.gd {n : Nod} (h : FineN n) : Gd n.seen := ⟨by have := h.sl; omega, h.ok⟩
theorem Fine.mk' {w : Wrld} (ep : 0 ≤ w.epoch ∧ w.epoch ≤ 30) (four : w.nodes.length = 4) (ll : w.log.length ≤ 80) (ok : ∀ v ∈ w.log, voteOk v = true) (n : ∀ n ∈ w.nodes, FineN n) : Fine w :=
  ⟨ep, four, ⟨by omega, ok⟩, fun m hm => (n m hm).ep, fun m hm => (n m hm).gd, fun m hm => (n m hm).id, ll, fun m hm => (n m hm).sl⟩
def playF (bad : Int) (evs : List Evt) : Wrld := evs.foldl doF (newW bad)
end Go.Wt

/- A row that begins. -/
set_option linter.unusedVariables false
set_option linter.unusedSimpArgs false
namespace Go.Wt
open Go
variable {P : Program} {S : Nat → Prop} {ops : Array Oper} {st : St}
theorem op_apN {d : Nat} {T pos aft} {x y : Operand} {o' : Nat} {α : Type} [Enc α] [Plain α] {t t2 E E2 : TypeId} {bytes : Nat} {z0 : α} {av2 : AV} {ys : List α} [hsr : Src α av2 ys] (sl : SlOk P t E bytes α) (hz : ZeroOk P E z0) (ht2 : P.underlying t2 = some (.slice E2))
    (hx : st.ev x = some (.v NRef.nil)) (hy : st.ev y = some av2) (ho' : st.ob o' = .free) (hp : 0 < ys.length) (hb : ys.length * bytes ≤ 140737488355328) (h63 : ys.length ≤ 4611686018427387904) (hn : Nat.blt d st.n = true) :
    OpOk P S ops ⟨some d, .call { callee := .builtin .append, args := #[x, y], argTypes := #[t, t2] }, T, pos, aft, none⟩ (opT x ++ opT y) [o'] [(d, some (.v (NRef.ref o')))] [(o', .arr ys)] st := by
  intro st1 hag G w a hr K Q hK
  unfold stepO
  rw [if_pos (by simp [Region.wanted])]
  refine .inl ?_
  have hd' : d < st1.n := by rw [hag.n]; simpa using hn
  have u1 : a.eval x = .slice none 0 0 := by
    obtain ⟨cs, h1, h2⟩ := hr.at hag hx fun t ht => by simp [ht]
    rw [h2, show cs = [_] from h1]; rfl
  obtain ⟨xa, c, v1, v2, v3⟩ := hsr.rel (hr.at hag hy fun t ht => by simp [ht])
  obtain ⟨hu, i, hi, hby, hsz⟩ := sl.spec
  obtain ⟨i', zcs, k1, k2, k3⟩ := hz.ok
  rw [hi] at k1
  injection k1 with k1
  subst k1
  obtain ⟨news, n1, n2, n3, n4⟩ := v3.cells
  have hys : ys.length = 0 ∨ ∃ b o, xa = some ⟨b, o, none⟩ ∧ ∀ j u, news[j]? = some u → cl w b (o + j) = some u := by
    rcases n4 with h | h
    · left; rw [h]; rfl
    · right; exact h
  have hrun := run_app_grow (P := P) w t t2 T E E2 i (Enc.val α zcs) hu ht2 hi k2 none 0 0 [] (by simp) (.inl rfl) xa ys.length c news (by rw [n1, hsz]) hys (by omega) (by omega) (by rw [hby]; simpa using hb)
  unfold Oper.wp
  have hexec : (execOp a.eval ⟨some d, .call { callee := .builtin .append, args := #[x, y], argTypes := #[t, t2] }, T, pos, aft, none⟩).run P w =
      .ok (.value (.slice (some ⟨w.heap.size, 0, none⟩) (0 + ys.length) (grownCap w (0 + ys.length) 0 E))) (w.drew.alloc (.cells (([] : List Value).toArray ++ news.toArray ++ Builtin.zeroCells (Enc.val α zcs).cells (grownCap w (0 + ys.length) 0 E - (0 + ys.length))) E)) := by
    simp only [execOp, resolve, invoke, builtin, List.map_toArray, List.map_cons, List.map_nil, Sem.run_bind, Sem.run_pure, Result.andThen_ok, u1, v1, hrun]
  rw [hexec]
  simp only [Oper.upon, Nat.zero_add]
  have hge := grownCap_ge w ys.length 0 E
  have hfree : st1.ob o' = .free := by rw [hag.ob o' (by simp)]; exact ho'
  have hrows : Rows G w.drew ys (news ++ (Builtin.zeroCells (Enc.val α zcs).cells (grownCap w ys.length 0 E - ys.length)).toList) := by
    refine ⟨by rw [List.length_append, n1]; omega, fun k x' hk => ?_⟩
    obtain ⟨ce, r1, r2⟩ := n2.2 k x' hk
    refine ⟨ce, Plain.mono (G := G) (w := w) (w' := w.drew) (fun _ _ _ h1 h2 => ⟨h1, h2⟩) r1, fun j v hj => ?_⟩
    have := r2 j v hj
    rw [List.getElem?_append_left (getElem?_lt this)]; exact this
  obtain ⟨G', q1, q2, q3⟩ := hr.drew.newarr (o := o') (e := E) (cap := grownCap w ys.length 0 E) hfree hrows hge (by
    have hvz : (Enc.val α zcs).cells.size = Enc.size α := Enc.val_size (k3 G w ω0)
    simp only [List.length_append, n1, Array.length_toList, size_zeroCells, hvz, ← Nat.add_mul]
    refine Nat.mul_le_mul_right _ ?_
    omega)
  have harr : (news ++ (Builtin.zeroCells (Enc.val α zcs).cells (grownCap w ys.length 0 E - ys.length)).toList).toArray = ([] : List Value).toArray ++ news.toArray ++ Builtin.zeroCells (Enc.val α zcs).cells (grownCap w ys.length 0 E - ys.length) := by
    apply Array.ext'
    simp
  rw [harr] at q1 q2
  have := q1.put (d := d) (av := some (.v (NRef.ref o'))) hd' ⟨_, ⟨_, _, _, rfl, q3⟩, rfl⟩
  exact hK _ _ G' this ((Keep.drew S G w).trans (q2 S))
end Go.Wt

/- Parking: the room of a node's row is kept aside, while the row is read in open order. -/
set_option linter.unusedVariables false
set_option linter.unusedSimpArgs false
namespace Go.Wt
open Go
variable {P : Program} {S : Nat → Prop} {ops : Array Oper} {st : St}

/-- A slice whose header is known by name. -/
structure HList (α : Type) where
  l : List α
  h : Value
instance {α : Type} [Enc α] [Plain α] : Enc (HList α) where
  size := 1
  agg := false
  size_pos := by decide
  agg_size := fun _ => rfl
  rd := fun G w _ xs cs => cs = [xs.h] ∧ ∃ a cap, xs.h = .slice a xs.l.length cap ∧ xs.l.length ≤ cap ∧ Elems G w a xs.l
  refs := fun _ => []
  dis := fun x => x
  len := fun ⟨h, _⟩ => by rw [h]; rfl
  one := fun ⟨h, _, _, h1, _⟩ c hc => by rw [h, h1] at hc; simp at hc; rw [hc]; rfl
  mono := fun hs _ _ ⟨h, a, cap, h1, h2, h3⟩ => ⟨h, a, cap, h1, h2, h3.mono hs⟩
  mono_dis := fun hs _ ⟨h, a, cap, h1, h2, h3⟩ => ⟨h, a, cap, h1, h2, h3.mono hs⟩
instance {α : Type} [Enc α] [Plain α] : Plain (HList α) := ⟨fun _ => rfl, fun _ => rfl⟩
instance {α : Type} [Enc α] [Plain α] (xs : HList α) : Src α (.v xs) xs.l := ⟨fun {G w ω u} h => by obtain ⟨cs, ⟨h0, a, cap, h1, h2, h3⟩, h4⟩ := h; exact ⟨a, cap, by rw [h4, h0, h1]; rfl, h2, h3⟩⟩
instance {α : Type} [Enc α] [Plain α] (l : List α) (h : Value) : Src α (.v (HList.mk l h)) l := ⟨fun {G w ω u} h => by obtain ⟨cs, ⟨h0, a, cap, h1, h2, h3⟩, h4⟩ := h; exact ⟨a, cap, by rw [h4, h0, h1]; rfl, h2, h3⟩⟩
/-- The room behind a header. -/
structure Room (α : Type) where
  h : Value
  own : Bool
instance {α : Type} [Enc α] [Plain α] : Enc (Room α) where
  size := 1
  agg := false
  size_pos := by decide
  agg_size := fun _ => rfl
  rd := fun G w ω r cs => (∃ c : Value, cs = [c] ∧ c.oneCell' = true) ∧ (r.own = true → ∀ a n cap, r.h = .slice a n cap → Tail G w ω a (n * Enc.size α) (cap * Enc.size α))
  refs := fun _ => []
  dis := fun x => ⟨x.h, false⟩
  len := fun ⟨⟨_, h, _⟩, _⟩ => by rw [h]; rfl
  one := fun ⟨⟨_, h, h1⟩, _⟩ c hc => by rw [h] at hc; simp at hc; rw [hc]; exact h1
  mono := fun hs ho _ ⟨h, h1⟩ => ⟨h, fun k a n cap e => (h1 k a n cap e).mono ho⟩
  mono_dis := fun hs _ ⟨h, h1⟩ => ⟨h, fun k => by cases k⟩
structure NodH where
  id : Int
  epoch : Int
  voted : Int
  seen : HList Vote
instance : Enc NodH := isoEnc (fun p => (p.id, p.epoch, p.voted, p.seen)) (fun q => ⟨q.1, q.2.1, q.2.2.1, q.2.2.2⟩) (fun _ => rfl) true (fun h => by cases h)
instance : Plain NodH := plain_iso _ _ _ (fun _ => rfl) _ _
theorem NodH.l3 : IsLens NodH.seen (fun x y => { x with seen := y }) 3 [1, 1, 1] := ((IsLens.snd Int (Int × Int × HList Vote)).comp ((IsLens.snd _ _).comp (IsLens.snd _ _))).iso (fun _ => rfl) (fun _ _ => rfl)
/-- A node, as the reference has it: its row has room of its own. -/
def sN (n : Nod) : NodS := ⟨n.id, n.epoch, n.voted, ⟨n.seen, true⟩⟩
def fN (n : Nod) : NodS := ⟨n.id, n.epoch, n.voted, ⟨n.seen, false⟩⟩
def hN (n : Nod) (h : Value) : NodH := ⟨n.id, n.epoch, n.voted, ⟨n.seen, h⟩⟩
/-- A node's room goes elsewhere; its header is known. -/
theorem park_rd {G : Gh} {w : Go.World} {ω D : Owner} {n : Nod} {cs : List Value} (h : Enc.rd G w ω (sN n) cs) :
    ∃ hv, Enc.rd (G.mv (Owner.sub ω [1, 1, 1]) D) w ω (hN n hv) cs ∧ ∀ a k cap, hv = .slice a k cap → Tail (G.mv (Owner.sub ω [1, 1, 1]) D) w D a (k * Enc.size Vote) (cap * Enc.size Vote) := by
  obtain ⟨c1, c2, rfl, r1, ⟨c3, c4, rfl, r3, ⟨c5, c6, rfl, r5, ⟨a, cap, h1, h2, h3, h4⟩⟩⟩⟩ := h
  refine ⟨.slice a n.seen.length cap, ⟨c1, _, rfl, r1, c3, _, rfl, r3, c5, _, rfl, r5, h1, a, cap, rfl, h2, h3.mono Sh.mv⟩, fun a' k cap' e => ?_⟩
  injection e with e1 e2 e3
  subst e1 e2 e3
  have := (h4 rfl).mono (Ow.mv_src (G := G) (w := w) (s := Owner.sub (Owner.sub (Owner.sub ω [1]) [1]) [1]) (d := D))
  simpa [Owner.sub, sN] using this
theorem awp_park {c : Code} {Q : Exit → St → Prop} {s o tb : Nat} {b : Bool} {n : Nod} (hs : st.tm s = some (.v b)) (ho : st.ob o = .cell (sN n)) (htb : st.tm tb = some (.box o (IsLens.whole NodS)))
    (k : ∀ hv, awp P S c Q (st.upd [(tb, some (.box o (IsLens.whole NodH))), (s, some (.v (Room.mk (α := Vote) hv true)))] [(o, .cell (hN n hv))])) : awp P S c Q st := fun G w a hr => by
  have hob := hr.objs o
  rw [ho] at hob
  obtain ⟨b', cs, e, k1, k2, k3, k4⟩ := hob
  obtain ⟨hv, p1, p2⟩ := park_rd (D := (.tmp s, [])) k3
  have hts := hr.tmps s
  rw [hs] at hts
  have e2 : a.tmps.getD s undef = .bool b := RelV.bool hts
  have hk : Keep S G w (G.mv (.obj o, [1, 1, 1]) (.tmp s, [])) w := Keep.mv S (by simp) (by simp)
  refine wp_mono (k hv (G.mv (.obj o, [1, 1, 1]) (.tmp s, [])) w a ⟨hr.defers, hr.size, fun q => ?_, fun j => ?_⟩) fun e a'' w'' ⟨st'', G'', q1, q2, q3⟩ => ⟨st'', G'', q1, hk.trans q2, q3⟩
  · show RelT _ _ _ (orr (lk [(tb, _), (s, _)] q) (st.tm q)) (a.tmps.getD q undef)
    simp only [lk]
    by_cases eb : q = tb
    · subst eb
      rw [if_pos rfl]
      have := hr.tmps q
      rw [htb] at this
      exact this
    rw [if_neg eb]
    by_cases eq : q = s
    · subst eq
      rw [if_pos rfl, e2]
      exact ⟨[.bool b], ⟨⟨_, rfl, rfl⟩, fun _ a k cap e => p2 a k cap e⟩, rfl⟩
    · rw [if_neg eq]
      exact (hr.tmps q).mono Sh.mv (Ow.mv_other (by simp) (by simpa using eq)) (fun _ _ _ h => h)
  · show RelO _ _ j (orr (lk [(o, _)] j) (st.ob j))
    simp only [lk]
    by_cases ek : j = o
    · subst ek
      rw [if_pos rfl]
      exact ⟨b', cs, e, k1, k2, p1, fun i hi => by simp [Gh.mv, k4 i hi, relab]⟩
    · rw [if_neg ek]
      obtain ⟨T', hT⟩ := Obj.refs_all (st.ob j)
      exact (hr.objs j).pres Sh.mv (fun _ _ _ h => h) hT (PresO.mv (by simpa using Ne.symm ek) (by simp) (by simp) (by simp))
theorem lk_append {β : Type 1} (l m : List (Nat × β)) (t : Nat) : lk (l ++ m) t = (match lk l t with | some x => some x | none => lk m t) := by
  induction l with
  | nil => rfl
  | cons x r ih =>
    obtain ⟨k, y⟩ := x
    simp only [List.cons_append, lk]
    by_cases e : t = k
    · rw [if_pos e, if_pos e]
    · rw [if_neg e, if_neg e]; exact ih
/-- Ahead of an operation less or more may be said. -/
theorem OpOk.pre {o : Oper} {rt ro rt0 wt wo} {wt0 : List (Nat × Option AV)} (h : OpOk P S ops o rt ro wt wo (st.upd wt0 []))
    (hp : ∀ st1, Agree rt0 [] st st1 → ∀ G w a, RelSt G w a st1 → ∃ G', RelSt G' w a (st1.upd wt0 []) ∧ Keep S G w G' w) : OpOk P S ops o (rt0 ++ rt) ro (wt ++ wt0) wo st := by
  intro st1 hag G w a hr K Q hK
  obtain ⟨G', h1, h2⟩ := hp st1 ⟨hag.n, fun t ht => hag.tm t (by simp [ht]), fun x hx => by cases hx⟩ G w a hr
  refine h (st1.upd wt0 []) ⟨hag.n, fun t ht => ?_, fun x hx => hag.ob x hx⟩ G' w a h1 K Q fun a' w' G'' r1 r2 => hK a' w' G'' ?_ (h2.trans r2)
  · show orr (lk wt0 t) (st1.tm t) = orr (lk wt0 t) (st.tm t)
    rw [hag.tm t (by simp [ht])]
  · have : (st1.upd wt0 []).upd wt wo = st1.upd (wt ++ wt0) wo := by
      unfold St.upd
      congr 1
      funext t
      show orr (lk wt t) (orr (lk wt0 t) (st1.tm t)) = orr (lk (wt ++ wt0) t) (st1.tm t)
      rw [lk_append]
      cases lk wt t <;> rfl
    rw [← this]; exact r1
theorem unpark {G : Gh} {w : Go.World} {a : Act} {s r : Nat} {n : Nod} {hv : Value} (hne : s ≠ r) (hr : RelSt G w a st) (hs : st.tm s = some (.v (hN n hv))) (hq : st.tm r = some (.v (Room.mk (α := Vote) hv true))) :
    RelSt (G.mv (.tmp r, []) (.tmp s, [1, 1, 1])) w a (st.upd [(s, some (.v (sN n))), (r, some (.v (Room.mk (α := Vote) hv false)))] []) := by
  have h1 := hr.tmps s
  rw [hs] at h1
  obtain ⟨cs, ⟨c1, c2, rfl, r1, ⟨c3, c4, rfl, r3, ⟨c5, c6, rfl, r5, ⟨e0, aa, cap, g1, g2, g3⟩⟩⟩⟩, q2⟩ := h1
  have h2 := hr.tmps r
  rw [hq] at h2
  obtain ⟨ds, d1, d2⟩ := h2
  refine ⟨hr.defers, hr.size, fun q => ?_, fun k => ?_⟩
  · show RelT _ _ _ (orr (lk [(s, _), (r, _)] q) (st.tm q)) (a.tmps.getD q undef)
    simp only [lk]
    by_cases eq : q = s
    · subst eq
      rw [if_pos rfl]
      refine ⟨_, ⟨c1, _, rfl, r1, c3, _, rfl, r3, c5, _, rfl, r5, ⟨aa, cap, by rw [e0]; exact congrArg (fun x => [x]) g1, g2, g3.mono Sh.mv, fun _ => ?_⟩⟩, q2⟩
      have := (d1.2 rfl aa _ cap g1).mono (Ow.mv_src (G := G) (w := w) (s := (.tmp r, [])) (d := (.tmp q, [1, 1, 1])))
      simpa [Owner.sub, hN, sN] using this
    · rw [if_neg eq]
      by_cases e2 : q = r
      · subst e2
        rw [if_pos rfl]
        exact ⟨ds, Enc.mono_dis (x := Room.mk (α := Vote) hv true) Sh.mv (fun _ _ _ h => h) d1, d2⟩
      · rw [if_neg e2]
        exact (hr.tmps q).mono Sh.mv (Ow.mv_other (by simpa using e2) (by simpa using eq)) (fun _ _ _ h => h)
  · obtain ⟨T', hT⟩ := Obj.refs_all (st.ob k)
    exact (hr.objs k).pres Sh.mv (fun _ _ _ h => h) hT (PresO.mv (by simp) (by simp) (by simp) (by simp))
/-- A call that takes a node whose room is parked. -/
theorem op_callP {d s r : Nat} {T pos aft} {f : FuncId} {post : List Operand} {av2 : List AV} {n : Nod} {hv : Value} {ts : Array TypeId} {rt2 : List Nat} {res : AV}
    (hne : Nat.beq s r = false) (hB : fnB P f = true) (hs : st.tm s = some (.v (hN n hv))) (hq : st.tm r = some (.v (Room.mk (α := Vote) hv true)))
    (ha2 : Args (st.upd [(s, some (.v (sN n))), (r, some (.v (Room.mk (α := Vote) hv false)))] []) 0 post av2 rt2) (hct : CtP P f (.v (sN n) :: av2) res)
    (hd2 : ∀ z ∈ av2, z.dis = z ∧ ∀ o ∈ z.refs, false = true) (hrr : res.refs = []) (hn : Nat.blt d st.n = true) :
    OpOk P S ops ⟨some d, .call { callee := .value (.func f), args := (.tmp s :: post).toArray, argTypes := ts }, T, pos, aft, none⟩ ([s, r] ++ (s :: ([] ++ rt2))) [] ([(d, some res), (s, some (.v (Enc.dis (sN n))))] ++ [(s, some (.v (sN n))), (r, some (.v (Room.mk (α := Vote) hv false)))]) [] st := by
  refine OpOk.pre (oLM (pre := []) (ol := []) (ol' := []) hB (.nil _) (by simp [St.upd, lk, orr]) ha2 hct ols0 k0 k0 rfl argO0 (fun z hz => hd2 z hz) (fun o ho => absurd (show o ∈ ([] : List Nat) from ho) (by simp)) (fun o ho => by rw [hrr] at ho; cases ho) hn) ?_
  intro st1 hag G w a hr
  refine ⟨_, unpark (fun e => by rw [e] at hne; simp at hne) hr (by rw [hag.tm s (by simp)]; exact hs) (by rw [hag.tm r (by simp)]; exact hq), Keep.mv S (by simp) (by simp)⟩
end Go.Wt

/- Regions of open order, in two parts. -/
set_option linter.unusedVariables false
set_option linter.unusedSimpArgs false
namespace Go.Wt
open Go
variable {P : Program} {S : Nat → Prop} {ops : Array Oper} {st : St}
theorem draw_seg {l : List Oper} {recs : List Rec} {s0 : St} {Q' : Exit → Act → World → Prop} {G0 : Gh} {w0 : World} {lo hi : Nat} (hc : chk l recs = true)
    (hbar : ∀ j i, hi ≤ j → j < l.length → i < hi → ((befs l []).getD j 0).testBit i = true)
    (hd : ∀ (k : Nat) (o : Oper) (r : Rec), lo ≤ k → k < hi → l[k]? = some o → recs[k]? = some r → OpOk P S l.toArray o r.rt r.ro r.wt r.wo (run (fun i => decide (i < k)) 0 recs s0))
    (hQ : ∀ (fuel : Nat) (listed : Array Bool), listed.size = l.length → fuel = ((List.range l.length).filter fun i => !listed.getD i false).length → Down l (fun i => listed.getD i false) → (∀ i, i < hi → listed.getD i false = true) → (∀ i, hi ≤ i → listed.getD i false = false) →
      ∀ a' w' G', RelSt G' w' a' (run (fun i => listed.getD i false) 0 recs s0) → Keep S G0 w0 G' w' → wpAny P .any l.toArray Q' fuel listed a' w') (hhi : hi ≤ l.length) :
    ∀ (fuel : Nat) (listed : Array Bool), listed.size = l.length → fuel = ((List.range l.length).filter fun i => !listed.getD i false).length → Down l (fun i => listed.getD i false) → (∀ i, i < lo → listed.getD i false = true) → (∀ i, hi ≤ i → listed.getD i false = false) →
      ∀ G w a, RelSt G w a (run (fun i => listed.getD i false) 0 recs s0) → Keep S G0 w0 G w → wpAny P .any l.toArray Q' fuel listed a w := by
  simp only [chk, Bool.and_eq_true] at hc
  obtain ⟨⟨c1, c2⟩, c3⟩ := hc
  have c2' : recs.length = l.length := by simpa using c2
  have hgd : ∀ (listed : Array Bool) (i : Nat), i < listed.size → listed.getD i true = listed.getD i false := fun listed i h => by simp [h]
  intro fuel
  -- if none is ready, all are done
  have hall : ∀ (listed : Array Bool), listed.size = l.length → Region.ready .any l.toArray listed = [] → ∀ i, i < l.length → listed.getD i false = true := by
    intro listed hs hr i
    induction i using Nat.strongRecOn with
    | _ i ih =>
      intro hi
      cases hli : listed.getD i false with
      | true => rfl
      | false =>
        exfalso
        have : i ∈ Region.ready .any l.toArray listed := by
          rw [mem_ready]
          refine ⟨by rw [hgd _ _ (by omega)]; exact hli, l[i], by simp [hi], fun e he hb => ?_⟩
          have := edgesOk_at l 0 i l[i] c1 (List.getElem?_eq_getElem hi) e he hb
          exact ih e.on (by omega) (by omega)
        rw [hr] at this
        cases this
  induction fuel with
  | zero =>
    intro listed hs hf hdn hlo hup G w a h1 h2
    refine hQ 0 listed hs hf hdn (fun i hi => ?_) hup a w G h1 h2
    cases hli : listed.getD i false with
    | true => rfl
    | false =>
      have hm : i ∈ (List.range l.length).filter fun i => !listed.getD i false := by
        rw [List.mem_filter]; exact ⟨List.mem_range.2 (by omega), by rw [hli]; rfl⟩
      rw [List.eq_nil_of_length_eq_zero hf.symm] at hm
      cases hm
  | succ fuel ih =>
    intro listed hs hf hdn hlo hup G w a h1 h2
    by_cases hdone : ∀ i, i < hi → listed.getD i false = true
    · exact hQ _ listed hs hf hdn hdone hup a w G h1 h2
    refine ⟨fun hr => absurd (fun i hi => hall listed hs hr i (by omega)) hdone, fun i hir => ?_⟩
    obtain ⟨i1, o, i2, i3⟩ := mem_ready.1 hir
    have hil : l[i]? = some o := by simpa using i2
    have hlt : i < l.length := getElem?_lt hil
    rw [hgd _ _ (by omega)] at i1
    obtain ⟨r, hr⟩ : ∃ r, recs[i]? = some r := ⟨_, List.getElem?_eq_getElem (by omega)⟩
    have hihi : i < hi := by
      rcases Nat.lt_or_ge i hi with h | h
      · exact h
      · exfalso
        refine hdone fun k hk => ?_
        have hb := hbar i k h hlt hk
        obtain ⟨acc', a1, a2, a3⟩ := befs_at l [] i o hil
        simp only [List.length_nil, Nat.zero_add] at a1 a2 a3
        rw [List.getD_eq_getElem?_getD, a2] at hb
        obtain ⟨e, e1, e2, e3⟩ := mask_bit o acc' k hb
        have hDe := i3 e e1 e2
        have hle := edgesOk_at l 0 i o c1 hil e e1 e2
        rcases e3 with e3 | e3
        · rw [← e3]; exact hDe
        · exact bit_down c1 hdn e.on (by omega) hDe k (by rw [List.getD_eq_getElem?_getD, a3 e.on (by omega), ← List.getD_eq_getElem?_getD]; exact e3)
    have hilo : lo ≤ i := by
      rcases Nat.lt_or_ge i lo with h | h
      · rw [hlo i h] at i1; cases i1
      · exact h
    have hop := hd i o r hilo hihi hil hr
    -- operations that are not ordered with i touch nothing of it
    have hap : ∀ (k : Nat) (q : Rec), recs[k]? = some q → k ≠ i → (decide (k < i)) ≠ listed.getD k false → apart q r = true ∨ apart r q = true := by
      intro k q hq hne hdif
      have hkl : k < l.length := by
        rw [← c2']
        rcases Nat.lt_or_ge k recs.length with h' | h'
        · exact h'
        · rw [List.getElem?_eq_none h'] at hq; cases hq
      rcases Nat.lt_or_gt_of_ne hne with hlt' | hlt'
      · -- earlier, not done: not ahead of i
        have := chkRow_at (by simpa using chkAll_at c3 i r hr) k q hq (by simpa using hlt')
        rcases this with h | h
        · exfalso
          simp only [Nat.zero_add] at h
          have hnd : listed.getD k false = false := by
            cases hh : listed.getD k false with
            | false => rfl
            | true => rw [hh] at hdif; simp [hlt'] at hdif
          -- i's own predecessors are done
          obtain ⟨acc', a1, a2, a3⟩ := befs_at l [] i o hil
          simp only [List.length_nil, Nat.zero_add] at a1 a2 a3
          rw [List.getD_eq_getElem?_getD, a2] at h
          obtain ⟨e, e1, e2, e3⟩ := mask_bit o acc' k h
          have hDe := i3 e e1 e2
          have hle := edgesOk_at l 0 i o c1 hil e e1 e2
          rcases e3 with e3 | e3
          · rw [e3, hnd] at hDe; cases hDe
          · have := bit_down c1 hdn e.on (by omega) hDe k (by rw [List.getD_eq_getElem?_getD, a3 e.on (by omega), ← List.getD_eq_getElem?_getD]; exact e3)
            rw [hnd] at this; cases this
        · exact .inl h
      · have := chkRow_at (by simpa using chkAll_at c3 k q hq) i r hr (by simpa using hlt')
        rcases this with h | h
        · exfalso
          simp only [Nat.zero_add] at h
          have hdk : listed.getD k false = true := by
            cases hh : listed.getD k false with
            | true => rfl
            | false => rw [hh] at hdif; simp at hdif; omega
          have := bit_down c1 hdn k hkl hdk i h
          rw [i1] at this; cases this
        · exact .inr h
    have hnotin : ∀ (k : Nat) (q : Rec), recs[k]? = some q → (decide (k < i)) ≠ listed.getD k false → (∀ t ∈ r.rt, t ∉ q.wt.map (·.1)) ∧ (∀ t ∈ r.ro, t ∉ q.wo.map (·.1)) := by
      intro k q hq hdif
      by_cases hne : k = i
      · subst hne; rw [i1] at hdif; simp at hdif
      · rcases hap k q hq hne hdif with h | h
        · simp only [apart, Bool.and_eq_true, Bool.not_eq_true'] at h
          exact ⟨fun t ht hm => hits_false h.1.1.1 hm (by simp [ht]), fun t ht hm => hits_false h.1.2 hm (by simp [ht])⟩
        · simp only [apart, Bool.and_eq_true, Bool.not_eq_true'] at h
          exact ⟨fun t ht hm => hits_false h.1.1.2 hm ht, fun t ht hm => hits_false h.2 hm ht⟩
    have hag : Agree r.rt r.ro (run (fun k => decide (k < i)) 0 recs s0) (run (fun k => listed.getD k false) 0 recs s0) := by
      refine ⟨by rw [run_n, run_n], fun t ht => ?_, fun t ht => ?_⟩
      · exact (run_tm t recs 0 s0 s0 rfl (fun k q hq hne => (hnotin k q hq (by simpa using hne)).1 t ht)).symm
      · exact (run_ob t recs 0 s0 s0 rfl (fun k q hq hne => (hnotin k q hq (by simpa using hne)).2 t ht)).symm
    have hstep := hop _ hag G w a h1 (wpAny P .any l.toArray Q' fuel (listed.setIfInBounds i true)) Q' (fun a' w' G' k1 k2 => ?_)
    · unfold wpOp
      rw [i2]
      exact hstep
    · -- the state behind it
      have hnew : run (fun k => (listed.setIfInBounds i true).getD k false) 0 recs s0 = (run (fun k => listed.getD k false) 0 recs s0).upd r.wt r.wo := by
        have hsplit : recs = recs.take i ++ r :: recs.drop (i + 1) := by
          have hi' : i < recs.length := by omega
          rw [List.getElem?_eq_getElem hi'] at hr
          injection hr with hr
          rw [← hr]
          exact (List.take_append_drop i recs).symm.trans (by rw [List.drop_eq_getElem_cons hi'])
        have hsame : ∀ k, k ≠ i → (listed.setIfInBounds i true).getD k false = listed.getD k false := fun k hk => getD_set_ne false (Ne.symm hk)
        have hti : (listed.setIfInBounds i true).getD i false = true := by simp [hs, hlt]
        have hrun : ∀ (rs : List Rec) (k0 : Nat) (s : St), (∀ j, j < rs.length → k0 + j ≠ i) → run (fun k => (listed.setIfInBounds i true).getD k false) k0 rs s = run (fun k => listed.getD k false) k0 rs s := by
          intro rs
          induction rs with
          | nil => intro k0 s _; rfl
          | cons x rs ih' =>
            intro k0 s hk
            simp only [run]
            rw [hsame k0 (by simpa using hk 0 (by simp)), ih' (k0 + 1) _ (fun j hj => by have := hk (j + 1) (by simp; omega); omega)]
        have hlen : (recs.take i).length = i := by simp; omega
        -- later ones that are done don't touch what i writes
        have hcomm : ∀ (rs : List Rec) (k0 : Nat) (s : St), i < k0 → (∀ j q, rs[j]? = some q → recs[k0 + j]? = some q) → run (fun k => listed.getD k false) k0 rs (s.upd r.wt r.wo) = (run (fun k => listed.getD k false) k0 rs s).upd r.wt r.wo := by
          intro rs
          induction rs with
          | nil => intro k0 s _ _; rfl
          | cons x rs ih' =>
            intro k0 s hk hq
            simp only [run]
            cases hdk : listed.getD k0 false with
            | true =>
              simp only [cond_true]
              rw [← ih' (k0 + 1) _ (by omega) (fun j q hj => by have := hq (j + 1) q (by simpa using hj); rwa [show k0 + 1 + j = k0 + (j + 1) by omega])]
              congr 1
              have hxk := hq 0 x rfl
              have ha := hap k0 x (by simpa using hxk) (by omega) (by rw [hdk]; simp; omega)
              have hw : (∀ t, t ∈ x.wt.map (·.1) → t ∉ r.wt.map (·.1)) ∧ (∀ t, t ∈ x.wo.map (·.1) → t ∉ r.wo.map (·.1)) := by
                rcases ha with h | h
                · simp only [apart, Bool.and_eq_true, Bool.not_eq_true'] at h
                  exact ⟨fun t h1 h2 => hits_false h.1.1.1 h1 (List.mem_append_right _ h2), fun t h1 h2 => hits_false h.1.2 h1 (List.mem_append_right _ h2)⟩
                · simp only [apart, Bool.and_eq_true, Bool.not_eq_true'] at h
                  exact ⟨fun t h1 h2 => hits_false h.1.1.1 h2 (List.mem_append_right _ h1), fun t h1 h2 => hits_false h.1.2 h2 (List.mem_append_right _ h1)⟩
              unfold Rec.app St.upd
              simp only [St.mk.injEq, true_and]
              refine ⟨funext fun t => ?_, funext fun t => ?_⟩
              · by_cases hm : t ∈ x.wt.map (·.1)
                · rw [lk_none (hw.1 t hm)]; cases lk x.wt t <;> rfl
                · rw [lk_none hm]; cases lk r.wt t <;> rfl
              · by_cases hm : t ∈ x.wo.map (·.1)
                · rw [lk_none (hw.2 t hm)]; cases lk x.wo t <;> rfl
                · rw [lk_none hm]; cases lk r.wo t <;> rfl
            | false =>
              simp only [cond_false]
              exact ih' (k0 + 1) _ (by omega) (fun j q hj => by have := hq (j + 1) q (by simpa using hj); rwa [show k0 + 1 + j = k0 + (j + 1) by omega])
        conv => lhs; rw [hsplit]
        conv => rhs; rw [hsplit]
        rw [run_cat, run_cat, hlen]
        simp only [run, Nat.zero_add]
        rw [hti, i1, hrun (recs.take i) 0 s0 (fun j hj => by rw [hlen] at hj; omega)]
        simp only [cond_true, cond_false]
        rw [hrun (recs.drop (i + 1)) (i + 1) _ (fun j _ => by omega)]
        exact hcomm _ _ _ (by omega) (fun j q hj => by rw [List.getElem?_drop] at hj; exact hj)
      refine ih (listed.setIfInBounds i true) (by simp [hs]) ?_ ?_ (fun k hk => getD_set_true (hlo k hk)) (fun k hk => by rw [getD_set_ne false (show i ≠ k by omega)]; exact hup k hk) G' w' a' (by rw [hnew]; exact k1) (h2.trans k2)
      · -- one fewer to go
        have hcount : ∀ n, ((List.range n).filter fun k => !listed.getD k false).length = ((List.range n).filter fun k => !(listed.setIfInBounds i true).getD k false).length + (if i < n then 1 else 0) := by
          intro n
          induction n with
          | zero => simp
          | succ n ihn =>
            rw [List.range_succ, List.filter_append, List.filter_append, List.length_append, List.length_append, ihn]
            by_cases hni : n = i
            · subst hni
              have e1 : (listed.setIfInBounds n true).getD n false = true := by simp [hs, hlt]
              simp only [if_neg (show ¬ n < n by omega), if_pos (show n < n + 1 by omega), List.filter_cons, List.filter_nil, i1, e1]
              simp
            · have e1 : (listed.setIfInBounds i true).getD n false = listed.getD n false := getD_set_ne false (Ne.symm hni)
              simp only [List.filter_cons, List.filter_nil, e1]
              by_cases hlt2 : i < n
              · simp only [if_pos hlt2, if_pos (show i < n + 1 by omega)]; omega
              · simp only [if_neg hlt2, if_neg (show ¬ i < n + 1 by omega)]; omega
        have := hcount l.length
        rw [if_pos hlt, ← hf] at this
        omega
      · intro j oj hj hDj e he hb
        by_cases hji : j = i
        · subst hji
          rw [hil] at hj
          injection hj with hj
          subst hj
          exact getD_set_true (i3 e he hb)
        · simp only at hDj
          rw [getD_set_ne false (Ne.symm hji)] at hDj
          exact getD_set_true (hdn j oj hj hDj e he hb)


def blank : Rec := ⟨[], [], [], []⟩
theorem run_blank {D : Nat → Bool} : ∀ (n k : Nat) (s : St), run D k (List.replicate n blank) s = s
  | 0, _, _ => rfl
  | n + 1, k, s => by
    simp only [List.replicate_succ, run]
    rw [run_blank n]
    cases D k <;> rfl
theorem run_shift {D E : Nat → Bool} (b : Nat) : ∀ (rs : List Rec) (k : Nat) (s : St), (∀ i, D (b + i) = E i) → run D (b + k) rs s = run E k rs s
  | [], _, _, _ => rfl
  | r :: rs, k, s, h => by
    simp only [run]
    rw [h k, show b + k + 1 = b + (k + 1) by omega, run_shift b rs (k + 1) _ h]
theorem run_ext {D E : Nat → Bool} : ∀ (rs : List Rec) (k : Nat) (s : St), (∀ i, i < rs.length → D (k + i) = E (k + i)) → run D k rs s = run E k rs s
  | [], _, _, _ => rfl
  | r :: rs, k, s, h => by
    simp only [run]
    rw [show D k = E k from h 0 (by simp), run_ext (D := D) (E := E) rs (k + 1) _ (fun i hi => by have := h (i + 1) (by simpa using hi); rwa [show k + (i + 1) = k + 1 + i by omega] at this)]
def barB (bs : List Nat) (lo n : Nat) : Bool := (List.range n).all fun j => decide (j < lo) || (List.range lo).all fun i => (bs.getD j 0).testBit i
/-- A region of open order, in two parts; between them something may be taken for known. -/
theorem awp_draw2 {id : Nat} {L1 L2 : List Oper} {r1 : List Rec} {Q : Exit → St → Prop} {ι : Type} {s1 : ι → St} (mixed : P.follows .mixedOrders = true) (hc : chk (L1 ++ L2) (r1 ++ List.replicate L2.length blank) = true) (hbar : barB (befs (L1 ++ L2) []) L1.length (L1.length + L2.length) = true) (hd : DRun P S (L1 ++ L2).toArray L1 r1 st)
    (ghost : ∀ G w a, RelSt G w a (run (fun _ => true) 0 r1 st) → ∃ i G', RelSt G' w a (s1 i) ∧ Keep S G w G' w)
    (h2 : ∀ i, ∃ r2, DRun P S (L1 ++ L2).toArray L2 r2 (s1 i) ∧ chk (L1 ++ L2) (List.replicate L1.length blank ++ r2) = true ∧ Q .normal (run (fun _ => true) 0 r2 (s1 i))) :
    awp P S (.region id (L1 ++ L2).toArray true) Q st := fun G w a hr => by
  refine wp_region_any mixed ?_
  have hk0 : Keep S G w G { w with drawn := w.drawn + 1 } := Keep.drew S G w
  have hz : ∀ i, (Array.replicate (L1 ++ L2).length false).getD i false = false := fun i => by
    simp only [Array.getD_eq_getD_getElem?, Array.getElem?_replicate]
    split <;> rfl
  have hlen1 : r1.length = L1.length := by
    have hh := hc
    simp only [chk, Bool.and_eq_true] at hh
    have := hh.1.2
    simp at this
    omega
  have hb : ∀ j i, L1.length ≤ j → j < (L1 ++ L2).length → i < L1.length → ((befs (L1 ++ L2) []).getD j 0).testBit i = true := fun j i h1 h2 h3 => by
    unfold barB at hbar
    rw [List.all_eq_true] at hbar
    have := hbar j (List.mem_range.2 (by simpa using h2))
    simp only [Bool.or_eq_true, decide_eq_true_eq, List.all_eq_true] at this
    rcases this with h | h
    · omega
    · exact h i (List.mem_range.2 h3)
  have hrunall : ∀ (listed : Array Bool), (∀ i, i < L1.length → listed.getD i false = true) → run (fun i => listed.getD i false) 0 (r1 ++ List.replicate L2.length blank) st = run (fun _ => true) 0 r1 st := fun listed h => by
    rw [run_cat, run_blank]
    exact run_ext _ _ _ fun i hi => by simpa using h i (by omega)
  have := draw_seg (P := P) (S := S) (l := L1 ++ L2) (recs := r1 ++ List.replicate L2.length blank) (s0 := st) (lo := 0) (hi := L1.length) (Q' := fun e a' w' => ∃ st' G', RelSt G' w' a' st' ∧ Keep S G w G' w' ∧ Q e st') (G0 := G) (w0 := w) hc hb
    (fun k o r _ hk ho hrk => by
      rw [List.getElem?_append_left hk] at ho
      rw [List.getElem?_append_left (by omega)] at hrk
      have := DRun.at hd ho hrk
      rwa [run_cat, run_blank])
    (fun fuel listed hs hf hdn h1 hup a' w' G' hr' hk' => by
      rw [hrunall listed h1] at hr'
      obtain ⟨ix, G2, g1, g2⟩ := ghost G' w' a' hr'
      obtain ⟨r2, d2, c2, q2⟩ := h2 ix
      have hlen2 : r2.length = L2.length := by
        have hh := c2
        simp only [chk, Bool.and_eq_true] at hh
        have := hh.1.2
        simp at this
        omega
      have hrun2 : ∀ D : Nat → Bool, run D 0 (List.replicate L1.length blank ++ r2) (s1 ix) = run (fun i => D (L1.length + i)) 0 r2 (s1 ix) := fun D => by
        rw [run_cat, run_blank, List.length_replicate]
        have := run_shift (D := D) (E := fun i => D (L1.length + i)) L1.length r2 0 (s1 ix) (fun i => rfl)
        simpa using this
      refine draw_seg (P := P) (S := S) (l := L1 ++ L2) (recs := List.replicate L1.length blank ++ r2) (s0 := s1 ix) (lo := L1.length) (hi := (L1 ++ L2).length) (G0 := G) (w0 := w) c2 (fun j i h1 h2 h3 => by omega)
        (fun k o r hk1 hk2 ho hrk => ?_) (fun fuel listed hs hf hdn h1 hup a'' w'' G'' hr'' hk'' => ?_) (Nat.le_refl _) fuel listed hs hf hdn h1 (fun i hi => by
          simp only [Array.getD_eq_getD_getElem?]
          rw [Array.getElem?_eq_none (by omega)]; rfl) G2 w' a' (by
            rw [hrun2]
            have : run (fun i => listed.getD (L1.length + i) false) 0 r2 (s1 ix) = run (fun _ => false) 0 r2 (s1 ix) := run_ext _ _ _ fun i _ => hup _ (by omega)
            rw [this]
            have hno : ∀ (rs : List Rec) (k : Nat) (s : St), run (fun _ => false) k rs s = s := by
              intro rs
              induction rs with
              | nil => intro k s; rfl
              | cons x rs ih => intro k s; simp only [run]; exact ih (k + 1) s
            rw [hno]; exact g1) (hk'.trans g2)
      · rw [List.getElem?_append_right hk1] at ho
        rw [List.getElem?_append_right (by simpa using hk1), List.length_replicate] at hrk
        have := DRun.at d2 ho hrk
        rw [hrun2]
        have e : run (fun i => decide (L1.length + i < k)) 0 r2 (s1 ix) = run (fun i => decide (i < k - L1.length)) 0 r2 (s1 ix) := run_ext _ _ _ fun i _ => by
          rw [decide_eq_decide]; omega
        rw [e]; exact this
      · have hfin : ∃ st' G', RelSt G' w'' a'' st' ∧ Keep S G w G' w'' ∧ Q .normal st' := by
          refine ⟨_, G'', hr'', hk'', ?_⟩
          rw [hrun2]
          have e : run (fun i => listed.getD (L1.length + i) false) 0 r2 (s1 ix) = run (fun _ => true) 0 r2 (s1 ix) := run_ext _ _ _ fun i hi => by
            have := h1 (L1.length + i) (by simp; omega)
            simpa using this
          rw [e]; exact q2
        have hnone : ∀ i, i ∈ Region.ready .any (L1 ++ L2).toArray listed → False := fun i hi => by
          obtain ⟨i1, o, i2, i3⟩ := mem_ready.1 hi
          have hlt : i < (L1 ++ L2).length := getElem?_lt (by simpa using i2)
          have e1 := h1 i hlt
          have e2 : listed.getD i true = listed.getD i false := by simp [show i < listed.size by omega]
          rw [e2, e1] at i1; cases i1
        cases fuel with
        | zero => exact ⟨List.eq_nil_iff_forall_not_mem.2 fun j hj => hnone j hj, hfin⟩
        | succ fuel => exact ⟨fun _ => hfin, fun i hi => (hnone i hi).elim⟩)
    (by simp)
    (L1 ++ L2).length (Array.replicate (L1 ++ L2).length false) (by simp) (by
      have : ((List.range (L1 ++ L2).length).filter fun i => !(Array.replicate (L1 ++ L2).length false).getD i false) = List.range (L1 ++ L2).length := by
        refine List.filter_eq_self.2 fun i _ => by rw [hz i]; rfl
      rw [this]; simp) (fun j o _ h => by simp only at h; rw [hz j] at h; cases h) (fun i hi => by omega) (fun i _ => hz i) G { w with drawn := w.drawn + 1 } a (by
        have hno : ∀ (rs : List Rec) (k : Nat) (s : St), run (fun i => (Array.replicate (L1 ++ L2).length false).getD i false) k rs s = s := by
          intro rs
          induction rs with
          | nil => intro k s; rfl
          | cons x rs ih => intro k s; simp only [run]; rw [hz k]; exact ih (k + 1) s
        rw [hno]; exact hr.drew) hk0
  simpa using this

/-! ### Step by step, part by part -/
def DG (P : Program) (S : Nat → Prop) (A : List Oper) (L : List Oper) (s0 : St) (done : List Rec) (l : List Oper) (G : Prop) (s : St) : Prop :=
  (∀ rs, DRun P S A.toArray l rs s → DRun P S A.toArray L (done.reverse ++ rs) s0 ∧ run (fun _ => true) 0 (done.reverse ++ rs) s0 = run (fun _ => true) 0 rs s) → G
theorem dg_cons {A L l : List Oper} {o : Oper} {s0 s : St} {done : List Rec} {G : Prop} {rt ro wt wo} (h : OpOk P S A.toArray o rt ro wt wo s) (k : DG P S A L s0 (⟨rt, ro, wt, wo⟩ :: done) l G (s.upd wt wo)) : DG P S A L s0 done (o :: l) G s := fun hd => by
  refine k fun rs hrs => ?_
  obtain ⟨h1, h2⟩ := hd (⟨rt, ro, wt, wo⟩ :: rs) ⟨h, hrs⟩
  refine ⟨by simpa using h1, ?_⟩
  have e : (⟨rt, ro, wt, wo⟩ :: done : List Rec).reverse ++ rs = done.reverse ++ ⟨rt, ro, wt, wo⟩ :: rs := by simp
  rw [e, h2]
  simp only [run, cond_true]
  exact run_true_shift _ _ _ _
/-- The first part begins: `n` operations. -/
theorem dg_start {id : Nat} {A : List Oper} {Q : Exit → St → Prop} (n : Nat) (h : DG P S A (A.take n) st [] (A.take n) (awp P S (.region id A.toArray true) Q st) st) : awp P S (.region id A.toArray true) Q st := h fun rs hrs => ⟨by simpa using hrs, by simp⟩
/-- Between the parts. -/
theorem dg_bar {id n : Nat} {A : List Oper} {Q : Exit → St → Prop} {s : St} {done : List Rec} {ι : Type} (s1 : ι → St) (mixed : P.follows .mixedOrders = true) (hc : chk A (done.reverse ++ List.replicate (A.drop n).length blank) = true) (hbar : barB (befs A []) (A.take n).length ((A.take n).length + (A.drop n).length) = true)
    (ghost : ∀ G w a, RelSt G w a s → ∃ i G', RelSt G' w a (s1 i) ∧ Keep S G w G' w)
    (h2 : ∀ i, DG P S A (A.drop n) (s1 i) [] (A.drop n) (∃ r2, DRun P S A.toArray (A.drop n) r2 (s1 i) ∧ chk A (List.replicate (A.take n).length blank ++ r2) = true ∧ Q .normal (run (fun _ => true) 0 r2 (s1 i))) (s1 i)) :
    DG P S A (A.take n) st done [] (awp P S (.region id A.toArray true) Q st) s := fun hd => by
  obtain ⟨h1, h3⟩ := hd [] trivial
  simp only [List.append_nil] at h1 h3
  have e := List.take_append_drop n A
  have := awp_draw2 (P := P) (S := S) (st := st) (id := id) (L1 := A.take n) (L2 := A.drop n) (r1 := done.reverse) (Q := Q) (s1 := s1) mixed (by rw [e]; exact hc) (by rw [e]; exact hbar) (by rw [e]; exact h1) (by rw [h3]; exact ghost)
    (fun i => by rw [e]; exact h2 i fun rs hrs => ⟨by simpa using hrs, by simp⟩)
  rwa [e] at this
theorem dg_nil {A L2 : List Oper} {s0 s : St} {n : Nat} {done : List Rec} {Q : Exit → St → Prop} (hc : chk A (List.replicate n blank ++ done.reverse) = true) (hQ : Q .normal s) :
    DG P S A L2 s0 done [] (∃ r2, DRun P S A.toArray L2 r2 s0 ∧ chk A (List.replicate n blank ++ r2) = true ∧ Q .normal (run (fun _ => true) 0 r2 s0)) s := fun hd => by
  obtain ⟨h1, h2⟩ := hd [] trivial
  simp only [List.append_nil] at h1 h2
  exact ⟨_, h1, hc, by rw [h2]; exact hQ⟩
end Go.Wt
namespace Go.Wt
open Go
variable {P : Program} {S : Nat → Prop} {ops : Array Oper} {st : St}
/-- The room of a result's first part is parked. -/
theorem parkT {t r : Nat} {n : Nod} {v : Vote} {b own : Bool} {h0 : Value} (hne : Nat.beq t r = false) (ht : st.tm t = some (.tup [.v (sN n), .v v, .v b])) (hq : st.tm r = some (.v (Room.mk (α := Vote) h0 own))) :
    ∀ G w a, RelSt G w a st → ∃ hv G', RelSt G' w a (st.upd [(t, some (.tup [.v (hN n hv), .v v, .v b])), (r, some (.v (Room.mk (α := Vote) hv true)))] []) ∧ Keep S G w G' w := by
  intro G w a hr
  have hne' : t ≠ r := fun e => by rw [e] at hne; simp at hne
  have h1 := hr.tmps t
  rw [ht] at h1
  obtain ⟨us, e0, u1, r1, e1, ⟨cs, k1, k2⟩, u2, r2, e2, ⟨cs2, k3, k4⟩, u3, r3, e3, ⟨cs3, k5, k6⟩, k7⟩ := h1
  obtain ⟨hv, p1, p2⟩ := park_rd (D := (.tmp r, [])) k1
  have h2 := hr.tmps r
  rw [hq] at h2
  obtain ⟨ds, ⟨⟨c, d0, d1⟩, d2⟩, d3⟩ := h2
  refine ⟨hv, G.mv (.tmp t, [0, 1, 1, 1]) (.tmp r, []), ⟨hr.defers, hr.size, fun q => ?_, fun k => ?_⟩, Keep.mv S (by simp) (by simp)⟩
  · show RelT _ _ _ (orr (lk [(t, _), (r, _)] q) (st.tm q)) (a.tmps.getD q undef)
    simp only [lk]
    by_cases eq : q = t
    · subst eq
      rw [if_pos rfl]
      exact ⟨us, e0, u1, r1, e1, ⟨cs, by simpa [Owner.sub] using p1, k2⟩, u2, r2, e2, ⟨cs2, Plain.mono Sh.mv k3, k4⟩, u3, r3, e3, ⟨cs3, k5, k6⟩, k7⟩
    · rw [if_neg eq]
      by_cases eq2 : q = r
      · subst eq2
        rw [if_pos rfl]
        exact ⟨ds, ⟨⟨c, d0, d1⟩, fun _ a k cap e => by simpa [Owner.sub] using p2 a k cap e⟩, d3⟩
      · rw [if_neg eq2]
        exact (hr.tmps q).mono Sh.mv (Ow.mv_other (by simpa using eq) (by simpa using eq2)) (fun _ _ _ h => h)
  · obtain ⟨T', hT⟩ := Obj.refs_all (st.ob k)
    exact (hr.objs k).pres Sh.mv (fun _ _ _ h => h) hT (PresO.mv (by simp) (by simp) (by simp) (by simp))
/-- A store that takes a node whose room is parked. -/
theorem op_stP {T pos aft} {x : Operand} {o s r : Nat} {n : Nod} {hv : Value} {c : NodS} {t : TypeId} (hne : Nat.beq s r = false) (ty : TyOk P t NodS) (hs : st.tm s = some (.v (hN n hv))) (hq : st.tm r = some (.v (Room.mk (α := Vote) hv true)))
    (hx : (st.upd [(s, some (.v (sN n))), (r, some (.v (Room.mk (α := Vote) hv false)))] []).ev x = some (.box o (IsLens.whole NodS))) (ho : st.ob o = .cell c) :
    OpOk P S ops ⟨none, .store t x (.tmp s), T, pos, aft, none⟩ ([s, r] ++ (opT x ++ [s])) [o] ([(s, some (.v (Enc.dis (sN n))))] ++ [(s, some (.v (sN n))), (r, some (.v (Room.mk (α := Vote) hv false)))]) [(o, .cell (sN n))] st :=
  OpOk.pre (op_stm ty hx (by simp [St.upd, lk, orr]) ho) fun st1 hag G w a hr =>
    ⟨_, unpark (fun e => by rw [e] at hne; simp at hne) hr (by rw [hag.tm s (by simp)]; exact hs) (by rw [hag.tm r (by simp)]; exact hq), Keep.mv S (by simp) (by simp)⟩
end Go.Wt
namespace Go.Wt
open Go
variable {P : Program} {S : Nat → Prop} {ops : Array Oper} {st : St}
/-! ### A row whose header is an object's -/
/-- A node whose row of votes is object `o`. -/
structure NodR where
  id : Int
  epoch : Int
  voted : Int
  seen : NRef
instance : Enc NodR := isoEnc (fun p => (p.id, p.epoch, p.voted, p.seen)) (fun q => ⟨q.1, q.2.1, q.2.2.1, q.2.2.2⟩) (fun _ => rfl) true (fun h => by cases h)
instance : Disl NodR := ⟨fun _ => rfl⟩
def NodR.zero : NodR := ⟨0, 0, 0, .nil⟩
instance : ZCells NodR .zero := ⟨ZCells.cs (Int × Int × Int × NRef), fun G w ω => ZCells.rd (α := Int × Int × Int × NRef) G w ω⟩
def rN (n : Nod) (o : Nat) : NodR := ⟨n.id, n.epoch, n.voted, .ref o⟩
/-- The room behind a row whose header is object `o`'s. -/
structure RoomO (α : Type) where
  o : Nat
  l : List α
  own : Bool
instance {α : Type} [Enc α] [Plain α] : Enc (RoomO α) where
  size := 1
  agg := false
  size_pos := by decide
  agg_size := fun _ => rfl
  rd := fun G w ω r cs => (∃ c : Value, cs = [c] ∧ c.oneCell' = true) ∧ ∃ a cap, G.hdr r.o = some (.slice a r.l.length cap) ∧ r.l.length ≤ cap ∧ Elems G w a r.l ∧ (r.own = true → Tail G w ω a (r.l.length * Enc.size α) (cap * Enc.size α))
  refs := fun r => [r.o]
  dis := fun x => ⟨x.o, x.l, false⟩
  len := fun ⟨⟨_, h, _⟩, _⟩ => by rw [h]; rfl
  one := fun ⟨⟨_, h, h1⟩, _⟩ c hc => by rw [h] at hc; simp at hc; rw [hc]; exact h1
  mono := fun hs ho hm ⟨h, a, cap, h1, h2, h3, h4⟩ => ⟨h, a, cap, hm _ (by simp) _ h1, h2, h3.mono hs, fun k => (h4 k).mono ho⟩
  mono_dis := fun hs hm ⟨h, a, cap, h1, h2, h3, h4⟩ => ⟨h, a, cap, hm _ (by simp) _ h1, h2, h3.mono hs, fun k => by cases k⟩
/-- Behind an operation less or more may be said. -/
theorem OpOk.post {o : Oper} {rt ro rt0 ro0 wt wo wt1 wo1} (h : OpOk P S ops o rt ro wt wo st)
    (hp : ∀ st1, Agree (rt0 ++ rt) (ro0 ++ ro) st st1 → ∀ G w a, RelSt G w a (st1.upd wt wo) → ∃ G', RelSt G' w a ((st1.upd wt wo).upd wt1 wo1) ∧ Keep S G w G' w) : OpOk P S ops o (rt0 ++ rt) (ro0 ++ ro) (wt1 ++ wt) (wo1 ++ wo) st := by
  intro st1 hag G w a hr K Q hK
  refine h st1 ⟨hag.n, fun t ht => hag.tm t (by simp [ht]), fun x hx => hag.ob x (by simp [hx])⟩ G w a hr K Q fun a' w' G' r1 r2 => ?_
  obtain ⟨G'', k1, k2⟩ := hp st1 hag G' w' a' r1
  have : (st1.upd wt wo).upd wt1 wo1 = st1.upd (wt1 ++ wt) (wo1 ++ wo) := by
    unfold St.upd
    congr 1
    · funext t
      show orr (lk wt1 t) (orr (lk wt t) (st1.tm t)) = orr (lk (wt1 ++ wt) t) (st1.tm t)
      rw [lk_append]
      cases lk wt1 t <;> rfl
    · funext t
      show orr (lk wo1 t) (orr (lk wo t) (st1.ob t)) = orr (lk (wo1 ++ wo) t) (st1.ob t)
      rw [lk_append]
      cases lk wo1 t <;> rfl
  rw [this] at k1
  exact hK a' w' G'' k1 (r2.trans k2)
theorem emit_core {G : Gh} {w : Go.World} {a : Act} {d r o' : Nat} {n : Nod} {v : Vote} {b c : Bool} (hne : d ≠ r) (hr : RelSt G w a st) (ht : st.tm d = some (.tup [.v (sN n), .v v, .v b])) (hq : st.tm r = some (.v c)) (hf : st.ob o' = .free) :
    ∃ G', RelSt G' w a (st.upd [(d, some (.tup [.v (rN n o'), .v v, .v b])), (r, some (.v (RoomO.mk o' n.seen true)))] [(o', .dead)]) ∧ Keep S G w G' w := by
  have h1 := hr.tmps d
  rw [ht] at h1
  obtain ⟨us, e0, u1, r1, e1, ⟨cs, ⟨c1, c2, ec, q1, ⟨c3, c4, ec2, q3, ⟨c5, c6, ec3, q5, ⟨aa, cap, g1, g2, g3, g4⟩⟩⟩⟩, k2⟩, u2, r2, e2, ⟨cs2, k3, k4⟩, u3, r3, e3, ⟨cs3, k5, k6⟩, k7⟩ := h1
  have hn0 : G.hdr o' = none := by have := hr.objs o'; rw [hf] at this; exact this
  have h0 := hr.sethdr (o := o') hf (.slice aa n.seen.length cap) (x := .dead) trivial
  have hc : a.tmps.getD r undef = .bool c := by have := hr.tmps r; rw [hq] at this; exact RelV.bool this
  have hhd : (G.hd o' (.slice aa n.seen.length cap)).hdr o' = some (.slice aa n.seen.length cap) := by simp [Gh.hd]
  have hsh : Sh G w ((G.hd o' (.slice aa n.seen.length cap)).mv (.tmp d, [0, 1, 1, 1]) (.tmp r, [])) w := fun b i v h1 h2 => Sh.mv b i v h1 h2
  refine ⟨(G.hd o' (.slice aa n.seen.length cap)).mv (.tmp d, [0, 1, 1, 1]) (.tmp r, []), ⟨hr.defers, hr.size, fun q => ?_, fun k => ?_⟩, (Keep.hd hn0).trans (Keep.mv S (by simp) (by simp))⟩
  · show RelT _ _ _ (orr (lk [(d, _), (r, _)] q) (st.tm q)) (a.tmps.getD q undef)
    simp only [lk]
    by_cases eq : q = d
    · subst eq
      rw [if_pos rfl]
      exact ⟨us, e0, u1, r1, e1, ⟨cs, ⟨c1, _, ec, q1, c3, _, ec2, q3, c5, _, ec3, q5, ⟨aa, _, cap, g1, hhd⟩⟩, k2⟩, u2, r2, e2, ⟨cs2, Plain.mono hsh k3, k4⟩, u3, r3, e3, ⟨cs3, k5, k6⟩, k7⟩
    · rw [if_neg eq]
      by_cases eq2 : q = r
      · subst eq2
        rw [if_pos rfl, hc]
        refine ⟨[.bool c], ⟨⟨_, rfl, rfl⟩, aa, cap, hhd, g2, g3.mono hsh, fun _ => ?_⟩, rfl⟩
        have := (g4 rfl).mono (G' := (G.hd o' (.slice aa n.seen.length cap)).mv (.tmp d, [0, 1, 1, 1]) (.tmp q, [])) (ω' := (.tmp q, [])) (fun bb i π v hno m1 m2 => by
          have := Ow.mv_src (G := G.hd o' (.slice aa n.seen.length cap)) (w := w) (s := (.tmp d, [0, 1, 1, 1])) (d := (.tmp q, [])) bb i π v hno (by simpa [Owner.sub, Gh.hd] using m1) m2
          exact this)
        exact this
      · rw [if_neg eq2]
        have := h0.tmps q
        exact this.mono Sh.mv (Ow.mv_other (by simpa using eq) (by simpa using eq2)) (fun _ _ _ h => h)
  · have := h0.objs k
    show RelO _ _ k (orr (lk [(o', _)] k) (st.ob k))
    obtain ⟨T', hT⟩ := Obj.refs_all ((st.upd [] [(o', Obj.dead)]).ob k)
    exact this.pres Sh.mv (fun _ _ _ h => h) hT (PresO.mv (by simp) (by simp) (by simp) (by simp))
/-- The first part of a result is made a row whose header is an object's. -/
theorem OpOk.emit {o0 : Oper} {rt ro wt wo} {d o' : Nat} (r : Nat) {n : Nod} {v : Vote} {b c : Bool} (h : OpOk P S ops o0 rt ro wt wo st) (hd : lk wt d = some (some (.tup [.v (sN n), .v v, .v b]))) (hr : st.tm r = some (.v c)) (hr' : (lk wt r).isNone = true) (hf : st.ob o' = .free) (hf' : (lk wo o').isNone = true) :
    OpOk P S ops o0 ([r] ++ rt) ([o'] ++ ro) ([(d, some (.tup [.v (rN n o'), .v v, .v b])), (r, some (.v (RoomO.mk o' n.seen true)))] ++ wt) ([(o', .dead)] ++ wo) st :=
  OpOk.post h fun st1 hag G w a hrs => emit_core (fun e => by subst e; rw [hd] at hr'; cases hr') hrs (by show orr (lk wt d) _ = _; rw [hd]; rfl) (by
    show orr (lk wt r) _ = _
    rw [Option.isNone_iff_eq_none.1 hr']
    show st1.tm r = _
    rw [hag.tm r (by simp)]; exact hr) (by
    show orr (lk wo o') _ = _
    rw [Option.isNone_iff_eq_none.1 hf']
    show st1.ob o' = _
    rw [hag.ob o' (by simp)]; exact hf)
theorem absorb_core {G : Gh} {w : Go.World} {a : Act} {s r o' : Nat} {n : Nod} (hne : s ≠ r) (hr : RelSt G w a st) (hs : st.tm s = some (.v (rN n o'))) (hq : st.tm r = some (.v (RoomO.mk o' n.seen true))) :
    RelSt (G.mv (.tmp r, []) (.tmp s, [1, 1, 1])) w a (st.upd [(s, some (.v (sN n))), (r, some (.v (RoomO.mk o' n.seen false)))] []) := by
  have h1 := hr.tmps s
  rw [hs] at h1
  obtain ⟨cs, ⟨c1, c2, rfl, r1, ⟨c3, c4, rfl, r3, ⟨c5, c6, rfl, r5, ⟨aa, m, cap, g1, g2⟩⟩⟩⟩, q2⟩ := h1
  have h2 := hr.tmps r
  rw [hq] at h2
  obtain ⟨ds, ⟨d0, a2, cap2, d1, d2, d3, d4⟩, d5⟩ := h2
  have d1' : G.hdr o' = some (.slice a2 n.seen.length cap2) := d1
  rw [show G.hdr o' = _ from g2] at d1'
  injection d1' with d1'
  injection d1' with e1 e2 e3
  subst e1 e2 e3
  refine ⟨hr.defers, hr.size, fun q => ?_, fun k => ?_⟩
  · show RelT _ _ _ (orr (lk [(s, _), (r, _)] q) (st.tm q)) (a.tmps.getD q undef)
    simp only [lk]
    by_cases eq : q = s
    · subst eq
      rw [if_pos rfl]
      refine ⟨_, ⟨c1, _, rfl, r1, c3, _, rfl, r3, c5, _, rfl, r5, ⟨aa, cap, g1, d2, d3.mono Sh.mv, fun _ => ?_⟩⟩, q2⟩
      have := (d4 rfl).mono (Ow.mv_src (G := G) (w := w) (s := (.tmp r, [])) (d := (.tmp q, [1, 1, 1])))
      simpa [Owner.sub, sN] using this
    · rw [if_neg eq]
      by_cases e2 : q = r
      · subst e2
        rw [if_pos rfl]
        exact ⟨ds, ⟨d0, _, _, g2, d2, d3.mono Sh.mv, fun k => by cases k⟩, d5⟩
      · rw [if_neg e2]
        exact (hr.tmps q).mono Sh.mv (Ow.mv_other (by simpa using e2) (by simpa using eq)) (fun _ _ _ h => h)
  · obtain ⟨T', hT⟩ := Obj.refs_all (st.ob k)
    exact (hr.objs k).pres Sh.mv (fun _ _ _ h => h) hT (PresO.mv (by simp) (by simp) (by simp) (by simp))
/-- A store into a row of a node whose votes are an object's row. -/
theorem op_steR {T pos aft} {x : Operand} {o i s o' : Nat} (r : Nat) {n : Nod} {xs : List NodS} {c : NodS} {t : TypeId} (hne : Nat.beq s r = false) (ty : TyOk P t NodS) (hs : st.tm s = some (.v (rN n o'))) (hq : st.tm r = some (.v (RoomO.mk o' n.seen true)))
    (hx : (st.upd [(s, some (.v (sN n))), (r, some (.v (RoomO.mk o' n.seen false)))] []).ev x = some (.elm o i (IsLens.whole NodS))) (ho : st.ob o = .arr xs) (hi : xs[i]? = some c) :
    OpOk P S ops ⟨none, .store t x (.tmp s), T, pos, aft, none⟩ ([s, r] ++ (opT x ++ [s])) [o] ([(s, some (.v (Enc.dis (sN n))))] ++ [(s, some (.v (sN n))), (r, some (.v (RoomO.mk o' n.seen false)))]) [(o, .arr (xs.set i (sN n)))] st :=
  OpOk.pre (op_stme ty hx (by simp [St.upd, lk, orr]) ho hi) fun st1 hag G w a hr =>
    ⟨_, absorb_core (fun e => by rw [e] at hne; simp at hne) hr (by rw [hag.tm s (by simp)]; exact hs) (by rw [hag.tm r (by simp)]; exact hq), Keep.mv S (by simp) (by simp)⟩
end Go.Wt
namespace Go.Wt
theorem inOne {k : Nat → Bool} (h : k 1 = true) : ∀ o ∈ ([1] : List Nat), k o = true := fun o ho => by simp at ho; subst ho; exact h
end Go.Wt

/- What the reference computes, and that it is the same. -/
set_option linter.unusedVariables false
namespace Go.Wt
def leadS (e : Int) : Int := (e - 1).tmod 4 + 1
/-- One chain begins another one. -/
def inS (a b : List Itm) : Bool := decide (a.length ≤ b.length) && decide (a = b.take a.length)
def manyFrom (c : List Itm) : List Vote → Int → Int
  | [], n => n
  | v :: r, n => manyFrom c r (if decide (v.chain = c) then n + 1 else n)
def many (l : List Vote) (c : List Itm) : Int := manyFrom c l 0
theorem many_drop {c : List Itm} {l : List Vote} {k : Nat} {x : Vote} (h : l[k]? = some x) (n : Int) : manyFrom c (l.drop k) n = manyFrom c (l.drop (k + 1)) (if decide (x.chain = c) then n + 1 else n) := by
  rw [drop_at h]; rfl
def sureSFrom (l : List Vote) (c : List Itm) : Nat → Nat → Bool
  | _, 0 => true
  | k, n + 1 => decide (3 ≤ many l (c.take (k + 1))) && sureSFrom l c (k + 1) n
def sureS (l : List Vote) (c : List Itm) : Bool := sureSFrom l c 0 c.length
theorem sureS_step (l : List Vote) (c : List Itm) (k n : Nat) : sureSFrom l c k (n + 1) = (decide (3 ≤ many l (c.take (k + 1))) && sureSFrom l c (k + 1) n) := rfl
theorem take_eq_at {a b : List Itm} {k : Nat} {x y : Itm} (h1 : a[k]? = some x) (h2 : b[k]? = some y) : decide (a.take (k + 1) = b.take (k + 1)) = (decide (a.take k = b.take k) && decide (x = y)) := by
  rw [take_at h1, take_at h2, Bool.eq_iff_iff]
  simp only [decide_eq_true_eq, Bool.and_eq_true]
  constructor
  · intro h
    have hl : (a.take k).length = (b.take k).length := by
      have := (List.getElem?_eq_some_iff.1 h1).1
      have := (List.getElem?_eq_some_iff.1 h2).1
      simp; omega
    have := List.append_inj h hl
    exact ⟨this.1, by simpa using this.2⟩
  · rintro ⟨h, rfl⟩; rw [h]
theorem mem_take_at {l : List Vote} {k : Nat} {x v : Vote} (h : l[k]? = some x) : decide (v ∈ l.drop k) = (decide (x = v) || decide (v ∈ l.drop (k + 1))) := by
  rw [drop_at h, Bool.eq_iff_iff]
  simp only [List.mem_cons, decide_eq_true_eq, Bool.or_eq_true]
  exact ⟨fun h => h.imp Eq.symm id, fun h => h.imp Eq.symm id⟩
end Go.Wt
namespace Go.Wt
end Go.Wt
namespace Go.Wt
def fitsS (n : Nod) (u : Vote) (long : Nat) : Bool :=
  decide (u.by_ = leadS n.epoch) && decide (lastEp u.chain = n.epoch) && decide (u.chain.length = long + 1) && sureS n.seen (u.chain.take (u.chain.length - 1))
theorem fitsS_alt {n : Nod} {u : Vote} {long : Nat} (hu : 0 < u.chain.length) : fitsS n u long =
    (decide (u.by_ = leadS n.epoch) && decide (lastEp u.chain = n.epoch) && decide ((u.chain.length : Int) - 1 = (long : Int)) && sureS n.seen (u.chain.take ((u.chain.length : Int) - 1).toNat)) := by
  have e : ((u.chain.length : Int) - 1).toNat = u.chain.length - 1 := by omega
  rw [e]
  unfold fitsS
  congr 2
  rw [decide_eq_decide]
  omega
end Go.Wt
namespace Go.Wt
def allStepS (l : List Vote) (out : List (List Itm)) (v : Vote) : List (List Itm) := if !decide (v.chain ∈ out) && sureS l v.chain then out ++ [v.chain] else out
def allOfS (l : List Vote) : List (List Itm) := l.foldl (allStepS l) [[]]
theorem allStepS_len (l : List Vote) : ∀ (r : List Vote) (o : List (List Itm)), (r.foldl (allStepS l) o).length ≤ o.length + r.length
  | [], o => by simp
  | v :: r, o => by
    have := allStepS_len l r (allStepS l o v)
    have h2 : (allStepS l o v).length ≤ o.length + 1 := by unfold allStepS; split <;> simp
    simp only [List.foldl_cons, List.length_cons]; omega
theorem mem_take_c {l : List (List Itm)} {k : Nat} {x v : List Itm} (h : l[k]? = some x) : decide (v ∈ l.take (k + 1)) = (decide (v ∈ l.take k) || decide (x = v)) := by
  rw [take_at h, Bool.eq_iff_iff]
  simp only [List.mem_append, List.mem_singleton, decide_eq_true_eq, Bool.or_eq_true]
  exact ⟨fun h => h.imp id Eq.symm, fun h => h.imp id Eq.symm⟩
end Go.Wt
namespace Go.Wt
open Go
/-- What stands here ends in one state. -/
theorem awp_to {P : Program} {S : Nat → Prop} {st s' : St} {x y : Code} {Q Q' : Exit → St → Prop} (h1 : awp P S x (athen (fun s => Le S s s') Q) st) (h2 : awp P S y Q' s') : awp P S x (athen (awp P S y Q') Q) st :=
  awp_mono h1 fun e s q => by
    cases e with
    | normal => exact awp_le q h2
    | exit id => exact q
    | goto l => exact q
    | ret => exact q
    | panic ch => exact q
    | outgrown => exact q
end Go.Wt
namespace Go.Wt
open Go
theorem awp_toB {P : Program} {S : Nat → Prop} {st s' : St} {id : Nat} {x y : Code} {Q Q' : Exit → St → Prop} (h1 : awp P S x (ablock id (athen (fun s => Le S s s') Q)) st) (h2 : awp P S y Q' s') : awp P S x (ablock id (athen (awp P S y Q') Q)) st :=
  awp_mono h1 fun e s q => by
    cases e with
    | normal => exact awp_le q h2
    | exit j =>
      simp only [ablock] at q ⊢
      split at q
      · rw [if_pos (by assumption)]; exact awp_le q h2
      · rw [if_neg (by assumption)]; exact q
    | goto l => exact q
    | ret => exact q
    | panic ch => exact q
    | outgrown => exact q
end Go.Wt
namespace Go.Wt
theorem allStepS_pos (l : List Vote) : ∀ (r : List Vote) (o : List (List Itm)) (x : List Itm), o[0]? = some x → (r.foldl (allStepS l) o)[0]? = some x
  | [], _, _, h => h
  | v :: r, o, x, h => by
    refine allStepS_pos l r _ x ?_
    unfold allStepS
    split
    · have := (List.getElem?_eq_some_iff.1 h).1
      rw [List.getElem?_append_left this]; exact h
    · exact h
theorem allOfS_0 (l : List Vote) : (allOfS l)[0]? = some [] := allStepS_pos l l [[]] [] rfl
def tipOfS (l : List Vote) : List Itm := (allOfS l).foldl tipStep []
end Go.Wt
namespace Go.Wt
def proposeS (n : Nod) (p : Pay) : Nod × Vote × Bool :=
  if decide (n.epoch = 0) || decide (n.voted = n.epoch) || !decide (leadS n.epoch = n.id) then (n, .zero, false)
  else if chainOk (tipOfS n.seen ++ [⟨n.epoch, p⟩]) then voteF n (tipOfS n.seen ++ [⟨n.epoch, p⟩]) else (n, .zero, false)
theorem allStepS_mem (l : List Vote) : ∀ (r : List Vote) (o : List (List Itm)) (c : List Itm), c ∈ r.foldl (allStepS l) o → c ∈ o ∨ ∃ v ∈ r, v.chain = c
  | [], o, c, h => .inl h
  | v :: r, o, c, h => by
    rcases allStepS_mem l r (allStepS l o v) c h with h | ⟨u, h1, h2⟩
    · unfold allStepS at h
      split at h
      · rcases List.mem_append.1 h with h | h
        · exact .inl h
        · simp at h; exact .inr ⟨v, by simp, h.symm⟩
      · exact .inl h
    · exact .inr ⟨u, by simp [h1], h2⟩
theorem Gd.tipS {l : List Vote} (h : Gd l) : (tipOfS l).length ≤ 16 := by
  rcases tip_mem (allOfS l) [] with e | e
  · unfold tipOfS; rw [e]; simp
  · rcases allStepS_mem l l [[]] _ e with e | ⟨v, h1, h2⟩
    · simp at e; unfold tipOfS; rw [e]; simp
    · unfold tipOfS; rw [← h2]; exact chainOk_len (voteOk_chain (h.ok v h1))
def res3S (x : Nod × Vote × Bool) : AV := .tup [.v (sN x.1), .v x.2.1, .v x.2.2]
end Go.Wt
namespace Go.Wt
open Go
theorem obOkN {p : Nat → Bool} {x : NodS} : obOk p (.cell x) := fun o ho => by
  have : Enc.refs x = [] := rfl
  rw [this] at ho; cases ho
theorem obOkS {p : Nat → Bool} {e : Int} {o : Nat} {l : OList Vote} {b : Int} (h : p o = true) : obOk p (.cell (WrldS.mk e (.ref o) l b)) := fun o' ho => by
  have : Enc.refs (WrldS.mk e (.ref o) l b) = [o] := rfl
  rw [this] at ho
  simp at ho; subst ho; exact h
end Go.Wt
namespace Go.Wt
def sW (w : Wrld) : WrldS := ⟨w.epoch, .ref 1, ⟨w.log, true⟩, w.bad⟩
end Go.Wt
namespace Go.Wt
open Go
theorem bN {p : Nat → Bool} {xs : List NodS} : obOk p (.arr xs) := fun x _ o ho => by
  have : Enc.refs x = [] := rfl
  rw [this] at ho; cases ho
theorem obOkS0 {p : Nat → Bool} : obOk p (.cell WrldS.zero) := fun o ho => by
  have : Enc.refs WrldS.zero = [] := rfl
  rw [this] at ho; cases ho
end Go.Wt
namespace Go.Wt
def fW (w : Wrld) : WrldS := ⟨w.epoch, .ref 1, ⟨w.log, false⟩, w.bad⟩
end Go.Wt
namespace Go.Wt
def tryS (n : Nod) (long : Nat) : List Vote → Nod × Vote × Bool
  | [] => (n, .zero, false)
  | u :: r => if fitsS n u long then voteF n u.chain else tryS n long r
theorem tryS_drop (n : Nod) (long : Nat) {l : List Vote} {k : Nat} {x : Vote} (h : l[k]? = some x) : tryS n long (l.drop k) = if fitsS n x long then voteF n x.chain else tryS n long (l.drop (k + 1)) := by
  rw [drop_at h]; rfl
def tryAllS (n : Nod) : Nod × Vote × Bool := if decide (n.epoch = 0) || decide (n.voted = n.epoch) then (n, .zero, false) else tryS n (tipOfS n.seen).length n.seen
def hearS (n : Nod) (v : Vote) : Nod × Vote × Bool :=
  if voteOk v && !decide (v.by_ = n.id) && decide (n.seen.length < 80) then tryAllS (seeF n v) else (n, .zero, false)
end Go.Wt

/- Streamlet: what is sure, what is final, and that of two finals one begins the other. -/
set_option linter.unusedVariables false
set_option linter.unusedSimpArgs false
namespace Go.Wt

/-! ### Sure chains -/
/-! ### All sure chains, the longest, the final part -/
/-- Three items of epochs one behind the other, the last at place `n`. -/
def Trip (c : List Itm) (n : Nat) : Prop := 2 ≤ n ∧ ∃ x y z, c[n - 2]? = some x ∧ c[n - 1]? = some y ∧ c[n]? = some z ∧ x.epoch + 1 = y.epoch ∧ y.epoch + 1 = z.epoch
theorem trip_iff (c : List Itm) (n : Nat) : (decide (2 < n + 1) && (match c[n - 2]?, c[n - 1]?, c[n]? with | some x, some y, some z => decide (x.epoch + 1 = y.epoch) && decide (y.epoch + 1 = z.epoch) | _, _, _ => false)) = true ↔ Trip c n := by
  unfold Trip
  simp only [Bool.and_eq_true, decide_eq_true_eq]
  constructor
  · rintro ⟨h1, h2⟩
    refine ⟨by omega, ?_⟩
    split at h2
    · rename_i x y z e1 e2 e3
      simp only [Bool.and_eq_true, decide_eq_true_eq] at h2
      exact ⟨x, y, z, e1, e2, e3, h2.1, h2.2⟩
    · cases h2
  · rintro ⟨h1, x, y, z, e1, e2, e3, e4, e5⟩
    refine ⟨by omega, ?_⟩
    simp [e1, e2, e3, e4, e5]
theorem finFrom_spec (c : List Itm) : ∀ n : Nat, (finFrom c n = 0 ∨ Trip c (finFrom c n).toNat) ∧ ∀ m, m < n → Trip c m → (m : Int) ≤ finFrom c n
  | 0 => ⟨.inl rfl, fun m h => by omega⟩
  | n + 1 => by
    obtain ⟨h1, h2⟩ := finFrom_spec c n
    have h3 := finFrom_le c n
    by_cases ht : Trip c n
    · have e : finFrom c (n + 1) = n := by simp only [finFrom]; exact if_pos ((trip_iff c n).2 ht)
      rw [e]
      exact ⟨.inr (by simpa using ht), fun m hm _ => by omega⟩
    · have e : finFrom c (n + 1) = finFrom c n := by simp only [finFrom]; exact if_neg (fun h => ht ((trip_iff c n).1 h))
      rw [e]
      refine ⟨h1, fun m hm hT => ?_⟩
      by_cases e : m = n
      · subst e; exact absurd hT ht
      · exact h2 m (by omega) hT
theorem Trip.lt {c : List Itm} {n : Nat} (h : Trip c n) : n < c.length := by
  obtain ⟨_, x, y, z, _, _, h, _⟩ := h
  exact (List.getElem?_eq_some_iff.1 h).1
theorem finLen_spec (c : List Itm) : finLen c = 0 ∨ Trip c (finLen c).toNat := (finFrom_spec c c.length).1
theorem finLen_max {c : List Itm} {n : Nat} (h : Trip c n) : (n : Int) ≤ finLen c := (finFrom_spec c c.length).2 n h.lt h
/-! ### Of two finals one begins the other -/
/-- Who does not lie votes once in an epoch, and never behind a shorter one. -/
structure Safe (bad : Int) (L : List Vote) : Prop where
  one : ∀ u ∈ L, ∀ v ∈ L, u.by_ = v.by_ → u.by_ ≠ bad → lastEp u.chain = lastEp v.chain → u = v
  long : ∀ u ∈ L, ∀ v ∈ L, u.by_ = v.by_ → u.by_ ≠ bad → lastEp u.chain < lastEp v.chain → u.chain.length ≤ v.chain.length
end Go.Wt

/- What the reference computes is what the program computes; what stays so of a world. -/
set_option linter.unusedVariables false
set_option linter.unusedSimpArgs false
namespace Go.Wt

theorem votesOkFrom_iff : ∀ (l pre : List Vote), votesOkFrom pre l = true ↔ (∀ v ∈ l, voteOk v = true) ∧ l.Nodup ∧ ∀ v ∈ l, v ∉ pre
  | [], pre => by simp [votesOkFrom]
  | u :: r, pre => by
    simp only [votesOkFrom, Bool.and_eq_true, votesOkFrom_iff r (pre ++ [u]), Bool.not_eq_true', decide_eq_false_iff_not]
    constructor
    · rintro ⟨⟨h1, h2⟩, h3, h4, h5⟩
      refine ⟨fun v hv => ?_, List.nodup_cons.2 ⟨fun hm => ?_, h4⟩, fun v hv => ?_⟩
      · rcases List.mem_cons.1 hv with rfl | hv
        · exact h1
        · exact h3 v hv
      · exact h5 u hm (by simp)
      · rcases List.mem_cons.1 hv with rfl | hv
        · exact h2
        · exact fun hm => h5 v hv (by simp [hm])
    · rintro ⟨h1, h2, h3⟩
      rw [List.nodup_cons] at h2
      refine ⟨⟨h1 u (by simp), h3 u (by simp)⟩, fun v hv => h1 v (by simp [hv]), h2.2, fun v hv hm => ?_⟩
      rcases List.mem_append.1 hm with hm | hm
      · exact h3 v (by simp [hv]) hm
      · simp at hm; subst hm; exact h2.1 hv
theorem votesOk_iff {l : List Vote} : votesOk l = true ↔ (∀ v ∈ l, voteOk v = true) ∧ l.Nodup := by
  unfold votesOk; rw [votesOkFrom_iff]; simp
theorem votesOk_snoc {l : List Vote} {v : Vote} (h : votesOk l = true) (hv : voteOk v = true) (hn : v ∉ l) : votesOk (l ++ [v]) = true := by
  rw [votesOk_iff] at h ⊢
  refine ⟨fun u hu => ?_, ?_⟩
  · rcases List.mem_append.1 hu with hu | hu
    · exact h.1 u hu
    · simp at hu; rw [hu]; exact hv
  · rw [List.nodup_append]
    refine ⟨h.2, by simp, fun a ha b hb => ?_⟩
    simp at hb
    rintro rfl
    exact hn (hb ▸ ha)
theorem voteOk_by {v : Vote} (h : voteOk v = true) : v.by_ = 1 ∨ v.by_ = 2 ∨ v.by_ = 3 ∨ v.by_ = 4 := by
  simp only [voteOk, Bool.and_eq_true, within, decide_eq_true_eq] at h
  omega
/-! ### Votes and voters -/
theorem filter_or1 {p : Int → Bool} {m : Int} (hm : m = 1 ∨ m = 2 ∨ m = 3 ∨ m = 4) (hp : p m = false) : (([1, 2, 3, 4] : List Int).filter fun n => decide (n = m) || p n).length = (([1, 2, 3, 4] : List Int).filter p).length + 1 := by
  rcases hm with rfl | rfl | rfl | rfl <;> cases h1 : p 1 <;> cases h2 : p 2 <;> cases h3 : p 3 <;> cases h4 : p 4 <;> simp_all [List.filter_cons]
theorem manyFrom_add (c : List Itm) : ∀ (l : List Vote) (n : Int), manyFrom c l n = n + manyFrom c l 0
  | [], n => by simp [manyFrom]
  | v :: r, n => by
    simp only [manyFrom]
    rw [manyFrom_add c r, manyFrom_add c r (if decide (v.chain = c) = true then 0 + 1 else 0)]
    split <;> omega
theorem many_eq (c : List Itm) : ∀ {l : List Vote}, votesOk l = true → many l c = (voters l c).length
  | [], _ => by simp [many, manyFrom, voters]
  | v :: r, h => by
    rw [votesOk_iff] at h
    have hnd := List.nodup_cons.1 h.2
    have hr : votesOk r = true := votesOk_iff.2 ⟨fun u hu => h.1 u (by simp [hu]), hnd.2⟩
    have ih := many_eq c hr
    unfold many at ih ⊢
    simp only [manyFrom]
    rw [manyFrom_add, ih]
    by_cases e : v.chain = c
    · have hm := voteOk_by (h.1 v (by simp))
      have := filter_or1 (p := fun n => decide (Vote.mk n c ∈ r)) hm (by
        simp only [decide_eq_false_iff_not]
        intro hh; apply hnd.1
        have : Vote.mk v.by_ c = v := by rw [← e]
        rwa [this] at hh)
      have e2 : voters (v :: r) c = ([1, 2, 3, 4] : List Int).filter fun n => decide (n = v.by_) || decide (Vote.mk n c ∈ r) := by
        unfold voters
        congr 1
        funext n
        rw [Bool.eq_iff_iff]
        simp only [List.mem_cons, decide_eq_true_eq, Bool.or_eq_true]
        constructor
        · rintro (h | h)
          · left; rw [← h]
          · exact .inr h
        · rintro (h | h)
          · left; rw [h, ← e]
          · exact .inr h
      rw [e2, this]
      simp only [e, decide_true, if_true]
      unfold voters
      omega
    · have e2 : voters (v :: r) c = voters r c := by
        unfold voters
        congr 1
        funext n
        rw [Bool.eq_iff_iff]
        simp only [List.mem_cons, decide_eq_true_eq]
        constructor
        · rintro (h | h)
          · exfalso; apply e; rw [← h]
          · exact h
        · exact .inr
      rw [e2]
      simp [e]
theorem sureSFrom_eq {l : List Vote} (h : votesOk l = true) (c : List Itm) : ∀ n k, sureSFrom l c k n = sureFrom l c k n
  | 0, _ => rfl
  | n + 1, k => by
    simp only [sureSFrom, sureFrom, sureSFrom_eq h c n, many_eq _ h]
    congr 1
    rw [decide_eq_decide]; omega
theorem sureS_eq {l : List Vote} (h : votesOk l = true) (c : List Itm) : sureS l c = sure l c := sureSFrom_eq h c _ _
theorem allStepS_eq {l : List Vote} (h : votesOk l = true) : allStepS l = allStep l := by
  funext o v; unfold allStepS allStep; rw [sureS_eq h]
theorem allOfS_eq {l : List Vote} (h : votesOk l = true) : allOfS l = allOf l := by unfold allOfS allOf; rw [allStepS_eq h]
theorem tipOfS_eq {l : List Vote} (h : votesOk l = true) : tipOfS l = tipOf l := by unfold tipOfS tipOf; rw [allOfS_eq h]
theorem lead_eq {e : Int} (h : 1 ≤ e ∧ e ≤ 30) : leadS e = leader e := by
  unfold leader leadS
  rw [if_pos (by simp [within]; omega)]
theorem proposeS_eq {n : Nod} (p : Pay) (hs : votesOk n.seen = true) (he : 0 ≤ n.epoch ∧ n.epoch ≤ 30) : proposeS n p = proposeF n p := by
  unfold proposeS proposeF
  rw [tipOfS_eq hs]
  by_cases h0 : n.epoch = 0
  · simp [h0, mayN]
  · rw [lead_eq (by omega)]
    have hp : 0 < n.epoch := by omega
    by_cases h1 : n.voted = n.epoch
    · simp [h1, mayN]
    · by_cases h2 : leader n.epoch = n.id
      · simp [h0, h1, h2, mayN, hp]
      · simp [h0, h1, h2, mayN]
theorem fitsS_eq {n : Nod} {u : Vote} (hs : votesOk n.seen = true) (he : 1 ≤ n.epoch ∧ n.epoch ≤ 30) : fitsS n u (tipOf n.seen).length = fits n u := by
  unfold fitsS fits
  rw [lead_eq he, sureS_eq hs]
theorem tryS_eq {n : Nod} (hs : votesOk n.seen = true) (he : 1 ≤ n.epoch ∧ n.epoch ≤ 30) : ∀ l : List Vote, tryS n (tipOf n.seen).length l = tryF n l
  | [] => rfl
  | u :: r => by simp only [tryS, tryF, fitsS_eq hs he, tryS_eq hs he r]
theorem tryAllS_eq {n : Nod} (hs : votesOk n.seen = true) (he : 0 ≤ n.epoch ∧ n.epoch ≤ 30) : tryAllS n = if mayN n then tryF n n.seen else (n, .zero, false) := by
  unfold tryAllS
  rw [tipOfS_eq hs]
  by_cases h0 : n.epoch = 0
  · simp [h0, mayN]
  · have hp : 0 < n.epoch := by omega
    by_cases h1 : n.voted = n.epoch
    · simp [h1, mayN]
    · simp [h0, h1, mayN, hp, tryS_eq hs (show 1 ≤ n.epoch ∧ n.epoch ≤ 30 by omega)]
theorem seeF_ok {n : Nod} {v : Vote} (hs : votesOk n.seen = true) (hv : voteOk v = true) : votesOk (seeF n v).seen = true := by
  unfold seeF
  split
  · exact hs
  · rename_i h; exact votesOk_snoc hs hv (by simpa using h)
theorem seeF_epoch (n : Nod) (v : Vote) : (seeF n v).epoch = n.epoch ∧ (seeF n v).id = n.id ∧ (seeF n v).voted = n.voted := by unfold seeF; split <;> exact ⟨rfl, rfl, rfl⟩
theorem hearS_eq {n : Nod} {v : Vote} (hs : votesOk n.seen = true) (he : 0 ≤ n.epoch ∧ n.epoch ≤ 30) : hearS n v = hearF n v := by
  unfold hearS hearF
  split
  · rename_i h
    simp only [Bool.and_eq_true] at h
    exact tryAllS_eq (seeF_ok hs h.1.1) (by rw [(seeF_epoch n v).1]; exact he)
  · rfl
/-! ### Nodes stay in form -/
theorem nodeOk_iff {n : Nod} : nodeOk n = true ↔ (within n.id 1 4 = true ∧ (0 ≤ n.epoch ∧ n.epoch ≤ 30) ∧ (0 ≤ n.voted ∧ n.voted ≤ n.epoch) ∧ n.seen.length ≤ 80 ∧ votesOk n.seen = true) ∧ ∀ v ∈ n.seen, v.by_ = n.id → lastEp v.chain ≤ n.voted := by
  unfold nodeOk nodeOk0
  simp only [Bool.and_eq_true, Bool.not_eq_true', List.any_eq_false, late, decide_eq_true_eq, not_and, and_assoc]
  simp only [within, Bool.and_eq_true, decide_eq_true_eq, and_assoc]
  constructor
  · rintro ⟨a, b, c, d, e, f, g, h, k⟩
    exact ⟨a, b, c, d, e, f, g, h, fun v hv hb => by have := k v hv hb; omega⟩
  · rintro ⟨a, b, c, d, e, f, g, h, k⟩
    exact ⟨a, b, c, d, e, f, g, h, fun v hv hb => by have := k v hv hb; omega⟩
theorem lastEp_snoc (c : List Itm) (x : Itm) : lastEp (c ++ [x]) = x.epoch := by simp [lastEp]
theorem voteF_ok {n : Nod} {c : List Itm} (h : nodeOk n = true) (h0 : 0 < c.length) (hc : chainOk c = true) (hm : mayN n = true) (hl : lastEp c = n.epoch) : nodeOk (voteF n c).1 = true ∧ ((voteF n c).2.2 = true → voteOk (voteF n c).2.1 = true) := by
  have h' := nodeOk_iff.1 h
  obtain ⟨⟨h1, h2, h3, h4, h5⟩, h6⟩ := h'
  have hv : voteOk ⟨n.id, c⟩ = true := by simp [voteOk, h1, h0, hc]
  unfold voteF
  split
  · exact ⟨h, fun h => by cases h⟩
  · rename_i hlen
    have hlen' : n.seen.length < 80 := by simpa using hlen
    simp only [mayN, Bool.and_eq_true, decide_eq_true_eq, bne_iff_ne] at hm
    refine ⟨nodeOk_iff.2 ⟨⟨h1, h2, ⟨h2.1, Int.le_refl _⟩, by simp; omega, votesOk_snoc h5 hv fun hmem => ?_⟩, fun v hv' hb => ?_⟩, fun _ => hv⟩
    · have := h6 _ hmem rfl
      simp only at this
      have := hm.2
      omega
    · rcases List.mem_append.1 hv' with hv' | hv'
      · have := h6 v hv' hb
        show lastEp v.chain ≤ n.epoch
        omega
      · simp at hv'; rw [hv']; show lastEp c ≤ n.epoch; omega
theorem proposeF_ok {n : Nod} (p : Pay) (h : nodeOk n = true) : nodeOk (proposeF n p).1 = true ∧ ((proposeF n p).2.2 = true → voteOk (proposeF n p).2.1 = true) := by
  unfold proposeF
  split
  · rename_i hh
    simp only [Bool.and_eq_true] at hh
    exact voteF_ok h (by simp) hh.2 hh.1.1 (lastEp_snoc _ _)
  · exact ⟨h, fun h => by cases h⟩
theorem tryF_ok {n : Nod} (h : nodeOk n = true) (hm : mayN n = true) : ∀ {l : List Vote}, (∀ v ∈ l, voteOk v = true) → nodeOk (tryF n l).1 = true ∧ ((tryF n l).2.2 = true → voteOk (tryF n l).2.1 = true)
  | [], _ => ⟨h, fun h => by cases h⟩
  | u :: r, hl => by
    simp only [tryF]
    split
    · rename_i hf
      have hu := hl u (by simp)
      simp only [fits, Bool.and_eq_true, decide_eq_true_eq] at hf
      exact voteF_ok h (voteOk_pos hu) (voteOk_chain hu) hm hf.1.1.2
    · exact tryF_ok h hm (fun v hv => hl v (by simp [hv]))
theorem seeF_nok {n : Nod} {v : Vote} (h : nodeOk n = true) (hv : voteOk v = true) (hb : v.by_ ≠ n.id) (hl : n.seen.length < 80) : nodeOk (seeF n v) = true := by
  have h' := nodeOk_iff.1 h
  obtain ⟨⟨h1, h2, h3, h4, h5⟩, h6⟩ := h'
  have hs := seeF_ok h5 hv
  unfold seeF at hs ⊢
  split
  · exact h
  · rename_i hm
    rw [if_neg hm] at hs
    refine nodeOk_iff.2 ⟨⟨h1, h2, h3, by simp; omega, hs⟩, fun u hu hub => ?_⟩
    rcases List.mem_append.1 hu with hu | hu
    · exact h6 u hu hub
    · simp at hu; subst hu; exact absurd hub hb
theorem hearF_ok {n : Nod} (v : Vote) (h : nodeOk n = true) : nodeOk (hearF n v).1 = true ∧ ((hearF n v).2.2 = true → voteOk (hearF n v).2.1 = true) := by
  unfold hearF
  split
  · rename_i hh
    simp only [Bool.and_eq_true, Bool.not_eq_true', decide_eq_false_iff_not, decide_eq_true_eq] at hh
    have hs := seeF_nok h hh.1.1 hh.1.2 hh.2
    split
    · rename_i hm; exact tryF_ok hs hm (votesOk_mem (nodeOk_iff.1 hs).1.2.2.2.2)
    · exact ⟨hs, fun h => by cases h⟩
  · exact ⟨h, fun h => by cases h⟩
theorem enterF_ok {n : Nod} {e : Int} (h : nodeOk n = true) : nodeOk (enterF n e) = true := by
  unfold enterF
  split
  · rename_i hh
    obtain ⟨⟨h1, h2, h3, h4, h5⟩, h6⟩ := nodeOk_iff.1 h
    simp only [within, Bool.and_eq_true, decide_eq_true_eq] at hh
    exact nodeOk_iff.2 ⟨⟨h1, ⟨by show 0 ≤ e; omega, hh.2⟩, ⟨h3.1, by show n.voted ≤ e; omega⟩, h4, h5⟩, h6⟩
  · exact h
/-! ### Worlds stay in form -/
structure FineX (w : Wrld) : Prop where
  ep : 0 ≤ w.epoch ∧ w.epoch ≤ 30
  four : w.nodes.length = 4
  ll : w.log.length ≤ 80
  log : votesOk w.log = true
  nodes : ∀ n ∈ w.nodes, nodeOk n = true
theorem FineX.fine {w : Wrld} (h : FineX w) : Fine w := Fine.mk' h.ep h.four h.ll (votesOk_mem h.log) fun n hn => by
  obtain ⟨⟨h1, h2, h3, h4, h5⟩, h6⟩ := nodeOk_iff.1 (h.nodes n hn)
  exact ⟨h2, h1, h4, votesOk_mem h5⟩
theorem sendF_ok {w : Wrld} {v : Vote} (h : FineX w) (hv : voteOk v = true) : FineX (sendF w v) := by
  unfold sendF
  split
  · rename_i hh
    simp only [Bool.and_eq_true, Bool.not_eq_true', decide_eq_false_iff_not, decide_eq_true_eq] at hh
    exact ⟨h.ep, h.four, by simp; omega, votesOk_snoc h.log hv hh.1, h.nodes⟩
  · exact h
theorem setF_ok {w : Wrld} {k : Nat} {n : Nod} (h : FineX w) (hn : nodeOk n = true) : FineX { w with nodes := w.nodes.set k n } :=
  ⟨h.ep, by simp [h.four], h.ll, h.log, fun m hm => by
    rcases List.mem_or_eq_of_mem_set hm with hm | hm
    · exact h.nodes m hm
    · rw [hm]; exact hn⟩
theorem putF_ok {w : Wrld} {k : Nat} {x : Nod × Vote × Bool} (h : FineX w) (h1 : nodeOk x.1 = true) (h2 : x.2.2 = true → voteOk x.2.1 = true) : FineX (putF w k x) := by
  have h3 := setF_ok (k := k) h h1
  unfold putF
  split
  · rename_i hh; exact sendF_ok h3 (h2 hh)
  · exact h3
theorem tickF_ok {w : Wrld} (h : FineX w) : FineX (tickF w) := by
  have := h.ep
  refine ⟨⟨by show 0 ≤ min (w.epoch + 1) 30; omega, by show min (w.epoch + 1) 30 ≤ 30; omega⟩, by simp [tickF, h.four], h.ll, h.log, fun n hn => ?_⟩
  obtain ⟨m, hm, rfl⟩ := List.mem_map.1 hn
  exact enterF_ok (h.nodes m hm)
theorem wproposeF_ok {w : Wrld} {id : Int} {p : Pay} (h : FineX w) : FineX (wproposeF w id p) := by
  unfold wproposeF
  split
  · split
    · rename_i n hn
      have := proposeF_ok p (h.nodes n (List.mem_of_getElem? hn))
      exact putF_ok h this.1 this.2
    · exact h
  · exact h
theorem wbringF_ok {w : Wrld} {a id : Int} (h : FineX w) : FineX (wbringF w a id) := by
  unfold wbringF
  split
  · split
    · rename_i n v hn hv
      have := hearF_ok v (h.nodes n (List.mem_of_getElem? hn))
      exact putF_ok h this.1 this.2
    · exact h
  · exact h
theorem doF_ok {w : Wrld} (e : Evt) (h : FineX w) : FineX (doF w e) := by
  unfold doF
  split
  · exact tickF_ok h
  · split
    · exact wproposeF_ok h
    · split
      · exact wbringF_ok h
      · split
        · split
          · rename_i hh
            simp only [Bool.and_eq_true] at hh
            exact sendF_ok h hh.1
          · exact h
        · exact h
theorem newW_ok (bad : Int) : FineX (newW bad) := ⟨by simp [newW], rfl, by simp [newW], rfl, by
  intro n hn
  simp [newW, newN] at hn
  rcases hn with rfl | rfl | rfl | rfl <;> rfl⟩
end Go.Wt

/- Rows of the reference, taken for rows of the program; results that are written no more. -/
set_option linter.unusedVariables false
set_option linter.unusedSimpArgs false
namespace Go.Wt
open Go
theorem rd_SN {G : Gh} {w : Go.World} {ω : Owner} {n : Nod} {cs : List Value} (h : Enc.rd G w ω (sN n) cs) : Enc.rd G w ω n cs := by
  obtain ⟨c1, c2, rfl, r1, ⟨c3, c4, rfl, r3, ⟨c5, c6, rfl, r5, ⟨a, cap, h1, h2, h3, h4⟩⟩⟩⟩ := h
  exact ⟨c1, _, rfl, r1, c3, _, rfl, r3, c5, _, rfl, r5, ⟨a, cap, h1, h2, h3⟩⟩
theorem arr_n {G : Gh} {w : Go.World} {o : Nat} {ns : List Nod} (h : RelO G w o (.arr (ns.map sN))) : RelO G w o (.arr ns) := by
  obtain ⟨b, cap, cs, e, h1, h2, h3, h4, h5, h6⟩ := h
  refine ⟨b, cap, cs, e, by simpa using h1, h2, by simpa using h3, h4, fun i x hx => ?_, h6⟩
  obtain ⟨c, c1, c2⟩ := h5 i (sN x) (by rw [List.getElem?_map, hx]; rfl)
  exact ⟨c, rd_SN c1, c2⟩
theorem rd_sA {G : Gh} {w : Go.World} {ω : Owner} {x : Wrld} {cs : List Value} (h : Enc.rd G w ω (sW x) cs) : Enc.rd G w ω (wA x) cs := by
  obtain ⟨c1, c2, rfl, r1, ⟨c3, c4, rfl, r3, ⟨c5, c6, rfl, ⟨a, cap, h1, h2, h3, h4⟩, r6⟩⟩⟩ := h
  exact ⟨c1, _, rfl, r1, c3, _, rfl, r3, c5, c6, rfl, ⟨a, cap, h1, h2, h3⟩, r6⟩
theorem frzS_one {w : Wrld} (hB : w.nodes.length ≤ big) : ∀ (G : Gh) (wd : Go.World) (u : Value), RelV G wd (.ret, []) (.v (sW w)) u → (∀ k, RelO G wd k (obs [(1, .arr (w.nodes.map sN))] k)) →
    ∃ G', RelV G' wd (.ret, []) (.v w) u ∧ (∀ o, RelO G' wd o .free) ∧ ∀ S, (∀ o, ¬ S o) → Keep S G wd G' wd := by
  intro G wd u ⟨cs, h1, h2⟩ ho
  obtain ⟨k, k1, k2⟩ := wrl_frz (rd_sA h1) (by have := ho 1; exact arr_n (by simpa [obs, lk0, orr] using this)) hB
  exact ⟨_, ⟨cs, k2 _, h2⟩, frz_free, k1⟩
/-- The objects behind a call may be taken for others. -/
theorem Ct.obs {P : Program} {f : FuncId} {args : List AV} {h h' h'' : Nat → Wt.Obj} {r : AV} (k : Ct P f args h fun r1 h1 => r1 = r ∧ h1 = h') (hx : ∀ G w, (∀ o, RelO G w o (h' o)) → ∀ o, RelO G w o (h'' o)) :
    Ct P f args h fun r1 h1 => r1 = r ∧ h1 = h'' := fun G w vs h1 h2 =>
  (k G w vs h1 h2).mono fun e w' ⟨r1, h1', v, G', e1, ⟨e2, e3⟩, e4, e5, e6⟩ => by
    subst e2 e3
    exact ⟨_, h'', v, G', e1, ⟨rfl, rfl⟩, e4, hx G' w' e5, e6⟩
/-- A result may be taken for another. -/
theorem Ct.res {P : Program} {f : FuncId} {args : List AV} {h h' : Nat → Wt.Obj} {r r' : AV} (k : Ct P f args h fun r1 h1 => r1 = r ∧ h1 = h') (hx : ∀ G w u, RelV G w (.ret, []) r u → RelV G w (.ret, []) r' u) :
    Ct P f args h fun r1 h1 => r1 = r' ∧ h1 = h' := fun G w vs h1 h2 =>
  (k G w vs h1 h2).mono fun e w' ⟨r1, h1', v, G', e1, ⟨e2, e3⟩, e4, e5, e6⟩ => by
    subst e2 e3
    exact ⟨_, _, v, G', e1, ⟨rfl, rfl⟩, hx _ _ _ e4, e5, e6⟩
end Go.Wt

/- From a call's contract to the given row: slices of bytes that come in. -/
set_option linter.unusedVariables false
namespace Go.Wt
open Go Go.ChangeShapes Go.WideShapes Go.RowKit
/-- A slice of bytes that came in. -/
def IsRow (w : World) (a : Option Addr) (len cap : Nat) (zs : List Int) : Prop :=
  (a = none ∧ len = 0 ∧ cap = 0 ∧ zs = []) ∨
  ∃ x, a = some x ∧ len ≤ cap ∧ zs.length = cap ∧ (∀ i, i < zs.length → w.cell? (x.add i) = some (.int .u8 (zs.getD i 0))) ∧ ∀ n ∈ zs, (Lit.int .u8 n).wf = true
def G0 : Gh := ⟨fun _ _ => none, fun _ => none⟩
def codeOf (zs : List Int) (len : Nat) : List UInt8 := (zs.take len).map fun z => UInt8.ofNat z.toNat
theorem codeOf_rd {w : World} {a : Option Addr} {len cap : Nat} {zs : List Int} {ω : Owner} (h : IsRow w a len cap zs) (y : len ≤ 140737488351232) : RelV G0 w ω (.v (codeOf zs len)) (.slice a len cap) := by
  refine ⟨[.slice a len cap], ?_, rfl⟩
  rcases h with ⟨rfl, rfl, rfl, rfl⟩ | ⟨x, rfl, hl, hz, hc, hw⟩
  · exact ⟨none, 0, rfl, Nat.le_refl _, .inl rfl⟩
  · have hlen : (codeOf zs len).length = len := by simp [codeOf]; omega
    refine ⟨some x, cap, by rw [hlen], by rw [hlen]; exact hl, ?_⟩
    by_cases h0 : len = 0
    · left; exact List.eq_nil_of_length_eq_zero (by omega)
    · right
      obtain ⟨b, off, spot⟩ := x
      have h1 := hc 0 (by omega)
      have hsp : spot = none := by
        cases spot with
        | none => rfl
        | some s =>
          exfalso
          simp only [Addr.add, if_true, World.cell?] at h1
          split at h1 <;> simp at h1
      subst hsp
      refine ⟨b, off, rfl, by rw [hlen]; show len ≤ 4611686018427387904; omega, fun i u hu => ?_⟩
      have hi : i < len := by have := getElem?_lt hu; omega
      have hiz : i < zs.length := by omega
      have hu' : u = UInt8.ofNat (zs.getD i 0).toNat := by
        unfold codeOf at hu
        rw [List.getElem?_map, List.getElem?_take, if_pos hi, List.getElem?_eq_getElem hiz] at hu
        simp at hu
        rw [← hu, List.getD_eq_getElem?_getD, List.getElem?_eq_getElem hiz]; rfl
      have hwf := hw (zs.getD i 0) (by
        rw [List.getD_eq_getElem?_getD, List.getElem?_eq_getElem hiz]; exact List.getElem_mem hiz)
      have hn : ((u.toNat : Nat) : Int) = zs.getD i 0 := by
        have hb : 0 ≤ zs.getD i 0 ∧ zs.getD i 0 < 256 := by
          have hh : 0 ≤ zs.getD i 0 ∧ zs.getD i 0 ≤ 255 := by simpa [Lit.wf, IntKind.min, IntKind.max, IntKind.signed, IntKind.bits] using hwf
          omega
        rw [hu']
        have : (UInt8.ofNat (zs.getD i 0).toNat).toNat = (zs.getD i 0).toNat := by
          rw [UInt8.toNat_ofNat']; omega
        rw [this]; omega
      refine ⟨[.int .u8 u.toNat], rfl, fun j v hj => ?_⟩
      have hj0 : j = 0 := by
        have := getElem?_lt hj
        simp at this; exact this
      subst hj0
      simp at hj
      subst hj
      refine ⟨rfl, ?_⟩
      have h2 := hc i hiz
      have e : (⟨b, off, none⟩ : Addr).add i = ⟨b, off + i, none⟩ := add_lit b off i
      rw [e] at h2
      show cl w b (off + i * 1 + 0) = _
      rw [Nat.mul_one, Nat.add_zero]
      show w.cell? ⟨b, off + i, none⟩ = _
      rw [h2, hn]
theorem keep_below {S : Nat → Prop} {w w' : World} {G' : Gh} (h : Keep S G0 w G' w') : Below w.heap.size w w' :=
  ⟨h.os, h.tape, h.output, h.size, fun k hk => h.block k hk fun _ _ _ => .inl rfl⟩
theorem row_bool {P : Program} {f : FuncId} {args : List AV} {vs : List Value} {w : World} (h : CtP P f args (.v true)) (hr : RelAs G0 w 0 args vs) :
    Calls P f vs.toArray w fun e w' => e = .returned (.bool true) ∧ Below w.heap.size w w' :=
  (h G0 w vs hr fun o => rfl).mono fun e w' ⟨r, h', v, G', e1, ⟨e2, e3⟩, e4, e5, e6⟩ => by
    subst e2
    exact ⟨by rw [e1, RelV.bool e4], keep_below e6⟩
theorem row1 {P : Program} {f : FuncId} (h : ∀ code : List UInt8, CtP P f [.v code] (.v true)) {a : Option Addr} {len cap : Nat} {zs : List Int} (w : World) (hr : IsRow w a len cap zs) (y : len ≤ 140737488351232) :
    Calls P f #[.slice a len cap] w fun e w' => e = .returned (.bool true) ∧ Below w.heap.size w w' :=
  row_bool (vs := [_]) (h (codeOf zs len)) ⟨_, _, rfl, codeOf_rd hr y, rfl⟩
theorem row2 {P : Program} {f : FuncId} (h : ∀ code more : List UInt8, CtP P f [.v code, .v more] (.v true)) {a a2 : Option Addr} {len cap len2 cap2 : Nat} {zs zs2 : List Int} (w : World) (hr : IsRow w a len cap zs) (y : len ≤ 140737488351232)
    (hr2 : IsRow w a2 len2 cap2 zs2) (y2 : len2 ≤ 140737488351232) : Calls P f #[.slice a len cap, .slice a2 len2 cap2] w fun e w' => e = .returned (.bool true) ∧ Below w.heap.size w w' :=
  row_bool (vs := [_, _]) (h (codeOf zs len) (codeOf zs2 len2)) ⟨_, _, rfl, codeOf_rd hr y, _, _, rfl, codeOf_rd hr2 y2, rfl⟩
theorem rowIS {P : Program} {f : FuncId} (h : ∀ (n : Int) (l : List UInt8), CtP P f [.v n, .v (ByteArray.mk l.toArray)] (.v true)) (w : World) (n : Int) (s : ByteArray) :
    Calls P f #[.int .i64 n, .string s] w fun e w' => e = .returned (.bool true) ∧ Below w.heap.size w w' :=
  row_bool (vs := [_, _]) (h n s.data.toList) ⟨_, _, rfl, ⟨[.int .i64 n], rfl, rfl⟩, _, _, rfl, ⟨[.string s], (by show [Value.string s] = [Value.string ⟨s.data.toList.toArray⟩]; rw [Array.toArray_toList]), rfl⟩, rfl⟩
/-- What came in is read. -/
theorem rowOf {H : Type} {enc : TypeId × Value → H} {P : Program} {W : World} {base : Nat} {spare : Nat → Bool} {held : Bool} {t e : TypeId} {a : Option Addr} {len cap : Nat} {d : DataW H} {ps : List MemPlace} (hsp : ∀ b, spare b = true)
    (hu : P.underlying t = some (.slice e)) (he : P.underlying e = some (.int .u8)) (hc : P.cellsOf e = 1) (h : DataW.Trod enc P W base spare held t (.slice a len cap) d ps) : ∃ zs, IsRow W a len cap zs := by
  obtain ⟨fuel, hf⟩ := h
  rcases open_ints hu he hc hf with ⟨hcs, _⟩ | ⟨x, l, c, zs, hcs, _, hl, hm, hz, _, hcell, hwz⟩
  · simp [Value.cells] at hcs
    obtain ⟨rfl, rfl, rfl⟩ := hcs
    exact ⟨[], .inl ⟨rfl, rfl, rfl, rfl⟩⟩
  · simp [Value.cells] at hcs
    obtain ⟨rfl, rfl, rfl⟩ := hcs
    rw [if_pos (hsp _)] at hz
    exact ⟨zs, .inr ⟨_, rfl, hl, hz, hcell, hwz⟩⟩
theorem lenOf {H : Type} {enc : TypeId × Value → H} {P : Program} {W : World} {base : Nat} {spare : Nat → Bool} {held : Bool} {t e : TypeId} {a : Option Addr} {len cap : Nat} {d : DataW H} {ps : List MemPlace} {ts : List TypeId} {ds : List (DataW H)} {j : Nat}
    (hsz : (DataW.weightsEach P ts ds).all (· ≤ reachBytes) = true) (ht : ts[j]? = some t) (hd : ds[j]? = some d) (hu : P.underlying t = some (.slice e)) (he : P.underlying e = some (.int .u8)) (hc : P.cellsOf e = 1) (hB : P.bytesOf e = 1)
    (h : DataW.Trod enc P W base spare held t (.slice a len cap) d ps) : len ≤ 140737488351232 := by
  obtain ⟨fuel, hf⟩ := h
  rcases open_ints hu he hc hf with ⟨hcs, _⟩ | ⟨x, l, c, zs, hcs, _, hl, _, hz, hx, _, _⟩
  · simp [Value.cells] at hcs
    omega
  · simp [Value.cells] at hcs
    obtain ⟨rfl, rfl, rfl⟩ := hcs
    obtain ⟨hx, _⟩ := Prod.mk.inj hx
    subst hx
    have z := sized_slice hsz ht hd hu
    rw [hB] at z
    have hl2 : len ≤ zs.length := by
      rw [hz]
      split
      · exact hl
      · exact Nat.le_refl _
    simp only [lits, List.length_map, List.length_take, List.length_drop] at z
    have hr : reachBytes = 140737488351232 := rfl
    omega
end Go.Wt

/- What stays so in a world, whatever one does. -/
set_option linter.unusedVariables false
set_option linter.unusedSimpArgs false
namespace Go.Wt
/-- What stays so of a node, at place `k`. -/
structure NInv (ep bad : Int) (log : List Vote) (k : Nat) (n : Nod) : Prop where
  id : n.id = (k : Int) + 1
  ep : n.epoch = ep
  idle : n.id = bad → n.seen = []
  sub : n.id ≠ bad → ∀ v ∈ n.seen, v ∈ log
  own : n.id ≠ bad → ∀ v ∈ log, v.by_ = n.id → v ∈ n.seen
  one : ∀ u ∈ n.seen, ∀ v ∈ n.seen, u.by_ = n.id → v.by_ = n.id → lastEp u.chain = lastEp v.chain → u = v
  long : ∀ u ∈ n.seen, ∀ v ∈ n.seen, u.by_ = n.id → v.by_ = n.id → lastEp u.chain < lastEp v.chain → u.chain.length ≤ v.chain.length
  tip : ∀ v ∈ n.seen, v.by_ = n.id → v.chain.length ≤ (tipOf n.seen).length + 1
  behind : ∀ v ∈ n.seen, v.by_ = n.id → sure n.seen (v.chain.take (v.chain.length - 1)) = true
  lead : ∀ v ∈ n.seen, v.by_ = n.id → Vote.mk (leader (lastEp v.chain)) v.chain ∈ n.seen
structure Inv (w : Wrld) : Prop where
  ok : FineX w
  bad : within w.bad 0 4 = true
  nodes : ∀ (k : Nat) (n : Nod), w.nodes[k]? = some n → NInv w.epoch w.bad w.log k n
  ord : ∀ (i : Nat) (v : Vote), w.log[i]? = some v → v.by_ ≠ w.bad → Vote.mk (leader (lastEp v.chain)) v.chain ∈ w.log.take (i + 1)

/-- What it takes to vote for a chain. -/
structure May (n : Nod) (c : List Itm) : Prop where
  may : mayN n = true
  last : lastEp c = n.epoch
  len : c.length = (tipOf n.seen).length + 1
  sure : sure n.seen (c.take (c.length - 1)) = true
  ok : chainOk c = true
  lead : Vote.mk (leader n.epoch) c ∈ n.seen ++ [Vote.mk n.id c]
end Go.Wt

/- Finals of a world fit each other. -/
set_option linter.unusedVariables false
set_option linter.unusedSimpArgs false
namespace Go.Wt
def chIn (a b : List Itm) : Bool := chainOk a && chainOk b && inS a b
def fitsB (a b : List Itm) : Bool := chIn a b || chIn b a
theorem nodeOk_seen {n : Nod} (h : nodeOk n = true) : votesOk n.seen = true ∧ n.seen.length ≤ 80 := by
  have := nodeOk_iff.1 h
  exact ⟨this.1.2.2.2.2, this.1.2.2.2.1⟩
end Go.Wt

/- Plays with fewer events; what grows. -/
set_option linter.unusedVariables false
set_option linter.unusedSimpArgs false
namespace Go.Wt
/-! Forged votes and ticks alone -/
structure Al (w : Wrld) : Prop where
  seen : ∀ n ∈ w.nodes, n.seen = []
  log : ∀ v ∈ w.log, v.by_ = w.bad
/-! Nothing is brought -/
def Uh (w : Wrld) : Prop := ∀ n ∈ w.nodes, ∀ v ∈ n.seen, v.by_ = n.id ∧ v.chain.length = 1
/-! Nothing is forged -/
def Si (w : Wrld) : Prop := ∀ v ∈ w.log, v.by_ ≠ w.bad
/-! What was seen stays seen -/
structure Grw (w w' : Wrld) : Prop where
  log : ∀ v ∈ w.log, v ∈ w'.log
  seen : ∀ (i : Nat) (n : Nod), w.nodes[i]? = some n → ∃ n', w'.nodes[i]? = some n' ∧ ∀ v ∈ n.seen, v ∈ n'.seen
end Go.Wt

/- Worlds in form. -/
set_option linter.unusedVariables false
set_option linter.unusedSimpArgs false
namespace Go.Wt
def shownB (w : Wrld) (v : Vote) : Bool := decide (v.by_ = w.bad) || decide (v ∈ w.log)
def nodeIn (w : Wrld) (i : Nat) (n : Nod) : Bool := nodeOk n && decide (n.id = (i : Int) + 1) && decide (n.epoch = w.epoch) && !(n.seen.any fun v => !shownB w v)
def nodesOkFrom (w : Wrld) : List Nod → Nat → Bool
  | [], _ => true
  | n :: r, i => nodeIn w i n && nodesOkFrom w r (i + 1)
def worldOk0 (w : Wrld) : Bool := within w.epoch 0 30 && within w.bad 0 4 && decide (w.nodes.length = 4) && decide (w.log.length ≤ 80) && votesOk w.log
def worldOk (w : Wrld) : Bool := worldOk0 w && nodesOkFrom w w.nodes 0
theorem nodesOk_drop {w : Wrld} {l : List Nod} {k : Nat} {x : Nod} (h : l[k]? = some x) : nodesOkFrom w (l.drop k) k = (nodeIn w k x && nodesOkFrom w (l.drop (k + 1)) (k + 1)) := by
  rw [drop_at h]; rfl
theorem nodesOk_iff (w : Wrld) : ∀ (l : List Nod) (j : Nat), nodesOkFrom w l j = true ↔ ∀ (i : Nat) (n : Nod), l[i]? = some n → nodeIn w (j + i) n = true
  | [], j => by simp [nodesOkFrom]
  | x :: r, j => by
    simp only [nodesOkFrom, Bool.and_eq_true, nodesOk_iff w r (j + 1)]
    constructor
    · rintro ⟨h1, h2⟩ i n hi
      cases i with
      | zero => simp at hi; subst hi; exact h1
      | succ i =>
        have := h2 i n (by simpa using hi)
        rwa [show j + 1 + i = j + (i + 1) by omega] at this
    · intro h
      refine ⟨h 0 x rfl, fun i n hi => ?_⟩
      have := h (i + 1) n (by simpa using hi)
      rwa [show j + 1 + i = j + (i + 1) by omega]
structure WOk (w : Wrld) : Prop where
  fx : FineX w
  bad : within w.bad 0 4 = true
  node : ∀ (i : Nat) (n : Nod), w.nodes[i]? = some n → n.id = (i : Int) + 1 ∧ n.epoch = w.epoch ∧ ∀ v ∈ n.seen, v.by_ = w.bad ∨ v ∈ w.log
theorem worldOk_iff {w : Wrld} : worldOk w = true ↔ WOk w := by
  unfold worldOk worldOk0
  simp only [Bool.and_eq_true, nodesOk_iff, Nat.zero_add, decide_eq_true_eq]
  have hin : ∀ i n, nodeIn w i n = true ↔ nodeOk n = true ∧ n.id = (i : Int) + 1 ∧ n.epoch = w.epoch ∧ ∀ v ∈ n.seen, v.by_ = w.bad ∨ v ∈ w.log := fun i n => by
    unfold nodeIn shownB
    simp only [Bool.and_eq_true, decide_eq_true_eq, Bool.not_eq_true', List.any_eq_false, Bool.or_eq_false_iff, decide_eq_false_iff_not, and_assoc, Bool.not_eq_false', Bool.or_eq_true, Bool.not_eq_true]
    constructor
    · rintro ⟨a, b, c, d⟩
      exact ⟨a, b, c, fun v hv => by have := d v hv; by_cases hb : v.by_ = w.bad <;> simp_all⟩
    · rintro ⟨a, b, c, d⟩
      exact ⟨a, b, c, fun v hv => by have := d v hv; by_cases hb : v.by_ = w.bad <;> simp_all⟩
  constructor
  · rintro ⟨⟨⟨⟨⟨h1, h2⟩, h3⟩, h4⟩, h5⟩, h6⟩
    refine ⟨⟨by simpa [within] using h1, h3, h4, h5, fun n hn => ?_⟩, h2, fun i n hn => ((hin i n).1 (h6 i n hn)).2⟩
    obtain ⟨i, hi⟩ := List.mem_iff_getElem?.1 hn
    exact ((hin i n).1 (h6 i n hi)).1
  · rintro ⟨h1, h2, h3⟩
    refine ⟨⟨⟨⟨⟨by have := h1.ep; simpa [within] using this, h2⟩, h1.four⟩, h1.ll⟩, h1.log⟩, fun i n hn => (hin i n).2 ⟨h1.nodes n (List.mem_of_getElem? hn), h3 i n hn⟩⟩
end Go.Wt

/- Quiet epochs: all votes are brought to all. -/
set_option linter.unusedVariables false
set_option linter.unusedSimpArgs false
namespace Go.Wt
def b4 (w : Wrld) (a : Int) : Wrld := wbringF (wbringF (wbringF (wbringF w a 1) a 2) a 3) a 4
def sprF : Nat → Nat → Wrld → Wrld
  | 0, _, w => w
  | n + 1, a, w => if a < w.log.length then sprF n (a + 1) (b4 w a) else w
def spreadF (w : Wrld) : Wrld := sprF 100 0 w
def calmF (w : Wrld) (p : Pay) : Wrld := spreadF (wproposeF (spreadF (tickF w)) (leader (spreadF (tickF w)).epoch) p)
def worldCalmR (w : Wrld) (pays : List Pay) : Wrld := if worldOk w && decide (pays.length ≤ 30) then pays.foldl calmF w else .zero
theorem sprF_stop {n a : Nat} {w : Wrld} (h : ¬ a < w.log.length) : sprF n a w = w := by
  cases n with
  | zero => rfl
  | succ n => simp only [sprF]; rw [if_neg h]
theorem sprF_go {n a : Nat} {w : Wrld} (h : a < w.log.length) : sprF (n + 1) a w = sprF n (a + 1) (b4 w a) := by simp only [sprF]; rw [if_pos h]
def brN (w : Wrld) (a : Int) : Nat → Wrld
  | 0 => w
  | k + 1 => wbringF (brN w a k) a ((k : Int) + 1)
/-! ### Lists without one twice -/
/-! ### What one event sends -/
/-- At most one vote is sent, by one that does not lie, of this epoch. -/
def Sent (w w' : Wrld) : Prop := w'.epoch = w.epoch ∧ w'.bad = w.bad ∧ (w'.log = w.log ∨ ∃ v, w'.log = w.log ++ [v] ∧ v.by_ ≠ w.bad ∧ lastEp v.chain = w.epoch)
theorem putF_eb (w : Wrld) (k : Nat) (x : Nod × Vote × Bool) : (putF w k x).epoch = w.epoch ∧ (putF w k x).bad = w.bad := by
  unfold putF sendF
  split
  · split <;> exact ⟨rfl, rfl⟩
  · exact ⟨rfl, rfl⟩
/-- An epoch that began with these votes sent. -/
structure Ep (L0 : List Vote) (e bad : Int) (w : Wrld) : Prop where
  inv : Inv w
  ep : w.epoch = e
  bd : w.bad = bad
  new : ∃ N, w.log = L0 ++ N ∧ ∀ v ∈ N, v.by_ ≠ bad ∧ lastEp v.chain = e
/-- All that do not lie have seen what was sent first. -/
def Had (a : Nat) (w : Wrld) : Prop := ∀ (j : Nat) (v : Vote), j < a → w.log[j]? = some v → ∀ (k : Nat) (n : Nod), w.nodes[k]? = some n → (k : Int) + 1 ≠ w.bad → v ∈ n.seen
def LogPre (w w' : Wrld) : Prop := ∃ N, w'.log = w.log ++ N
end Go.Wt
namespace Go.Wt
/-! ### What comes late -/
def lateF (w : Wrld) (id : Int) : Nat → Wrld
  | 0 => w
  | k + 1 => doF (lateF w id k) ⟨3, (k : Int), id, .zero, .zero⟩
end Go.Wt
namespace Go.Wt
/-! ### Room for so many epochs -/
def roomB (w : Wrld) (k : Nat) : Bool := decide (w.epoch + (k : Int) ≤ 30) && decide ((w.log.length : Int) + 4 * (k : Int) < 80) && w.log.all fun v => decide ((v.chain.length : Int) + (k : Int) ≤ 16)
structure Small (w : Wrld) : Prop where
  e1 : -1000000 ≤ w.epoch ∧ w.epoch ≤ 1000000
  e2 : w.log.length ≤ 1000000
  e3 : ∀ v ∈ w.log, v.chain.length ≤ 1000000
end Go.Wt

/- In three quiet epochs of leaders that do not lie more becomes final. -/
set_option linter.unusedVariables false
set_option linter.unusedSimpArgs false
namespace Go.Wt
/-! ### What is voted for in an epoch whose leader does not lie -/
/-! ### Who has voted -/
/-- Who says it has voted in this epoch has sent a vote of this epoch. -/
def Vd (w : Wrld) : Prop := ∀ (k : Nat) (n : Nod), w.nodes[k]? = some n → (k : Int) + 1 ≠ w.bad → n.voted = w.epoch → ∃ v ∈ w.log, v.by_ = (k : Int) + 1 ∧ lastEp v.chain = w.epoch
end Go.Wt

/- An epoch of a leader that does not lie makes one chain longest. -/
set_option linter.unusedVariables false
set_option linter.unusedSimpArgs false
namespace Go.Wt
structure Top (w : Wrld) (c : List Itm) : Prop where
  sure : sure w.log c = true
  top : ∀ d, Wt.sure w.log d = true → d = c ∨ d.length < c.length
/-- Room for so many epochs. -/
structure RoomP (k : Nat) (w : Wrld) : Prop where
  ep : w.epoch + k ≤ 30
  log : w.log.length + 4 * k < 80
  len : ∀ v ∈ w.log, v.chain.length + k ≤ 16
/-! ### What the leader's proposal does -/
/-- This node has voted for it, or has seen nothing else than what there was. -/
def Un (L0 : List Vote) (c : List Itm) (w : Wrld) (k : Nat) : Prop := Vote.mk ((k : Int) + 1) c ∈ w.log ∨ ∃ n, w.nodes[k]? = some n ∧ ∀ v, v ∈ n.seen ↔ v ∈ L0
structure Pr (L0 : List Vote) (e bad : Int) (t : List Itm) (p : Pay) (w : Wrld) : Prop where
  ep : Ep L0 e bad w
  vd : Vd w
  lead : leader e ≠ bad
  e1 : 1 ≤ e
  room : L0.length + 4 < 80
  old : ∀ v ∈ L0, v.by_ ≠ bad → lastEp v.chain < e
  has : w.log[L0.length]? = some ⟨leader e, t ++ [⟨e, p⟩]⟩
  ts : sure L0 t = true
  tm : ∀ d, sure L0 d = true → d.length ≤ t.length
end Go.Wt

/- Eight quiet epochs: more becomes final, by all. -/
set_option linter.unusedVariables false
set_option linter.unusedSimpArgs false
namespace Go.Wt
section
variable {L0 : List Vote} {e bad : Int} {t : List Itm} {p : Pay}
/-- All that do not lie, but the leader. -/
def UnAll (L0 : List Vote) (c : List Itm) (e bad : Int) (w : Wrld) : Prop := ∀ k : Nat, k < 4 → (k : Int) + 1 ≠ bad → (k : Int) + 1 ≠ leader e → Un L0 c w k
end
/-! ### Eight of them -/
/-- What n quiet epochs do. -/
structure After (k : Nat) (w x : Wrld) : Prop where
  inv : Inv x
  ep : x.epoch = w.epoch + k
  bd : x.bad = w.bad
  sub : ∀ v ∈ w.log, v ∈ x.log
end Go.Wt
namespace Go.Wt
end Go.Wt
namespace Go.Wt
abbrev calmP : Pay := ⟨1, 2, 1⟩
/-- The first that does not lie. -/
def firstI (b : Int) : Int := if b = 1 then 1 else 0
/-- Whether a payment of a later epoch is among the first. -/
def foundF (e : Int) (p : Pay) (f : List Itm) (k : Nat) : Bool := (f.take k).any fun i => decide (e < i.epoch) && decide (i.pay = p)
end Go.Wt

/- Certificates. -/
set_option linter.unusedVariables false
set_option linter.unusedSimpArgs false
namespace Go.Wt
/-- The chain of one of the lists. -/
def preC (c : List Itm) (k : Nat) : List Itm := c.take (c.length - 2 + k)
def votersOkFrom (p : Int) : List Int → Bool
  | [] => true
  | x :: r => within x 1 4 && decide (p < x) && votersOkFrom x r
def votersOk (l : List Int) : Bool := votersOkFrom 0 l && decide (3 ≤ l.length)
def certOk (c : Cert) : Bool := chainOk c.chain && decide (3 ≤ c.chain.length) && decide (finLen c.chain = (c.chain.length : Int) - 1) && decide (c.by_.length = 3) && c.by_.all votersOk
def certFinal (c : Cert) : List Itm := if certOk c then c.chain.take (c.chain.length - 1) else []
def votesAt (c : List Itm) : Nat → List (List Int) → List Vote
  | _, [] => []
  | k, l :: r => l.map (fun n => Vote.mk n (preC c k)) ++ votesAt c (k + 1) r
def certVotes (c : Cert) : List Vote := if certOk c then votesAt c.chain 0 c.by_ else []
def certC (l : List Vote) (c : List Itm) (n : Nat) : Cert := ⟨c.take (n + 1), [voters l (c.take (n - 1)), voters l (c.take n), voters l (c.take (n + 1))]⟩
def certOf (l : List Vote) : Cert × Bool := if votesOk l && decide (finLen (shownOf l) ≠ 0) then (certC l (shownOf l) (finLen (shownOf l)).toNat, true) else (.zero, false)
def worldShown (w : Wrld) (c : Cert) : Bool := worldOk w && certOk c && (certVotes c).all (shownB w)
end Go.Wt

/- The form of certificates while they are built. -/
set_option linter.unusedVariables false
set_option linter.unusedSimpArgs false
namespace Go.Wt
open Go
/-- A certificate whose lists have room of their own. -/
structure CertS where
  chain : List Itm
  by_ : OList (List Int)
instance : Enc CertS := isoEnc (fun p => (p.chain, p.by_)) (fun q => ⟨q.1, q.2⟩) (fun _ => rfl) true (fun h => by cases h)
def CertS.zero : CertS := ⟨[], ⟨[], true⟩⟩
instance : ZCells CertS .zero := ⟨ZCells.cs (List Itm × OList (List Int)), fun G w ω => ZCells.rd (α := List Itm × OList (List Int)) G w ω⟩
/-- One behind the other, from the place `k` on. -/
theorem votersOk_at {l : List Int} {k : Nat} {x p : Int} (hx : l[k]? = some x) : votersOkFrom p (l.drop k) = (within x 1 4 && decide (p < x) && votersOkFrom x (l.drop (k + 1))) := by
  rw [drop_at hx]; rfl
theorem votesAt_step {c : List Itm} {b : List (List Int)} {k : Nat} {l : List Int} (h : b[k]? = some l) : votesAt c 0 (b.take (k + 1)) = votesAt c 0 (b.take k) ++ l.map (fun n => Vote.mk n (preC c k)) := by
  have key : ∀ (b : List (List Int)) (j k : Nat), b[k]? = some l → votesAt c j (b.take (k + 1)) = votesAt c j (b.take k) ++ l.map (fun n => Vote.mk n (preC c (j + k))) := fun b => by
    induction b with
    | nil => intro j k h; simp at h
    | cons x r ih =>
      intro j k h
      cases k with
      | zero => simp at h; subst h; simp [votesAt]
      | succ k =>
        simp only [List.getElem?_cons_succ] at h
        have := ih (j + 1) k h
        simp only [List.take_succ_cons, votesAt, this, List.append_assoc]
        rw [show j + 1 + k = j + (k + 1) by omega]
  have := key b 0 k h
  simpa using this
theorem votesAt_len (c : List Itm) : ∀ (b : List (List Int)) (j : Nat), (∀ l ∈ b, l.length ≤ 4) → (votesAt c j b).length ≤ 4 * b.length
  | [], _, _ => by simp [votesAt]
  | l :: r, j, h => by
    have h1 := h l (by simp)
    have h2 := votesAt_len c r (j + 1) fun x hx => h x (by simp [hx])
    simp only [votesAt, List.length_append, List.length_map, List.length_cons]
    omega
theorem votersOk_len {l : List Int} (h : votersOk l = true) : l.length ≤ 4 := by
  have key : ∀ (l : List Int) (p : Int), votersOkFrom p l = true → 0 ≤ p → (l.length : Int) + p ≤ 4 ∨ l = [] := fun l => by
    induction l with
    | nil => intro p _ _; exact .inr rfl
    | cons x r ih =>
      intro p h h0
      simp only [votersOkFrom, Bool.and_eq_true, decide_eq_true_eq, within] at h
      rcases ih x h.2 (by omega) with h1 | h1
      · left; simp only [List.length_cons]; omega
      · left; subst h1; simp; omega
  simp only [votersOk, Bool.and_eq_true] at h
  rcases key l 0 h.1 (by omega) with h1 | h1
  · omega
  · subst h1; simp
end Go.Wt

/- Rows that are objects: another number; written no more. -/
set_option linter.unusedVariables false
set_option linter.unusedSimpArgs false
namespace Go.Wt
open Go
variable {P : Program} {S : Nat → Prop}
theorem lk0_mem {β : Type 1} {t : Nat} {x : β} : ∀ {l : List (Nat × β)}, lk0 l t = some x → (t, x) ∈ l
  | [], h => by simp [lk0] at h
  | (k, y) :: r, h => by
    simp only [lk0] at h
    by_cases e : t = k
    · rw [if_pos e] at h; injection h with h; subst h; subst e; simp
    · rw [if_neg e] at h; exact List.mem_cons_of_mem _ (lk0_mem h)
theorem lk0_hit {β : Type 1} {t : Nat} {x : β} {l : List (Nat × β)} : lk0 ((t, x) :: l) t = some x := by simp [lk0]
theorem lk0_miss {β : Type 1} {t k : Nat} {x : β} {l : List (Nat × β)} (h : t ≠ k) : lk0 ((k, x) :: l) t = lk0 l t := by simp [lk0, h]
theorem Le.trans {a b c : St} (h : Le S a b) (k : Le S b c) : Le S a c := fun G w x hr => by
  obtain ⟨G1, h1, h2⟩ := h G w x hr
  obtain ⟨G2, k1, k2⟩ := k G1 w x h1
  exact ⟨G2, k1, h2.trans k2⟩
/-- What the objects of a list name. -/
def ObL (p : Nat → Bool) : List (Nat × Obj) → Prop
  | [] => True
  | (_, x) :: r => obOk p x ∧ ObL p r
theorem ObL.get {p : Nat → Bool} : ∀ {l : List (Nat × Obj)}, ObL p l → ∀ k x, lk0 l k = some x → obOk p x
  | [], _, k, x, h => by simp [lk0] at h
  | (j, y) :: r, h, k, x, hk => by
    simp only [lk0] at hk
    by_cases e : k = j
    · rw [if_pos e] at hk; injection hk with hk; subst hk; exact h.1
    · rw [if_neg e] at hk; exact ObL.get h.2 k x hk
theorem obl0 {p : Nat → Bool} : ObL p [] := trivial
theorem oblk {p : Nat → Bool} {k : Nat} {x : Obj} {r : List (Nat × Obj)} (h : obOk p x) (hr : ObL p r) : ObL p ((k, x) :: r) := ⟨h, hr⟩
theorem RelO.presP {G w G' w' o x} {p : Nat → Bool} (hs : Sh G w G' w') (hm : ∀ q, p q = true → ∀ v, G.hdr q = some v → G'.hdr q = some v) (hr : obOk p x) (hp : PresO G w G' w' o) (h : RelO G w o x) : RelO G' w' o x := by
  cases x with
  | free => exact hp.hdr.trans h
  | dead => trivial
  | cell x =>
    obtain ⟨b, cs, e, h1, h2, h3, h4⟩ := h
    obtain ⟨k1, k2⟩ := hp.block b (by rw [h1]; rfl) (lt_of_heap h2)
    exact ⟨b, cs, e, hp.hdr.trans h1, k1.trans h2, Enc.mono hs hp.ow (fun q hq => hm q (hr q hq)) h3, fun i hi => k2 i (h4 i hi)⟩
  | arr xs =>
    obtain ⟨b, cap, cs, e, h1, h2, h3, h4, h5, h6⟩ := h
    obtain ⟨k1, k2⟩ := hp.block b (by rw [h1]; rfl) (lt_of_heap h2)
    refine ⟨b, cap, cs, e, hp.hdr.trans h1, k1.trans h2, h3, h4, fun i x hx => ?_, fun i hi => k2 i (h6 i hi)⟩
    obtain ⟨c, c1, c2⟩ := h5 i x hx
    exact ⟨c, Enc.mono hs (hp.ow.sub [i] fun _ h => h) (fun q hq => hm q (hr x (List.mem_of_getElem? hx) q hq)) c1, c2⟩
def Gh.ren (G : Gh) (o o' : Nat) : Gh := ⟨fun b i => (G.own b i).map (rlO o o'), fun k => if k = o' then G.hdr o else if k = o then none else G.hdr k⟩
theorem keys_none {l : List (Nat × Obj)} {k : Nat} (h : keys l k = false) : lk0 l k = none := by
  unfold keys at h
  cases hk : lk0 l k with
  | none => rfl
  | some x => rw [hk] at h; cases h
/-- A row's number is changed. -/
theorem Le.ren {n t o o' : Nat} {α : Type} [Enc α] {xs : List α} {tl : List (Nat × AV)} {ol : List (Nat × Obj)} (hne : Nat.beq o o' = false) (hS : ∀ k, S k → keys ol k = true)
    (h1 : (tl.all fun x => x.2.refs.all fun q => q != o && q != o') = true) (h2 : keys ol o = false) (h2' : keys ol o' = false) (h3 : ObL (fun k => k != o && k != o') ol) (hx : ∀ x ∈ xs, Enc.refs x = []) :
    Le S (mkSt n ((t, .v (NRef.ref o)) :: tl) ((o, .arr xs) :: ol)) (mkSt n ((t, .v (NRef.ref o')) :: tl) ((o', .arr xs) :: ol)) := fun G w a hr => by
  have hne' : o ≠ o' := fun e => by rw [e] at hne; simp at hne
  have hsh : Sh G w (G.ren o o') w := fun b i v e1 e2 => ⟨by simp [Gh.ren, e1], e2⟩
  have how : ∀ ω : Owner, ω.1 ≠ .blk o → ω.1 ≠ .obj o → Ow G w ω (G.ren o o') w ω never := fun ω e1 e2 b i π v _ k1 k2 => by
    refine ⟨?_, k2, id⟩
    obtain ⟨p, ρ⟩ := ω
    cases p <;> simp_all [Gh.ren, rlO]
  have hobj : ∀ ρ, Ow G w (.obj o, ρ) (G.ren o o') w (.obj o', ρ) never := fun ρ b i π v _ k1 k2 => ⟨by simp [Gh.ren, rlO, k1], k2, id⟩
  have hhm : ∀ q, (q != o && q != o') = true → ∀ v, G.hdr q = some v → (G.ren o o').hdr q = some v := fun q hq v hv => by
    simp at hq
    simp [Gh.ren, hq.1, hq.2, hv]
  refine ⟨G.ren o o', ⟨hr.defers, hr.size, fun q => ?_, fun k => ?_⟩, ⟨rfl, rfl, rfl, Nat.le_refl _, fun b i v h hc => ⟨by rcases h with h | ⟨π, h⟩ <;> simp [Gh.ren, rlO, h], hc, rfl⟩, fun _ _ _ => rfl, fun k v hk hv => ?_⟩⟩
  · have hq := hr.tmps q
    show RelT _ _ _ (lk0 ((t, .v (NRef.ref o')) :: tl) q) _
    have hq' : RelT G w (.tmp q, []) (lk0 ((t, .v (NRef.ref o)) :: tl) q) (a.tmps.getD q undef) := hq
    by_cases e : q = t
    · subst e
      rw [lk0_hit] at hq' ⊢
      obtain ⟨cs, ⟨ad, m, c, g1, g2⟩, g3⟩ := hq'
      exact ⟨cs, ⟨ad, m, c, g1, by simp [Gh.ren]; exact g2⟩, g3⟩
    · rw [lk0_miss e] at hq' ⊢
      cases hl : lk0 tl q with
      | none => trivial
      | some av =>
        rw [hl] at hq'
        have hm := lk0_mem hl
        rw [List.all_eq_true] at h1
        have hav := h1 _ hm
        rw [List.all_eq_true] at hav
        exact RelV.mono hsh (how _ (by simp) (by simp)) (fun r hr' => hhm r (hav r hr')) hq'
  · have hk := hr.objs k
    show RelO _ _ k (orr (lk0 ((o', .arr xs) :: ol) k) .free)
    have hk' : RelO G w k (orr (lk0 ((o, .arr xs) :: ol) k) .free) := hk
    by_cases e : k = o'
    · subst e
      rw [lk0_hit]
      have ho := hr.objs o
      have ho' : RelO G w o (orr (lk0 ((o, .arr xs) :: ol) o) .free) := ho
      rw [lk0_hit] at ho'
      obtain ⟨b, cap, cs, te, m1, m2, m3, m4, m5, m6⟩ := ho'
      refine ⟨b, cap, cs, te, by simp [Gh.ren, m1], m2, m3, m4, fun i x hi => ?_, fun i hi => by simp [Gh.ren, rlO, m6 i hi]⟩
      obtain ⟨c, c1, c2⟩ := m5 i x hi
      exact ⟨c, Enc.mono hsh (hobj [i]) (by rw [hx x (List.mem_of_getElem? hi)]; intro q hq; cases hq) c1, c2⟩
    · rw [lk0_miss e]
      by_cases e2 : k = o
      · subst e2
        rw [keys_none h2]
        show (G.ren k o').hdr k = none
        simp [Gh.ren, hne']
      · rw [lk0_miss e2] at hk'
        cases hl : lk0 ol k with
        | none =>
          rw [hl] at hk'
          have hk2 : G.hdr k = none := hk'
          show (G.ren o o').hdr k = none
          simp [Gh.ren, e, e2, hk2]
        | some x =>
          rw [hl] at hk'
          refine RelO.presP hsh hhm (h3.get k x hl) ⟨by simp [Gh.ren, e, e2], fun b _ _ => ⟨rfl, fun i hi => by simp [Gh.ren, rlO, hi, e2]⟩, how _ (by simp) (by simpa using e2)⟩ hk'
  · have := hS k hk
    refine hhm k ?_ v hv
    by_cases e1 : k = o
    · subst e1; rw [h2] at this; cases this
    · by_cases e2 : k = o'
      · subst e2; rw [h2'] at this; cases this
      · simp [e1, e2]
/-- A row is written no more. -/
def Gh.frz1 (G : Gh) (o b n : Nat) : Gh := ⟨fun b' i => if b' = b ∧ i < n then none else G.own b' i, fun k => if k = o then none else G.hdr k⟩
theorem frz1_sh {G : Gh} {w : Go.World} {o b n : Nat} : Sh G w (G.frz1 o b n) w := fun b' i v k1 k2 => ⟨by simp only [Gh.frz1]; split <;> first | rfl | exact k1, k2⟩
theorem frz1_ow {G : Gh} {w : Go.World} {o b n : Nat} {ω : Owner} (h : ∀ i, i < n → G.own b i = some (.blk o, [])) (hω : ω.1 ≠ .blk o) : Ow G w ω (G.frz1 o b n) w ω never := fun b' i π v _ k1 k2 => by
  refine ⟨?_, k2, id⟩
  simp only [Gh.frz1]
  by_cases e : b' = b ∧ i < n
  · obtain ⟨rfl, hi⟩ := e
    rw [h i hi] at k1
    injection k1 with k1
    exact absurd (congrArg Prod.fst k1).symm hω
  · rw [if_neg e]; exact k1
theorem frz1_keep {S : Nat → Prop} {G : Gh} {w : Go.World} {o b n : Nat} (h : ∀ i, i < n → G.own b i = some (.blk o, [])) (hS : ¬ S o) : Keep S G w (G.frz1 o b n) w :=
  ⟨rfl, rfl, rfl, Nat.le_refl _, fun b' i v k1 k2 => ⟨by
    simp only [Gh.frz1]
    by_cases e : b' = b ∧ i < n
    · obtain ⟨rfl, hi⟩ := e
      rw [h i hi] at k1
      rcases k1 with k1 | ⟨π, k1⟩ <;> simp at k1
    · rw [if_neg e], k2, rfl⟩, fun _ _ _ => rfl, fun k v hk hv => by
    have : k ≠ o := fun e => hS (e ▸ hk)
    simp [Gh.frz1, this, hv]⟩
theorem frz1_elems {α : Type} [Enc α] [Plain α] {G : Gh} {w : Go.World} {o b : Nat} {cs : List Value} {te : TypeId} {xs : List α} (m2 : w.heap[b]? = some (.cells cs.toArray te (0, 0))) (m5 : ∀ i x, xs[i]? = some x → ∃ c, Enc.rd G w (.obj o, [i]) x c ∧ ∀ j v, c[j]? = some v → cs[i * Enc.size α + j]? = some v)
    (hB : xs.length ≤ big) : Elems (G.frz1 o b cs.length) w (some ⟨b, 0, none⟩) xs := by
  refine .inr ⟨b, 0, rfl, hB, fun i x hx => ?_⟩
  obtain ⟨c, c1, c2⟩ := m5 i x hx
  refine ⟨c, Plain.mono frz1_sh c1, fun j v hj => ?_⟩
  have := c2 j v hj
  have hlt := getElem?_lt this
  refine ⟨by simp [Gh.frz1, hlt], ?_⟩
  rw [cl_row m2]
  simpa using this
theorem Le.frz {n t o : Nat} {α : Type} [Enc α] [Plain α] {xs : List α} {tl : List (Nat × AV)} {ol : List (Nat × Obj)} (hB : xs.length ≤ big) (hS : ∀ k, S k → keys ol k = true)
    (h1 : (tl.all fun x => x.2.refs.all fun q => q != o) = true) (h2 : keys ol o = false) (h3 : ObL (fun k => k != o) ol) :
    Le S (mkSt n ((t, .v (NRef.ref o)) :: tl) ((o, .arr xs) :: ol)) (mkSt n ((t, .v xs) :: tl) ol) := fun G w a hr => by
  have ho : RelO G w o (orr (lk0 ((o, .arr xs) :: ol) o) .free) := hr.objs o
  rw [lk0_hit] at ho
  obtain ⟨b, cap, cs, te, m1, m2, m3, m4, m5, m6⟩ := ho
  have hhm : ∀ q, (q != o) = true → ∀ v, G.hdr q = some v → (G.frz1 o b cs.length).hdr q = some v := fun q hq v hv => by
    simp at hq
    simp [Gh.frz1, hq, hv]
  refine ⟨G.frz1 o b cs.length, ⟨hr.defers, hr.size, fun q => ?_, fun k => ?_⟩, frz1_keep m6 (fun hs => by have := hS o hs; rw [h2] at this; cases this)⟩
  · show RelT _ _ _ (lk0 ((t, .v xs) :: tl) q) _
    have hq' : RelT G w (.tmp q, []) (lk0 ((t, .v (NRef.ref o)) :: tl) q) (a.tmps.getD q undef) := hr.tmps q
    by_cases e : q = t
    · subst e
      rw [lk0_hit] at hq' ⊢
      obtain ⟨cs', ⟨ad, m, c, g1, g2⟩, g3⟩ := hq'
      have g2' : G.hdr o = some (.slice ad m c) := g2
      rw [m1] at g2'
      injection g2' with g2'
      injection g2' with e1 e2 e3
      subst e1 e2 e3
      exact ⟨cs', ⟨_, _, g1, m3, frz1_elems m2 m5 hB⟩, g3⟩
    · rw [lk0_miss e] at hq' ⊢
      cases hl : lk0 tl q with
      | none => trivial
      | some av =>
        rw [hl] at hq'
        have hm := lk0_mem hl
        rw [List.all_eq_true] at h1
        have hav := h1 _ hm
        rw [List.all_eq_true] at hav
        exact RelV.mono frz1_sh (frz1_ow m6 (by simp)) (fun r hr' => hhm r (hav r hr')) hq'
  · show RelO _ _ k (orr (lk0 ol k) .free)
    have hk' : RelO G w k (orr (lk0 ((o, .arr xs) :: ol) k) .free) := hr.objs k
    by_cases e2 : k = o
    · subst e2
      rw [keys_none h2]
      show (G.frz1 k b cs.length).hdr k = none
      simp [Gh.frz1]
    · rw [lk0_miss e2] at hk'
      cases hl : lk0 ol k with
      | none =>
        rw [hl] at hk'
        have hk2 : G.hdr k = none := hk'
        show (G.frz1 o b cs.length).hdr k = none
        simp [Gh.frz1, e2, hk2]
      | some x =>
        rw [hl] at hk'
        refine RelO.presP frz1_sh hhm (h3.get k x hl) ⟨by simp [Gh.frz1, e2], fun b' _ _ => ⟨rfl, fun i hi => ?_⟩, frz1_ow m6 (by simp)⟩ hk'
        simp only [Gh.frz1]
        by_cases e : b' = b ∧ i < cs.length
        · obtain ⟨rfl, hi'⟩ := e
          rw [m6 i hi'] at hi
          injection hi with hi
          simp at hi
          exact absurd hi.symm e2
        · rw [if_neg e]; exact hi
/-- A world whose row is written no more. -/
theorem Le.frzWr {n t c o : Nat} {w0 : Wrld} {own : Bool} {R : List NodS} (hR : ∀ (G : Gh) (w : Go.World), RelO G w o (.arr R) → RelO G w o (.arr w0.nodes)) {tl : List (Nat × AV)} {ol : List (Nat × Obj)} (hB : w0.nodes.length ≤ big) (hne : Nat.beq c o = false) (hS : ∀ k, S k → keys ol k = true)
    (h1 : (tl.all fun x => x.2.refs.all fun q => q != o) = true) (h2 : keys ol o = false) (h2c : keys ol c = false) (h3 : ObL (fun k => k != o) ol) :
    Le S (mkSt n ((t, .box c (IsLens.whole WrldS)) :: tl) ((c, .cell (WrldS.mk w0.epoch (.ref o) ⟨w0.log, own⟩ w0.bad)) :: (o, .arr R) :: ol)) (mkSt n ((t, .box c (IsLens.whole Wrld)) :: tl) ((c, .cell w0) :: ol)) := fun G w a hr => by
  have hne' : c ≠ o := fun e => by rw [e] at hne; simp at hne
  have ho : RelO G w o (orr (lk0 ((c, _) :: (o, .arr R) :: ol) o) .free) := hr.objs o
  rw [lk0_miss (Ne.symm hne'), lk0_hit] at ho
  have ho := hR G w (show RelO G w o (.arr R) from ho)
  obtain ⟨b, cap, cs, te, m1, m2, m3, m4, m5, m6⟩ := ho
  have hhm : ∀ q, (q != o) = true → ∀ v, G.hdr q = some v → (G.frz1 o b cs.length).hdr q = some v := fun q hq v hv => by
    simp at hq
    simp [Gh.frz1, hq, hv]
  refine ⟨G.frz1 o b cs.length, ⟨hr.defers, hr.size, fun q => ?_, fun k => ?_⟩, frz1_keep m6 (fun hs => by have := hS o hs; rw [h2] at this; cases this)⟩
  · show RelT _ _ _ (lk0 ((t, .box c (IsLens.whole Wrld)) :: tl) q) _
    have hq' : RelT G w (.tmp q, []) (lk0 ((t, .box c (IsLens.whole WrldS)) :: tl) q) (a.tmps.getD q undef) := hr.tmps q
    by_cases e : q = t
    · subst e
      rw [lk0_hit] at hq' ⊢
      obtain ⟨b', g1, g2⟩ := hq'
      exact ⟨b', hhm c (by simpa using hne') _ g1, g2⟩
    · rw [lk0_miss e] at hq' ⊢
      cases hl : lk0 tl q with
      | none => trivial
      | some av =>
        rw [hl] at hq'
        have hm := lk0_mem hl
        rw [List.all_eq_true] at h1
        have hav := h1 _ hm
        rw [List.all_eq_true] at hav
        exact RelV.mono frz1_sh (frz1_ow m6 (by simp)) (fun r hr' => hhm r (hav r hr')) hq'
  · show RelO _ _ k (orr (lk0 ((c, .cell w0) :: ol) k) .free)
    have hk' : RelO G w k (orr (lk0 ((c, _) :: (o, .arr R) :: ol) k) .free) := hr.objs k
    by_cases ec : k = c
    · subst ec
      rw [lk0_hit] at hk' ⊢
      obtain ⟨b', cs', te', q1, q2, q3, q4⟩ := hk'
      refine ⟨b', cs', te', hhm k (by simpa using hne') _ q1, q2, ?_, fun i hi => ?_⟩
      · obtain ⟨c1, c2, rfl, r1, ⟨c3, c4, rfl, r3, ⟨c5, c6, rfl, ⟨ad, cp, l1, l2, l3, _⟩, r6⟩⟩⟩ := q3
        obtain ⟨ad', n', c', g1, g2⟩ := r3
        have g2' : G.hdr o = some (.slice ad' n' c') := g2
        rw [m1] at g2'
        injection g2' with g2'
        injection g2' with e1 e2 e3
        subst e1 e2 e3
        exact ⟨c1, _, rfl, r1, c3, _, rfl, ⟨some ⟨b, 0, none⟩, cap, g1, m3, frz1_elems m2 m5 hB⟩, c5, c6, rfl, ⟨ad, cp, l1, l2, l3.mono frz1_sh⟩, r6⟩
      · simp only [Gh.frz1]
        by_cases e : b' = b ∧ i < cs.length
        · obtain ⟨rfl, hi'⟩ := e
          have := q4 i hi
          rw [m6 i hi'] at this
          injection this with this
          simp at this
          exact absurd this.symm hne'
        · rw [if_neg e]; exact q4 i hi
    · rw [lk0_miss ec] at hk' ⊢
      by_cases e2 : k = o
      · subst e2
        rw [keys_none h2]
        show (G.frz1 k b cs.length).hdr k = none
        simp [Gh.frz1]
      · rw [lk0_miss e2] at hk'
        cases hl : lk0 ol k with
        | none =>
          rw [hl] at hk'
          have hk2 : G.hdr k = none := hk'
          show (G.frz1 o b cs.length).hdr k = none
          simp [Gh.frz1, e2, hk2]
        | some x =>
          rw [hl] at hk'
          refine RelO.presP frz1_sh hhm (h3.get k x hl) ⟨by simp [Gh.frz1, e2], fun b' _ _ => ⟨rfl, fun i hi => ?_⟩, frz1_ow m6 (by simp)⟩ hk'
          simp only [Gh.frz1]
          by_cases e : b' = b ∧ i < cs.length
          · obtain ⟨rfl, hi'⟩ := e
            rw [m6 i hi'] at hi
            injection hi with hi
            simp at hi
            exact absurd hi.symm e2
          · rw [if_neg e]; exact hi
theorem Le.frzW {n t c o : Nat} {w0 : Wrld} {own : Bool} {tl : List (Nat × AV)} {ol : List (Nat × Obj)} (hB : w0.nodes.length ≤ big) (hne : Nat.beq c o = false) (hS : ∀ k, S k → keys ol k = true)
    (h1 : (tl.all fun x => x.2.refs.all fun q => q != o) = true) (h2 : keys ol o = false) (h2c : keys ol c = false) (h3 : ObL (fun k => k != o) ol) :
    Le S (mkSt n ((t, .box c (IsLens.whole WrldS)) :: tl) ((c, .cell (WrldS.mk w0.epoch (.ref o) ⟨w0.log, own⟩ w0.bad)) :: (o, .arr (w0.nodes.map sN)) :: ol)) (mkSt n ((t, .box c (IsLens.whole Wrld)) :: tl) ((c, .cell w0) :: ol)) :=
  Le.frzWr (fun _ _ => arr_n) hB hne hS h1 h2 h2c h3
/-- A variable seen in another way. -/
theorem Le.recell {n t c : Nat} {α β : Type} [Enc α] [Enc β] {x : α} {y : β} {tl : List (Nat × AV)} {ol : List (Nat × Obj)} (hc : ∀ (G : Gh) (w : Go.World) (ω : Owner) (cs : List Value), Enc.rd G w ω x cs → Enc.rd G w ω y cs) :
    Le S (mkSt n ((t, .box c (IsLens.whole α)) :: tl) ((c, .cell x) :: ol)) (mkSt n ((t, .box c (IsLens.whole β)) :: tl) ((c, .cell y) :: ol)) := fun G w a hr => by
  refine ⟨G, ⟨hr.defers, hr.size, fun q => ?_, fun k => ?_⟩, Keep.refl _ _ _⟩
  · show RelT _ _ _ (lk0 ((t, .box c (IsLens.whole β)) :: tl) q) _
    have hq' : RelT G w (.tmp q, []) (lk0 ((t, .box c (IsLens.whole α)) :: tl) q) (a.tmps.getD q undef) := hr.tmps q
    by_cases e : q = t
    · subst e
      rw [lk0_hit] at hq' ⊢
      exact hq'
    · rw [lk0_miss e] at hq' ⊢
      exact hq'
  · show RelO _ _ k (orr (lk0 ((c, .cell y) :: ol) k) .free)
    have hk' : RelO G w k (orr (lk0 ((c, .cell x) :: ol) k) .free) := hr.objs k
    by_cases e : k = c
    · subst e
      rw [lk0_hit] at hk' ⊢
      obtain ⟨b', cs', te', q1, q2, q3, q4⟩ := hk'
      exact ⟨b', cs', te', q1, q2, hc _ _ _ _ q3, q4⟩
    · rw [lk0_miss e] at hk' ⊢
      exact hk'
end Go.Wt

/- Rows whose elements have room of their own: built of one, appended to. -/
set_option linter.unusedVariables false
set_option linter.unusedSimpArgs false
namespace Go.Wt
open Go
variable {P : Program} {S : Nat → Prop} {ops : Array Oper} {st : St}
/-- A row of one that takes its element with the room. -/
theorem op_bsm {d o s : Nat} {T pos aft} {α : Type} [Enc α] {t E : TypeId} {bytes : Nat} {z0 e : α} (sl : SlOk P t E bytes α) (hz : ZeroOk P E z0) (hx : st.tm s = some (.v e)) (hne : Nat.beq s d = false) (ho : st.ob o = .free) (hsmall : Enc.size α ≤ 16777216) (hn : Nat.blt d st.n = true) :
    OpOk P S ops ⟨some d, .buildSlice t 1 #[(0, .tmp s)], T, pos, aft, none⟩ [s] [o] [(d, some (.v (ARef.mk o))), (s, some (.v (Enc.dis e)))] [(o, .arr [e])] st := by
  intro st1 hag G w a hr K Q hK
  unfold stepO
  rw [if_pos (by simp [Region.wanted])]
  refine .inl ?_
  have hsd : s ≠ d := by intro e; subst e; simp at hne
  have hts : st1.tm s = some (.v e) := by rw [hag.tm s (by simp)]; exact hx
  have hfree : st1.ob o = .free := by rw [hag.ob o (by simp)]; exact ho
  have hv := hr.tmps s
  rw [hts] at hv
  obtain ⟨cs, h1, h2⟩ := hv
  have h2' : a.eval (.tmp s) = Enc.val α cs := h2
  obtain ⟨hu, i, hi, hby, hsz⟩ := sl.spec
  obtain ⟨i', zcs, k1, k2, k3⟩ := hz.ok
  rw [hi] at k1
  injection k1 with k1
  subst k1
  have hsp := Enc.size_pos (α := α)
  have hvz : (Enc.val α cs).cells.size = Enc.size α := Enc.val_size h1
  have hc : (execOp a.eval ⟨some d, .buildSlice t 1 #[(0, .tmp s)], T, pos, aft, none⟩).run P w = .ok (.value (.slice (some ⟨w.heap.size, 0, none⟩) 1 1)) (w.alloc (.cells cs.toArray E)) := by
    have hzs : zcs.length = Enc.size α := Enc.len (k3 G w ω0)
    have hfill := Go.Great.fill_whole hsp [Enc.val α cs] ((Array.range (1 * i.size)).map ((Enc.val α zcs).cells[· % (Enc.val α zcs).cells.size]!)) (by intro v hv; simp at hv; subst hv; exact hvz) (by simp [hsz])
    have := run_buildSlice (P := P) w t E 1 #[(0, a.eval (.tmp s))] _ i (Enc.val α zcs) hu hi k2 (by rw [hsz]; show ¬ _ > 16777216; omega) (by rw [hsz]; omega) (by
      rw [hsz] at hfill ⊢
      rw [h2']
      simpa using hfill)
    simp only [execOp, List.map_toArray, List.map_cons, List.map_nil, Sem.run_bind, this, Result.andThen_ok, Sem.run_pure]
    rw [Enc.val_cells h1]
    first | done | rfl | simp
  unfold Oper.wp
  rw [hc]
  simp only [Oper.upon]
  have g1 := hr.newblk (.cells cs.toArray E) (fun _ => some (.blk o, []))
  have g2 := g1.mvt (s := s) (D := (.obj o, [0])) (av := .v e) hts (by simp) (fun k hk hf => by
    intro e'
    injection e' with e'
    subst e'
    exact hf hfree) (by simp)
  have hn0 : G.hdr o = none := by have := hr.objs o; rw [hfree] at this; exact this
  have g3 := g2.sethdr (o := o) (by show st1.ob o = _; exact hfree) (.slice (some ⟨w.heap.size, 0, none⟩) 1 1) (x := .arr [e]) ?_
  · have g4 := g3.put (d := d) (av := some (.v (ARef.mk o))) (u := .slice (some ⟨w.heap.size, 0, none⟩) 1 1) (by show d < st1.n; rw [hag.n]; simpa using hn) ⟨_, ⟨_, _, _, rfl, by simp [Gh.hd]⟩, rfl⟩
    have e0 : (((st1.upd [(s, some (AV.dis (.v e)))] []).upd [] [(o, Obj.arr [e])]).upd [(d, some (AV.v (ARef.mk o)))] []) = st1.upd [(d, some (.v (ARef.mk o))), (s, some (.v (Enc.dis e)))] [(o, .arr [e])] := by
      unfold St.upd
      congr 1
      · funext q
        simp only [lk]
        by_cases eq : q = d
        · subst eq; simp [orr]
        · by_cases e2 : q = s <;> simp [eq, e2, hsd, orr, AV.dis]
    rw [e0] at g4
    refine hK _ _ _ g4 ((Keep.blk S).trans ((Keep.mv S (by simp) (by simp)).trans (Keep.hd (by simp [Gh.mv, Gh.blk]; exact hn0))))
  · refine ⟨w.heap.size, 1, cs, E, by simp [Gh.hd], heap_alloc_eq _ _, by simp, by rw [Enc.len h1]; omega, fun k x hk => ?_, fun i hi => by simp [Gh.hd, Gh.mv, Gh.blk, relab]⟩
    have hk0 : k = 0 ∧ x = e := by
      cases k with
      | zero => simp at hk; exact ⟨rfl, hk.symm⟩
      | succ k => simp at hk
    obtain ⟨rfl, rfl⟩ := hk0
    refine ⟨cs, ?_, fun j v hj => by simpa using hj⟩
    have r1 : Enc.rd ((G.blk w.heap.size fun _ => some (.blk o, [])).mv (.tmp s, []) (.obj o, [0])) (w.alloc (.cells cs.toArray E)) (.obj o, [0]) x cs :=
      Enc.mono (Sh.blk.trans Sh.mv) (Ow.comp Ow.blk Ow.mv_src) (fun _ _ _ h => h) h1
    refine Enc.mono (G := (G.blk w.heap.size fun _ => some (.blk o, [])).mv (.tmp s, []) (.obj o, [0])) (w := w.alloc (.cells cs.toArray E)) (fun b i v h1 h2 => ⟨h1, h2⟩) (fun b i π v _ h1 h2 => ⟨h1, h2, id⟩) (fun o' _ v' hv => ?_) r1
    have hv' : G.hdr o' = some v' := hv
    have hne' : o' ≠ o := by rintro rfl; rw [hn0] at hv'; cases hv'
    simp [Gh.hd, hne', hv]
/-! ### A relabelling of two rows into one -/
def rlA (o o2 o' n : Nat) : Owner → Owner := fun q => match q with
  | (.blk k, p) => if k = o then (.blk o', p) else (.blk k, p)
  | (.obj k, []) => (.obj k, [])
  | (.obj k, i :: p) => if k = o then (.obj o', i :: p) else if k = o2 then (.obj o', (n + i) :: p) else (.obj k, i :: p)
  | q => q
def Gh.rlA (G : Gh) (o o2 o' n : Nat) : Gh := ⟨fun b i => (G.own b i).map (Wt.rlA o o2 o' n), G.hdr⟩
theorem Sh.rlA {G w} (o o2 o' n : Nat) : Sh G w (G.rlA o o2 o' n) w := fun b i v h1 h2 => ⟨by simp [Gh.rlA, h1], h2⟩
theorem Ow.rlA_other {G w} {o o2 o' n : Nat} {ω : Owner} (h1 : ω.1 ≠ .blk o) (h2 : ω.1 ≠ .obj o) (h3 : ω.1 ≠ .obj o2) : Ow G w ω (G.rlA o o2 o' n) w ω never := fun b i π v _ k1 k2 => by
  refine ⟨?_, k2, id⟩
  obtain ⟨p, ρ⟩ := ω
  simp only [Gh.rlA, k1, Option.map_some]
  congr 1
  cases p with
  | blk k => simp at h1; simp [Wt.rlA, h1]
  | obj k =>
    simp at h2 h3
    cases ρ ++ π with
    | nil => rfl
    | cons i p => simp [Wt.rlA, h2, h3]
  | _ => rfl
theorem Ow.rlA_fst {G w} {o o2 o' n k : Nat} : Ow G w (.obj o, [k]) (G.rlA o o2 o' n) w (.obj o', [k]) never := fun b i π v _ k1 k2 => ⟨by simp [Gh.rlA, Wt.rlA, k1], k2, id⟩
theorem Ow.rlA_snd {G w} {o o2 o' n k : Nat} (h : o2 ≠ o) : Ow G w (.obj o2, [k]) (G.rlA o o2 o' n) w (.obj o', [n + k]) never := fun b i π v _ k1 k2 => ⟨by simp [Gh.rlA, Wt.rlA, k1, h], k2, id⟩
theorem RelSt.rlA {G w a} {o o2 o' n : Nat} (h : RelSt G w a st) (ho : st.ob o = .dead) (ho2 : st.ob o2 = .dead) : RelSt (G.rlA o o2 o' n) w a st where
  defers := h.defers
  size := h.size
  tmps := fun t => (h.tmps t).mono (Sh.rlA _ _ _ _) (Ow.rlA_other (by simp) (by simp) (by simp)) (fun _ _ _ h => h)
  objs := fun k => by
    by_cases e : k = o
    · subst e; rw [ho]; trivial
    by_cases e2 : k = o2
    · subst e2; rw [ho2]; trivial
    · obtain ⟨T', hT⟩ := Obj.refs_all (st.ob k)
      exact (h.objs k).pres (Sh.rlA _ _ _ _) (fun _ _ _ h => h) hT ⟨rfl, fun b _ _ => ⟨rfl, fun i hi => by simp [Gh.rlA, Wt.rlA, hi, e]⟩, Ow.rlA_other (by simp) (by simpa using e) (by simpa using e2)⟩
theorem Keep.rlA (S : Nat → Prop) (G : Gh) (w : World) (o o2 o' n : Nat) : Keep S G w (G.rlA o o2 o' n) w :=
  ⟨rfl, rfl, rfl, Nat.le_refl _, fun b i v h hc => ⟨by rcases h with h | ⟨π, h⟩ <;> simp [Gh.rlA, Wt.rlA, h], hc, rfl⟩, fun _ _ _ => rfl, fun _ _ _ h => h⟩
/-- The cells of a row. -/
theorem arr_news {α : Type} [Enc α] {G : Gh} {w : World} {o b : Nat} {ys : List α} {cs : List Value} {te : TypeId} {cap : Nat} (m2 : w.heap[b]? = some (.cells cs.toArray te (0, 0))) (m3 : ys.length ≤ cap) (m4 : cap * Enc.size α ≤ cs.length)
    (m5 : ∀ i x, ys[i]? = some x → ∃ c, Enc.rd G w (.obj o, [i]) x c ∧ ∀ j v, c[j]? = some v → cs[i * Enc.size α + j]? = some v) :
    (cs.take (ys.length * Enc.size α)).length = ys.length * Enc.size α ∧ (∀ u ∈ cs.take (ys.length * Enc.size α), u.oneCell' = true) ∧ (∀ j u, (cs.take (ys.length * Enc.size α))[j]? = some u → cl w b (0 + j) = some u) := by
  have hsp := Enc.size_pos (α := α)
  have hle : ys.length * Enc.size α ≤ cs.length := Nat.le_trans (Nat.mul_le_mul_right _ m3) m4
  refine ⟨by simp; omega, fun u hu => ?_, fun j u hj => ?_⟩
  · obtain ⟨j, hj⟩ := List.getElem?_of_mem hu
    have hlt := getElem?_lt hj
    rw [List.length_take, Nat.min_eq_left hle] at hlt
    rw [List.getElem?_take, if_pos hlt] at hj
    have hi : j / Enc.size α < ys.length := (Nat.div_lt_iff_lt_mul hsp).2 hlt
    obtain ⟨c, c1, c2⟩ := m5 (j / Enc.size α) _ (List.getElem?_eq_getElem hi)
    have hr : j % Enc.size α < c.length := by rw [Enc.len c1]; exact Nat.mod_lt _ hsp
    have := c2 (j % Enc.size α) _ (List.getElem?_eq_getElem hr)
    rw [Nat.div_add_mod' j (Enc.size α), hj] at this
    injection this with this
    rw [this]
    exact Enc.one c1 _ (List.getElem_mem hr)
  · have hlt := getElem?_lt hj
    rw [List.length_take, Nat.min_eq_left hle] at hlt
    rw [List.getElem?_take, if_pos hlt] at hj
    rw [cl_row m2, Nat.zero_add]; exact hj
/-- The first row is nothing. -/
theorem op_apMN {d : Nat} {T pos aft} {x y : Operand} {o2 o' : Nat} {α : Type} [Enc α] {t t2 E E2 : TypeId} {bytes : Nat} {z0 : α} {ys : List α} (sl : SlOk P t E bytes α) (hz : ZeroOk P E z0) (ht2 : P.underlying t2 = some (.slice E2))
    (hx : st.ev x = some (.v NRef.nil)) (hy : st.ev y = some (.v (ARef.mk o2))) (ho2 : st.ob o2 = .arr ys) (ho' : st.ob o' = .free) (hp : 0 < ys.length) (hb : ys.length * bytes ≤ 140737488355328) (h63 : ys.length ≤ 4611686018427387904) (hn : Nat.blt d st.n = true) :
    OpOk P S ops ⟨some d, .call { callee := .builtin .append, args := #[x, y], argTypes := #[t, t2] }, T, pos, aft, none⟩ (opT x ++ opT y) [o2, o'] [(d, some (.v (NRef.ref o')))] [(o2, .dead), (o', .arr ys)] st := by
  intro st1 hag G w a hr K Q hK
  unfold stepO
  rw [if_pos (by simp [Region.wanted])]
  refine .inl ?_
  have hd' : d < st1.n := by rw [hag.n]; simpa using hn
  have hne2 : o2 ≠ o' := by rintro rfl; rw [ho2] at ho'; cases ho'
  have u1 : a.eval x = .slice none 0 0 := by
    obtain ⟨cs, h1, h2⟩ := hr.at hag hx fun t ht => by simp [ht]
    rw [h2, show cs = [_] from h1]; rfl
  obtain ⟨cs0, ⟨ad, n0, c0, g1, g2⟩, g3⟩ := hr.at hag hy fun t ht => by simp [ht]
  have v1 : a.eval y = .slice ad n0 c0 := by rw [g3, g1]; rfl
  have hob := hr.objs o2
  rw [hag.ob o2 (by simp), ho2] at hob
  obtain ⟨b, cap, cs, te, m1, m2, m3, m4, m5, m6⟩ := hob
  have m0 := m1
  have g2' : G.hdr o2 = some (.slice ad n0 c0) := g2
  rw [g2'] at m0
  injection m0 with m0
  injection m0 with e1 e2 e3
  subst e1 e2 e3
  obtain ⟨hu, i, hi, hby, hsz⟩ := sl.spec
  obtain ⟨i', zcs, k1, k2, k3⟩ := hz.ok
  rw [hi] at k1
  injection k1 with k1
  subst k1
  obtain ⟨n1, n3, n4⟩ := arr_news (o := o2) m2 m3 m4 m5
  generalize hnw : cs.take (ys.length * Enc.size α) = news at n1 n3 n4
  have hrun := run_app_grow (P := P) w t t2 T E E2 i (Enc.val α zcs) hu ht2 hi k2 none 0 0 [] (by simp) (.inl rfl) (some ⟨b, 0, none⟩) ys.length c0 news (by rw [n1, hsz]) (.inr ⟨b, 0, rfl, n4⟩) (by omega) (by omega) (by rw [hby]; simpa using hb)
  unfold Oper.wp
  have hexec : (execOp a.eval ⟨some d, .call { callee := .builtin .append, args := #[x, y], argTypes := #[t, t2] }, T, pos, aft, none⟩).run P w =
      .ok (.value (.slice (some ⟨w.heap.size, 0, none⟩) (0 + ys.length) (grownCap w (0 + ys.length) 0 E))) (w.drew.alloc (.cells (([] : List Value).toArray ++ news.toArray ++ Builtin.zeroCells (Enc.val α zcs).cells (grownCap w (0 + ys.length) 0 E - (0 + ys.length))) E)) := by
    simp only [execOp, resolve, invoke, builtin, List.map_toArray, List.map_cons, List.map_nil, Sem.run_bind, Sem.run_pure, Result.andThen_ok, u1, v1, hrun]
  rw [hexec]
  simp only [Oper.upon, Nat.zero_add]
  have hge := grownCap_ge w ys.length 0 E
  have hfree : st1.ob o' = .free := by rw [hag.ob o' (by simp)]; exact ho'
  have harr : (news ++ (Builtin.zeroCells (Enc.val α zcs).cells (grownCap w ys.length 0 E - ys.length)).toList).toArray = ([] : List Value).toArray ++ news.toArray ++ Builtin.zeroCells (Enc.val α zcs).cells (grownCap w ys.length 0 E - ys.length) := by
    apply Array.ext'
    simp
  rw [← harr]
  generalize hcs' : news ++ (Builtin.zeroCells (Enc.val α zcs).cells (grownCap w ys.length 0 E - ys.length)).toList = cs'
  have hl' : grownCap w ys.length 0 E * Enc.size α ≤ cs'.length := by
    rw [← hcs']
    have hvz : (Enc.val α zcs).cells.size = Enc.size α := Enc.val_size (k3 G w ω0)
    simp only [List.length_append, n1, Array.length_toList, size_zeroCells, hvz, ← Nat.add_mul]
    refine Nat.mul_le_mul_right _ ?_
    omega
  have hhd : G.hdr o' = none := by have := hr.objs o'; rw [hfree] at this; exact this
  have g1 := (hr.drew.kill o2).newblk (.cells cs'.toArray E) (fun _ => some (.blk o', []))
  have g2 := g1.rlA (o := o2) (o2 := o2) (o' := o') (n := 0) (by simp [St.upd, lk, orr]) (by simp [St.upd, lk, orr])
  have hfr : (st1.upd [] [(o2, Obj.dead)]).ob o' = .free := by simp [St.upd, lk, orr, Ne.symm hne2]; exact hfree
  have g3' := g2.sethdr hfr (.slice (some ⟨w.drew.heap.size, 0, none⟩) ys.length (grownCap w ys.length 0 E)) (x := .arr ys) ?_
  · have := g3'.put (d := d) (av := some (.v (NRef.ref o'))) (u := .slice (some ⟨w.heap.size, 0, none⟩) ys.length (grownCap w ys.length 0 E)) hd' ⟨_, ⟨_, _, _, rfl, by simp [Gh.hd]⟩, rfl⟩
    have e0 : ((st1.upd [] [(o2, Obj.dead)]).upd [] [(o', Obj.arr ys)]).upd [(d, some (.v (NRef.ref o')))] [] = st1.upd [(d, some (.v (NRef.ref o')))] [(o2, .dead), (o', .arr ys)] := by
      unfold St.upd
      congr 1
      funext k
      simp only [lk]
      by_cases ek : k = o2
      · subst ek; simp [hne2, orr]
      · by_cases ek' : k = o' <;> simp [ek, ek', orr, Ne.symm hne2]
    rw [e0] at this
    exact hK _ _ _ this (((Keep.drew S G w).trans (Keep.blk S)).trans ((Keep.rlA S _ _ o2 o2 o' 0).trans (Keep.hd (by simp [Gh.rlA, Gh.blk]; exact hhd))))
  · refine ⟨w.drew.heap.size, grownCap w ys.length 0 E, cs', E, by simp [Gh.hd], heap_alloc_eq _ _, by omega, hl', fun k x' hk => ?_, fun j hj => by simp [Gh.hd, Gh.rlA, Gh.blk, Wt.rlA]⟩
    obtain ⟨ce, r1, r2⟩ := m5 k x' hk
    refine ⟨ce, ?_, fun j v hj => ?_⟩
    · have q1 : Enc.rd G w.drew (.obj o2, [k]) x' ce := Enc.mono (G := G) (w := w) (fun _ _ _ h1 h2 => ⟨h1, h2⟩) (fun _ _ _ _ _ h1 h2 => ⟨h1, h2, id⟩) (fun _ _ _ h => h) r1
      have q2 := Enc.mono (ω' := (.obj o', [k])) (Sh.blk (x := .cells cs'.toArray E) (f := fun _ => some (.blk o', [])) |>.trans (Sh.rlA o2 o2 o' 0)) (Ow.comp Ow.blk Ow.rlA_fst) (fun _ _ _ h => h) q1
      refine Enc.mono (G := (G.blk w.drew.heap.size fun _ => some (.blk o', [])).rlA o2 o2 o' 0) (w := w.drew.alloc (.cells cs'.toArray E)) (fun b i v h1 h2 => ⟨h1, h2⟩) (fun b i π v _ h1 h2 => ⟨h1, h2, id⟩) (fun q _ v' hv => ?_) q2
      have hv' : G.hdr q = some v' := hv
      have hne' : q ≠ o' := by rintro rfl; rw [hhd] at hv'; cases hv'
      simp [Gh.hd, hne']
      exact hv'
    · have hjl : j < Enc.size α := by rw [← Enc.len r1]; exact getElem?_lt hj
      have hlt := lt_mul_of (getElem?_lt hk) hjl
      rw [← hcs', List.getElem?_append_left (by rw [n1]; exact hlt), ← hnw, List.getElem?_take, if_pos hlt]
      exact r2 j v hj
theorem op_apMA {d : Nat} {T pos aft} {x y : Operand} {o o2 o' : Nat} {α : Type} [Enc α] {t t2 E E2 : TypeId} {bytes : Nat} {z0 : α} {xs ys : List α} (sl : SlOk P t E bytes α) (hz : ZeroOk P E z0) (ht2 : P.underlying t2 = some (.slice E2))
    (hx : st.ev x = some (.v (NRef.ref o))) (hy : st.ev y = some (.v (ARef.mk o2))) (ho : st.ob o = .arr xs) (ho2 : st.ob o2 = .arr ys) (ho' : st.ob o' = .free) (hoo : Nat.beq o2 o = false) (hp : 0 < ys.length) (hb : (xs.length + ys.length) * bytes ≤ 140737488355328) (h63 : xs.length + ys.length ≤ 4611686018427387904) (hn : Nat.blt d st.n = true) :
    OpOk P S ops ⟨some d, .call { callee := .builtin .append, args := #[x, y], argTypes := #[t, t2] }, T, pos, aft, none⟩ (opT x ++ opT y) [o, o2, o'] [(d, some (.v (NRef.ref o')))] [(o, .dead), (o2, .dead), (o', .arr (xs ++ ys))] st := by
  intro st1 hag G w a hr K Q hK
  unfold stepO
  rw [if_pos (by simp [Region.wanted])]
  refine .inl ?_
  have hd' : d < st1.n := by rw [hag.n]; simpa using hn
  have hne : o ≠ o' := by rintro rfl; rw [ho] at ho'; cases ho'
  have hne2 : o2 ≠ o' := by rintro rfl; rw [ho2] at ho'; cases ho'
  have hoo' : o2 ≠ o := by rintro rfl; simp at hoo
  obtain ⟨ad, n0, c0, u1, u2⟩ := RelV.ref (hr.at hag hx fun t ht => by simp [ht])
  obtain ⟨cs0, ⟨ad2, n2, c2, g1, g2⟩, g3⟩ := hr.at hag hy fun t ht => by simp [ht]
  have v1 : a.eval y = .slice ad2 n2 c2 := by rw [g3, g1]; rfl
  have hob := hr.objs o
  rw [hag.ob o (by simp), ho] at hob
  obtain ⟨b, cap, cs, te, m1, m2, m3, m4, m5, m6⟩ := hob
  have m0 := m1
  rw [u2] at m0
  injection m0 with m0
  injection m0 with e1 e2 e3
  subst e1 e2 e3
  have hob2 := hr.objs o2
  rw [hag.ob o2 (by simp), ho2] at hob2
  obtain ⟨b2, cap2, cs2, te2, l1, l2, l3, l4, l5, l6⟩ := hob2
  have l0 := l1
  have g2' : G.hdr o2 = some (.slice ad2 n2 c2) := g2
  rw [g2'] at l0
  injection l0 with l0
  injection l0 with e1 e2 e3
  subst e1 e2 e3
  obtain ⟨hu, i, hi, hby, hsz⟩ := sl.spec
  obtain ⟨i', zcs, k1, k2, k3⟩ := hz.ok
  rw [hi] at k1
  injection k1 with k1
  subst k1
  have hsp := Enc.size_pos (α := α)
  obtain ⟨n1, n3, n4⟩ := arr_news (o := o2) l2 l3 l4 l5
  generalize hnw : cs2.take (ys.length * Enc.size α) = news at n1 n3 n4
  have hexec : ∀ (u : Value) (w' : World), (Builtin.append_ #[t, t2] T #[.slice (some ⟨b, 0, none⟩) xs.length c0, .slice (some ⟨b2, 0, none⟩) ys.length c2]).run P w = .ok u w' →
      (execOp a.eval ⟨some d, .call { callee := .builtin .append, args := #[x, y], argTypes := #[t, t2] }, T, pos, aft, none⟩).run P w = .ok (.value u) w' := by
    intro u w' h
    simp only [execOp, resolve, invoke, builtin, List.map_toArray, List.map_cons, List.map_nil, Sem.run_bind, Sem.run_pure, Result.andThen_ok, u1, v1, h]
  unfold Oper.wp
  have hys : ys.length = 0 ∨ ∃ b o, (some ⟨b2, 0, none⟩ : Option Addr) = some ⟨b, o, none⟩ ∧ ∀ j u, news[j]? = some u → cl w b (o + j) = some u := .inr ⟨b2, 0, rfl, n4⟩
  have hfree : st1.ob o' = .free := by rw [hag.ob o' (by simp)]; exact ho'
  have hhd : G.hdr o' = none := by have := hr.objs o'; rw [hfree] at this; exact this
  have hobo : st1.ob o2 = .arr ys := by rw [hag.ob o2 (by simp)]; exact ho2
  have hfin : ∀ {G' w'} {x' : Obj} {u : Value}, RelSt G' w' a (((st1.upd [] [(o, .dead)]).upd [] [(o2, .dead)]).upd [] [(o', x')]) → RelV G' w' (.tmp d, []) (.v (NRef.ref o')) u →
      RelSt G' w' (a.put (some d) u) (st1.upd [(d, some (.v (NRef.ref o')))] [(o, .dead), (o2, .dead), (o', x')]) := by
    intro G' w' x' u h hv
    have := h.put (av := some (.v (NRef.ref o'))) hd' hv
    have e : (((st1.upd [] [(o, .dead)]).upd [] [(o2, .dead)]).upd [] [(o', x')]).upd [(d, some (.v (NRef.ref o')))] [] = st1.upd [(d, some (.v (NRef.ref o')))] [(o, .dead), (o2, .dead), (o', x')] := by
      unfold St.upd
      congr 1
      funext k
      simp only [lk]
      by_cases ek : k = o
      · subst ek; simp [hne, Ne.symm hoo', orr]
      · by_cases ek2 : k = o2
        · subst ek2; simp [ek, hne2, orr]
        · by_cases ek' : k = o' <;> simp [ek, ek2, ek', orr, Ne.symm hne, Ne.symm hne2]
    rw [e] at this; exact this
  by_cases hroom : xs.length + ys.length ≤ c0
  · -- in place
    have hle : xs.length * i.size + news.length ≤ cs.length := by
      rw [n1, hsz, ← Nat.add_mul]
      exact Nat.le_trans (Nat.mul_le_mul_right _ hroom) m4
    rw [hexec _ _ (run_app_row w t t2 T E E2 te i hu ht2 hi b xs.length c0 (some ⟨b2, 0, none⟩) ys.length c2 news cs (by rw [n1, hsz]) hys n3 hroom m2 hle)]
    simp only [Oper.upon]
    have hnp : 0 < news.length := by rw [n1]; exact Nat.mul_pos hp hsp
    generalize hcs' : cs.take (xs.length * i.size) ++ news ++ cs.drop (xs.length * i.size + news.length) = cs'
    have hlen : cs'.length = cs.length := by rw [← hcs']; simp; omega
    have hw : Wr G w o b cs cs' te := ⟨m2, m6, hlen, by omega⟩
    have h1 := (hr.write hw (x' := .dead) trivial).kill o2
    have h2 := h1.rlA (o := o) (o2 := o2) (o' := o') (n := xs.length) (by simp [St.upd, lk, orr, Ne.symm hoo']) (by simp [St.upd, lk, orr])
    have hcl : (w.setRow b cs'.toArray).heap[b]? = some (.cells cs'.toArray te (0, 0)) := setRow_heap _ _ _ _ _ _ m2
    have hfr : ((st1.upd [] [(o, Obj.dead)]).upd [] [(o2, Obj.dead)]).ob o' = .free := by simp [St.upd, lk, orr, Ne.symm hne, Ne.symm hne2]; exact hfree
    have hhm : ∀ q v', G.hdr q = some v' → ((G.rlA o o2 o' xs.length).hd o' (.slice (some ⟨b, 0, none⟩) (xs.length + ys.length) c0)).hdr q = some v' := fun q v' hv => by
      have hne' : q ≠ o' := by rintro rfl; rw [hhd] at hv; cases hv
      simp [Gh.hd, Gh.rlA, hne', hv]
    have hshw : Sh G w ((G.rlA o o2 o' xs.length).hd o' (.slice (some ⟨b, 0, none⟩) (xs.length + ys.length) c0)) (w.setRow b cs'.toArray) := fun b' i v h1 h2 => by
      obtain ⟨q1, q2⟩ := hw.sh b' i v h1 h2
      exact ⟨by simp [Gh.hd, Gh.rlA, h1], q2⟩
    have h3 := h2.sethdr hfr (.slice (some ⟨b, 0, none⟩) (xs.length + ys.length) c0) (x := .arr (xs ++ ys)) ?_
    · refine hK _ _ _ (hfin h3 ⟨_, ⟨_, _, _, rfl, by simp [Gh.hd]⟩, rfl⟩) ((hw.keep S).trans ((Keep.rlA S _ _ o o2 o' xs.length).trans (Keep.hd (by simp [Gh.rlA]; exact hhd))))
    · refine ⟨b, c0, cs', te, by simp [Gh.hd], hcl, by simpa using hroom, by rw [hlen]; exact m4, fun k x' hk => ?_, fun j hj => ?_⟩
      · by_cases hkx : k < xs.length
        · rw [List.getElem?_append_left hkx] at hk
          obtain ⟨ce, r1, r2⟩ := m5 k x' hk
          refine ⟨ce, Enc.mono hshw (fun b' j π v hnv q1 q2 => ?_) (fun q _ v' hv => hhm q v' hv) r1, fun j v hj => ?_⟩
          · obtain ⟨p1, p2, p3⟩ := hw.ow (ω := (.obj o, [k])) (by simp) b' j π v hnv q1 q2
            exact ⟨by simp [Gh.hd, Gh.rlA, Wt.rlA, show G.own b' j = _ from q1], p2, p3⟩
          · have hjl : j < Enc.size α := by rw [← Enc.len r1]; exact getElem?_lt hj
            have hlt := lt_mul_of hkx hjl
            have hl2 : (cs.take (xs.length * i.size)).length = xs.length * i.size := by simp; omega
            rw [← hcs', List.append_assoc, List.getElem?_append_left (by rw [hl2, hsz]; exact hlt), List.getElem?_take, if_pos (by rw [hsz]; exact hlt)]
            exact r2 j v hj
        · rw [List.getElem?_append_right (by omega)] at hk
          obtain ⟨ce, r1, r2⟩ := l5 _ x' hk
          refine ⟨ce, Enc.mono hshw (fun b' j π v hnv q1 q2 => ?_) (fun q _ v' hv => hhm q v' hv) r1, fun j v hj => ?_⟩
          · obtain ⟨p1, p2, p3⟩ := hw.ow (ω := (.obj o2, [k - xs.length])) (by simp) b' j π v hnv q1 q2
            refine ⟨?_, p2, p3⟩
            have e9 : xs.length + (k - xs.length) = k := by omega
            simp [Gh.hd, Gh.rlA, Wt.rlA, show G.own b' j = _ from q1, hoo', e9]
          · have hjl : j < Enc.size α := by rw [← Enc.len r1]; exact getElem?_lt hj
            have hlt := lt_mul_of (getElem?_lt hk) hjl
            have e2 : k * Enc.size α + j = xs.length * i.size + ((k - xs.length) * Enc.size α + j) := by
              rw [hsz]
              have : k * Enc.size α = xs.length * Enc.size α + (k - xs.length) * Enc.size α := by rw [← Nat.add_mul]; congr 1; omega
              omega
            have hl2 : (cs.take (xs.length * i.size)).length = xs.length * i.size := by simp; omega
            rw [e2, ← hcs', List.append_assoc, List.getElem?_append_right (by rw [hl2]; omega), hl2, Nat.add_sub_cancel_left, List.getElem?_append_left (by rw [n1]; exact hlt), ← hnw, List.getElem?_take, if_pos hlt]
            exact r2 j v hj
      · have := m6 j (by rw [← hlen]; exact hj)
        simp [Gh.hd, Gh.rlA, Wt.rlA, this]
  · -- grown
    have holds : xs.length = 0 ∨ ∃ b' o'', (some ⟨b, 0, none⟩ : Option Addr) = some ⟨b', o'', none⟩ ∧ ∀ j u, (cs.take (xs.length * i.size))[j]? = some u → cl w b' (o'' + j) = some u := by
      right
      refine ⟨b, 0, rfl, fun j u hj => ?_⟩
      rw [List.getElem?_take] at hj
      split at hj
      · rw [cl_row m2, Nat.zero_add]; exact hj
      · cases hj
    have hmc : xs.length * i.size ≤ cs.length := by rw [hsz]; exact Nat.le_trans (Nat.mul_le_mul_right _ m3) m4
    have hlo : (cs.take (xs.length * i.size)).length = xs.length * i.size := by simp; omega
    have hg : c0 < xs.length + ys.length := by omega
    have hb' : (xs.length + ys.length) * i.bytes ≤ 140737488355328 := by rw [hby]; exact hb
    rw [hexec _ _ (run_app_grow w t t2 T E E2 i (Enc.val α zcs) hu ht2 hi k2 (some ⟨b, 0, none⟩) xs.length c0 (cs.take (xs.length * i.size)) hlo holds (some ⟨b2, 0, none⟩) ys.length c2 news (by rw [n1, hsz]) hys hg (by omega) hb')]
    simp only [Oper.upon]
    have hge := grownCap_ge w (xs.length + ys.length) c0 E
    have harr : (cs.take (xs.length * i.size) ++ news ++ (Builtin.zeroCells (Enc.val α zcs).cells (grownCap w (xs.length + ys.length) c0 E - (xs.length + ys.length))).toList).toArray = (cs.take (xs.length * i.size)).toArray ++ news.toArray ++ Builtin.zeroCells (Enc.val α zcs).cells (grownCap w (xs.length + ys.length) c0 E - (xs.length + ys.length)) := by
      apply Array.ext'
      simp
    rw [← harr]
    generalize hcs' : cs.take (xs.length * i.size) ++ news ++ (Builtin.zeroCells (Enc.val α zcs).cells (grownCap w (xs.length + ys.length) c0 E - (xs.length + ys.length))).toList = cs'
    have hl' : grownCap w (xs.length + ys.length) c0 E * Enc.size α ≤ cs'.length := by
      rw [← hcs']
      have hvz : (Enc.val α zcs).cells.size = Enc.size α := Enc.val_size (k3 G w ω0)
      have hlo' : (cs.take (xs.length * i.size)).length = xs.length * Enc.size α := by rw [hlo, hsz]
      simp only [List.length_append, hlo', n1, Array.length_toList, size_zeroCells, hvz, ← Nat.add_mul]
      refine Nat.mul_le_mul_right _ ?_
      omega
    have q0 := ((hr.drew.kill o).kill o2).newblk (.cells cs'.toArray E) (fun _ => some (.blk o', []))
    have q1 := q0.rlA (o := o) (o2 := o2) (o' := o') (n := xs.length) (by simp [St.upd, lk, orr, Ne.symm hoo']) (by simp [St.upd, lk, orr])
    have hfr : ((st1.upd [] [(o, Obj.dead)]).upd [] [(o2, Obj.dead)]).ob o' = .free := by simp [St.upd, lk, orr, Ne.symm hne, Ne.symm hne2]; exact hfree
    have hstep : ∀ {o0 k k' : Nat} {x' : α} {ce : List Value}, Ow G w (.obj o0, [k]) (G.rlA o o2 o' xs.length) w (.obj o', [k']) never → Enc.rd G w (.obj o0, [k]) x' ce →
        Enc.rd (((G.blk w.drew.heap.size fun _ => some (.blk o', [])).rlA o o2 o' xs.length).hd o' (.slice (some ⟨w.drew.heap.size, 0, none⟩) (xs.length + ys.length) (grownCap w (xs.length + ys.length) c0 E))) (w.drew.alloc (.cells cs'.toArray E)) (.obj o', [k']) x' ce := fun {o0 k k' x' ce} how r1 => by
      have p1 : Enc.rd G w.drew (.obj o0, [k]) x' ce := Enc.mono (G := G) (w := w) (fun _ _ _ h1 h2 => ⟨h1, h2⟩) (fun _ _ _ _ _ h1 h2 => ⟨h1, h2, id⟩) (fun _ _ _ h => h) r1
      have p2 : Enc.rd (G.blk w.drew.heap.size fun _ => some (.blk o', [])) (w.drew.alloc (.cells cs'.toArray E)) (.obj o0, [k]) x' ce := Enc.mono Sh.blk Ow.blk (fun _ _ _ h => h) p1
      refine Enc.mono (fun b i v h1 h2 => ⟨by show Option.map _ ((G.blk w.drew.heap.size fun _ => some ((.blk o', []) : Owner)).own b i) = none; rw [h1]; rfl, h2⟩) (fun b' j π v hnv a1 a2 => ?_) (fun q _ v' hv => ?_) p2
      · refine ⟨?_, a2, id⟩
        by_cases eb : b' = w.drew.heap.size
        · exfalso
          have : (G.blk w.drew.heap.size fun _ => some ((.blk o', []) : Owner)).own b' j = some (.blk o', []) := by simp [Gh.blk, eb]
          rw [this] at a1
          simp at a1
        · have a1' : G.own b' j = some (.obj o0, [k] ++ π) := by
            have h9 : (G.blk w.drew.heap.size fun _ => some ((.blk o', []) : Owner)).own b' j = G.own b' j := by show (if b' = w.drew.heap.size then _ else _) = _; rw [if_neg eb]
            rw [← h9]; exact a1
          have a2' : cl w b' j = some v := by
            have : cl (w.drew.alloc (.cells cs'.toArray E)) b' j = cl w.drew b' j := by
              have hlt := lt_of_cl a2
              have hb9 : b' < w.drew.heap.size := by
                have : (w.drew.alloc (.cells cs'.toArray E)).heap.size = w.drew.heap.size + 1 := by simp [World.alloc]
                omega
              exact cl_of_block (heap_alloc_lt hb9) j
            rw [this] at a2
            exact a2
          obtain ⟨c1, _, _⟩ := how b' j π v hnv a1' a2'
          have : ((G.blk w.drew.heap.size fun _ => some ((.blk o', []) : Owner)).rlA o o2 o' xs.length).own b' j = (G.rlA o o2 o' xs.length).own b' j := by show Option.map _ (if b' = w.drew.heap.size then _ else _) = _; rw [if_neg eb]; rfl
          show ((G.blk w.drew.heap.size fun _ => some ((.blk o', []) : Owner)).rlA o o2 o' xs.length).own b' j = _
          rw [this]; exact c1
      · have hv' : G.hdr q = some v' := hv
        have hne' : q ≠ o' := by rintro rfl; rw [hhd] at hv'; cases hv'
        simp [Gh.hd, Gh.rlA, Gh.blk, hne', hv']
    have q3 := q1.sethdr hfr (.slice (some ⟨w.drew.heap.size, 0, none⟩) (xs.length + ys.length) (grownCap w (xs.length + ys.length) c0 E)) (x := .arr (xs ++ ys)) ?_
    · exact hK _ _ _ (hfin q3 ⟨_, ⟨_, _, _, rfl, by simp [Gh.hd]⟩, rfl⟩) (((Keep.drew S G w).trans (Keep.blk S)).trans ((Keep.rlA S _ _ o o2 o' xs.length).trans (Keep.hd (by simp [Gh.rlA, Gh.blk]; exact hhd))))
    · refine ⟨w.drew.heap.size, grownCap w (xs.length + ys.length) c0 E, cs', E, by simp [Gh.hd], heap_alloc_eq _ _, by simpa using hge, hl', fun k x' hk => ?_, fun j hj => by simp [Gh.hd, Gh.rlA, Gh.blk, Wt.rlA]⟩
      have hlo' : (cs.take (xs.length * i.size)).length = xs.length * Enc.size α := by rw [hlo, hsz]
      by_cases hkx : k < xs.length
      · rw [List.getElem?_append_left hkx] at hk
        obtain ⟨ce, r1, r2⟩ := m5 k x' hk
        refine ⟨ce, hstep Ow.rlA_fst r1, fun j v hj => ?_⟩
        have hjl : j < Enc.size α := by rw [← Enc.len r1]; exact getElem?_lt hj
        have hlt := lt_mul_of hkx hjl
        rw [← hcs', List.append_assoc, List.getElem?_append_left (by rw [hlo']; exact hlt), List.getElem?_take, if_pos (by rw [hsz]; exact hlt)]
        exact r2 j v hj
      · rw [List.getElem?_append_right (by omega)] at hk
        obtain ⟨ce, r1, r2⟩ := l5 _ x' hk
        have how := Ow.rlA_snd (G := G) (w := w) (o := o) (o2 := o2) (o' := o') (n := xs.length) (k := k - xs.length) hoo'
        rw [show xs.length + (k - xs.length) = k by omega] at how
        refine ⟨ce, hstep how r1, fun j v hj => ?_⟩
        have hjl : j < Enc.size α := by rw [← Enc.len r1]; exact getElem?_lt hj
        have hlt := lt_mul_of (getElem?_lt hk) hjl
        have e2 : k * Enc.size α + j = xs.length * Enc.size α + ((k - xs.length) * Enc.size α + j) := by
          have : k * Enc.size α = xs.length * Enc.size α + (k - xs.length) * Enc.size α := by rw [← Nat.add_mul]; congr 1; omega
          omega
        rw [e2, ← hcs', List.append_assoc, List.getElem?_append_right (by rw [hlo']; omega), hlo', Nat.add_sub_cancel_left, List.getElem?_append_left (by rw [n1]; exact hlt), ← hnw, List.getElem?_take, if_pos hlt]
        exact r2 j v hj
end Go.Wt

/- Parking of a list's room: a certificate while it is built. -/
set_option linter.unusedVariables false
set_option linter.unusedSimpArgs false
namespace Go.Wt
open Go
variable {P : Program} {S : Nat → Prop} {ops : Array Oper} {st : St}
structure CertH where
  chain : List Itm
  by_ : HList (List Int)
instance : Enc CertH := isoEnc (fun p => (p.chain, p.by_)) (fun q => ⟨q.1, q.2⟩) (fun _ => rfl) true (fun h => by cases h)
instance : Plain CertH := plain_iso _ _ _ (fun _ => rfl) _ _
/-- A variable is seen in another way. -/
theorem awp_recell {c : Code} {Q : Exit → St → Prop} {o tb : Nat} {α β : Type} [Enc α] [Enc β] {x : α} {y : β} (ho : st.ob o = .cell x) (htb : st.tm tb = some (.box o (IsLens.whole α)))
    (hc : ∀ (G : Gh) (w : Go.World) (ω : Owner) (cs : List Value), Enc.rd G w ω x cs → Enc.rd G w ω y cs)
    (k : awp P S c Q (st.upd [(tb, some (.box o (IsLens.whole β)))] [(o, .cell y)])) : awp P S c Q st := fun G w a hr => by
  have hob := hr.objs o
  rw [ho] at hob
  obtain ⟨b', cs, e, k1, k2, k3, k4⟩ := hob
  refine k G w a ⟨hr.defers, hr.size, fun q => ?_, fun j => ?_⟩
  · show RelT _ _ _ (orr (lk [(tb, _)] q) (st.tm q)) (a.tmps.getD q undef)
    simp only [lk]
    by_cases eb : q = tb
    · subst eb
      rw [if_pos rfl]
      have := hr.tmps q
      rw [htb] at this
      exact this
    · rw [if_neg eb]
      exact hr.tmps q
  · show RelO _ _ j (orr (lk [(o, _)] j) (st.ob j))
    simp only [lk]
    by_cases ek : j = o
    · subst ek
      rw [if_pos rfl]
      exact ⟨b', cs, e, k1, k2, hc _ _ _ _ k3, k4⟩
    · rw [if_neg ek]
      exact hr.objs j
/-- A guarded operation whose guard says yes, whatever is known of it. -/
theorem awpOps_on {j t : Nat} {b : Bool} {dst op T pos aft} {l : List Oper} {Q : St → Prop} (hj : (ops[j]?).bind (·.dst) = some t) (ht : st.tm t = some (.v b)) (hl : Nat.blt t st.n = true) (h : awpOps P S ops (⟨dst, op, T, pos, aft, none⟩ :: l) Q st) :
    awpOps P S ops (⟨dst, op, T, pos, aft, some (j, b)⟩ :: l) Q st := by
  intro G w a hr Q' hQ
  have h1 := h G w a hr Q' hQ
  have hv := hr.tmps t
  rw [ht] at hv
  have hy := yielded_eq hj (RelV.bool hv) (by rw [hr.size]; simpa using hl)
  unfold wpList at h1 ⊢
  rw [if_pos (by simp [Region.wanted])] at h1
  rw [if_pos (by simp [Region.wanted, hy])]
  exact h1
end Go.Wt

/- Calls that make rows; structs built of a list with its room. -/
set_option linter.unusedVariables false
set_option linter.unusedSimpArgs false
namespace Go.Wt
open Go
variable {P : Program} {S : Nat → Prop} {ops : Array Oper} {st : St}
/-- A call that takes no objects, and makes some. -/
theorem op_callN {d : Nat} {T pos aft} {f : FuncId} {xs : List Operand} {av : List AV} {ts : Array TypeId} {rt : List Nat} {ol' : List (Nat × Obj)} {r : AV}
    (hB : fnB P f = true) (ha : Args st 0 xs av rt) (hct : Ct P f av noObj (fun r1 h1 => r1 = r ∧ h1 = obs ol')) (hdis : ∀ z ∈ av, z.dis = z ∧ ∀ o ∈ z.refs, false = true)
    (hfree : ∀ o, keys ol' o = true → o ∈ ol'.map (·.1) ∧ st.ob o = .free) (hok' : OKs (keys ol') ol') (hrr : ∀ o ∈ r.refs, keys ol' o = true) (hn : Nat.blt d st.n = true) :
    OpOk P S ops ⟨some d, .call { callee := .value (.func f), args := xs.toArray, argTypes := ts }, T, pos, aft, none⟩ rt (ol'.map (·.1)) [(d, some r)] ol' st := by
  intro st1 hag G w a hr K Q hK
  have hd : d < st1.n := by rw [hag.n]; simpa using hn
  have hct' : Ct P f (avs [] ++ av ++ avs []) (pass (keys ([] : List (Nat × Obj))) st.ob) (fun r1 h1 => r1 = r ∧ h1 = obs ol') := by
    have e1 : avs [] ++ av ++ avs [] = av := by simp [avs]
    rw [e1, pass_obs (ol := []) trivial]; exact hct
  refine call_core (x := .func f) (fa := []) (fc := []) (rt := rt) (p := keys ([] : List (Nat × Obj))) (ob := st.ob) rfl ha hB hct' (fun z hz => hdis z (by simpa [avs] using hz)) (fun o ho => by cases ho) ⟨hag.n, hag.tm, fun o ho => hag.ob o ho⟩ (fun t ht => by simpa [opT] using ht) (fun o ho => by cases ho) hr hd ?_
  rintro r1 h' u G2 w2 ⟨rfl, rfl⟩ hv ho hkp
  obtain ⟨k1, k2⟩ := leave_spec (q := keys ol') hr hd (fun o h => by cases h) (fun o h1 _ => by rw [hag.ob o (hfree o h1).1]; exact (hfree o h1).2) (fun o hq => by
      unfold keys at hq; unfold obs
      cases hx : lk0 ol' o with
      | none => rfl
      | some y => rw [hx] at hq; cases hq) hrr (fun o => by
        unfold obs
        cases hx : lk0 ol' o with
        | none => trivial
        | some y => exact hok'.get hx) hv ho hkp
  refine hK _ _ _ ?_ (k2 S)
  have e : (⟨st1.n, fun t => if t = d then some r1 else st1.tm t, merge (keys ol') st1.ob (obs ol')⟩ : St) = st1.upd [(d, some r1)] ol' := by
    unfold St.upd merge
    congr 1
    · funext t
      simp only [lk]
      by_cases e : t = d <;> simp [e, orr]
    · funext o
      rw [lk_lk0]
      unfold keys obs
      cases hx : lk0 ol' o <;> simp [orr]
  rw [e] at k1
  exact k1
/-! ### A world that is built -/
structure WrldH where
  epoch : Int
  nodes : NRef
  log : HList Vote
  bad : Int
instance : Enc WrldH := isoEnc (fun p => (p.epoch, p.nodes, p.log, p.bad)) (fun q => ⟨q.1, q.2.1, q.2.2.1, q.2.2.2⟩) (fun _ => rfl) true (fun h => by cases h)
instance : Disl WrldH := ⟨fun _ => rfl⟩
def WrldH.zero : WrldH := ⟨0, .nil, ⟨[], .slice none 0 0⟩, 0⟩
instance {α : Type} [Enc α] [Plain α] : ZCells (HList α) ⟨[], .slice none 0 0⟩ := ⟨[.slice none 0 0], fun _ _ _ => ⟨rfl, none, 0, rfl, Nat.le_refl _, .inl rfl⟩⟩
instance : ZCells WrldH .zero := ⟨ZCells.cs (Int × NRef × HList Vote × Int), fun G w ω => ZCells.rd (α := Int × NRef × HList Vote × Int) G w ω⟩
theorem WrldH.l0 : IsLens WrldH.epoch (fun x y => { x with epoch := y }) 0 [0] := (IsLens.fst Int (NRef × HList Vote × Int)).iso (fun _ => rfl) (fun _ _ => rfl)
theorem WrldH.l2 : IsLens WrldH.log (fun x y => { x with log := y }) 2 [1, 1, 0] := ((IsLens.snd Int (NRef × HList Vote × Int)).comp ((IsLens.snd _ _).comp (IsLens.fst _ _))).iso (fun _ => rfl) (fun _ _ => rfl)
theorem WrldH.l3 : IsLens WrldH.bad (fun x y => { x with bad := y }) 3 [1, 1, 1] := ((IsLens.snd Int (NRef × HList Vote × Int)).comp ((IsLens.snd _ _).comp (IsLens.snd _ _))).iso (fun _ => rfl) (fun _ _ => rfl)
/-- Between: a list's room is parked in a temporary that holds a word. -/
theorem parkW {t r : Nat} {α : Type} [Enc α] [Plain α] {l : List α} (hne : Nat.beq t r = false) (ht : st.tm t = some (.v (OList.mk l true))) (h1 : ∀ G w a, RelSt G w a st → (a.tmps.getD r undef).oneCell' = true) :
    ∀ G w a, RelSt G w a st → ∃ hv G', RelSt G' w a (st.upd [(t, some (.v (HList.mk l hv))), (r, some (.v (Room.mk (α := α) hv true)))] []) ∧ Keep S G w G' w := by
  intro G w a hr
  have hne' : t ≠ r := fun e => by rw [e] at hne; simp at hne
  have hone := h1 G w a hr
  have h1 := hr.tmps t
  rw [ht] at h1
  obtain ⟨cs, ⟨aa, cap, g1, g2, g3, g4⟩, q2⟩ := h1
  refine ⟨.slice aa l.length cap, G.mv (.tmp t, []) (.tmp r, []), ⟨hr.defers, hr.size, fun q => ?_, fun k => ?_⟩, Keep.mv S (by simp) (by simp)⟩
  · show RelT _ _ _ (orr (lk [(t, _), (r, _)] q) (st.tm q)) (a.tmps.getD q undef)
    simp only [lk]
    by_cases eq : q = t
    · subst eq
      rw [if_pos rfl]
      exact ⟨cs, ⟨g1, aa, cap, rfl, g2, g3.mono Sh.mv⟩, q2⟩
    · rw [if_neg eq]
      by_cases eq2 : q = r
      · subst eq2
        rw [if_pos rfl]
        refine ⟨[a.tmps.getD q undef], ⟨⟨_, rfl, hone⟩, fun _ a k cap' e => ?_⟩, rfl⟩
        injection e with e1 e2 e3
        subst e1 e2 e3
        exact (g4 rfl).mono (Ow.mv_src (G := G) (w := w) (s := (.tmp t, [])) (d := (.tmp q, [])))
      · rw [if_neg eq2]
        exact (hr.tmps q).mono Sh.mv (Ow.mv_other (by simpa using eq) (by simpa using eq2)) (fun _ _ _ h => h)
  · obtain ⟨T', hT⟩ := Obj.refs_all (st.ob k)
    exact (hr.objs k).pres Sh.mv (fun _ _ _ h => h) hT (PresO.mv (by simp) (by simp) (by simp) (by simp))
/-- The room comes back into a world. -/
theorem unparkW {G : Gh} {w : Go.World} {a : Act} {d s r : Nat} {e bd : Int} {nr : NRef} {l : List Vote} {hv : Value} (hne : d ≠ r) (hr : RelSt G w a st) (hs : st.tm d = some (.v (WrldH.mk e nr ⟨l, hv⟩ bd))) (hq : st.tm r = some (.v (Room.mk (α := Vote) hv true))) :
    RelSt (G.mv (.tmp r, []) (.tmp d, [1, 1, 0])) w a (st.upd [(d, some (.v (WrldS.mk e nr ⟨l, true⟩ bd))), (s, none), (r, none)] []) := by
  have h1 := hr.tmps d
  rw [hs] at h1
  obtain ⟨cs, ⟨c1, c2, rfl, r1, ⟨c3, c4, rfl, r3, ⟨c5, c6, rfl, ⟨e0, aa, cap, g1, g2, g3⟩, r6⟩⟩⟩, q2⟩ := h1
  have h2 := hr.tmps r
  rw [hq] at h2
  obtain ⟨ds, d1, d2⟩ := h2
  refine ⟨hr.defers, hr.size, fun q => ?_, fun k => ?_⟩
  · show RelT _ _ _ (orr (lk [(d, _), (s, none), (r, none)] q) (st.tm q)) (a.tmps.getD q undef)
    simp only [lk]
    by_cases eq : q = d
    · subst eq
      rw [if_pos rfl]
      refine ⟨_, ⟨c1, _, rfl, r1, c3, _, rfl, Disl.mono Sh.mv (fun _ _ _ h => h) r3, c5, _, rfl, ⟨aa, cap, by rw [e0]; exact congrArg (fun x => [x]) g1, g2, g3.mono Sh.mv, fun _ => ?_⟩, r6⟩, q2⟩
      have := (d1.2 rfl aa _ cap g1).mono (Ow.mv_src (G := G) (w := w) (s := (.tmp r, [])) (d := (.tmp q, [1, 1, 0])))
      simpa [Owner.sub] using this
    · rw [if_neg eq]
      by_cases es : q = s
      · subst es; rw [if_pos rfl]; trivial
      rw [if_neg es]
      by_cases e2 : q = r
      · subst e2; rw [if_pos rfl]; trivial
      · rw [if_neg e2]
        exact (hr.tmps q).mono Sh.mv (Ow.mv_other (by simpa using e2) (by simpa using eq)) (fun _ _ _ h => h)
  · obtain ⟨T', hT⟩ := Obj.refs_all (st.ob k)
    exact (hr.objs k).pres Sh.mv (fun _ _ _ h => h) hT (PresO.mv (by simp) (by simp) (by simp) (by simp))
theorem op_buildW {d s r : Nat} {T pos aft} {t : TypeId} {parts : List (Nat × Operand)} {rt : List Nat} {l : List Vote} {e bd : Int} (hsr : Nat.beq s r = false) (hdr : Nat.beq d r = false)
    (hs : st.tm s = some (.v (OList.mk l true))) (h1 : ∀ st1 : St, st1.tm r = st.tm r → ∀ G w a, RelSt G w a st1 → (a.tmps.getD r undef).oneCell' = true)
    (hp : ∀ hv, Parts P t (st.upd [(s, some (.v (HList.mk l hv))), (r, some (.v (Room.mk (α := Vote) hv true)))] []) parts WrldH.zero (WrldH.mk e .nil ⟨l, hv⟩ bd) rt) (hz : ZeroOk P t WrldH.zero) (hpl : plB P t = true) (hn : Nat.blt d st.n = true) :
    OpOk P S ops ⟨some d, .build t parts.toArray, T, pos, aft, none⟩ ([s, r] ++ rt) [] [(d, some (.v (WrldS.mk e .nil ⟨l, true⟩ bd))), (s, none), (r, none)] [] st := by
  intro st1 hag G w a hr K Q hK
  have hdr' : d ≠ r := fun e => by rw [e] at hdr; simp at hdr
  obtain ⟨hv, G', p1, p2⟩ := parkW (S := S) (t := s) (r := r) hsr (by rw [hag.tm s (by simp)]; exact hs) (h1 st1 (hag.tm r (by simp))) G w a hr
  refine (op_build (S := S) (ops := ops) (pos := pos) (aft := aft) (T := T) (hp hv) hz rfl hpl hn) (st1.upd [(s, some (.v (HList.mk l hv))), (r, some (.v (Room.mk (α := Vote) hv true)))] []) ⟨hag.n, fun t ht => ?_, fun o ho => by cases ho⟩ G' w a p1 K Q fun a' w' G'' k1 k2 => ?_
  · show orr (lk [(s, _), (r, _)] t) (st1.tm t) = orr (lk [(s, _), (r, _)] t) (st.tm t)
    rw [hag.tm t (by simp [ht])]
  · have := unparkW (s := s) (d := d) (r := r) (e := e) (bd := bd) (nr := .nil) (l := l) (hv := hv) hdr' k1 (by show orr (lk [(d, _)] d) _ = _; simp [lk, orr]) (by show orr (lk [(d, _)] r) (orr (lk [(s, _), (r, _)] r) _) = _; simp [lk, orr, Ne.symm hdr', Ne.symm (fun e => by rw [e] at hsr; simp at hsr : s ≠ r)])
    refine hK _ _ (G''.mv (.tmp r, []) (.tmp d, [1, 1, 0])) ?_ ((p2.trans k2).trans (Keep.mv S (by simp) (by simp)))
    have e9 : ((st1.upd [(s, some (AV.v (HList.mk l hv))), (r, some (.v (Room.mk (α := Vote) hv true)))] []).upd [(d, some (.v (WrldH.mk e .nil ⟨l, hv⟩ bd)))] []).upd [(d, some (.v (WrldS.mk e .nil ⟨l, true⟩ bd))), (s, none), (r, none)] [] = st1.upd [(d, some (.v (WrldS.mk e .nil ⟨l, true⟩ bd))), (s, none), (r, none)] [] := by
      unfold St.upd
      congr 1
      funext q
      simp only [lk]
      by_cases a1 : q = d
      · subst a1; simp [orr]
      · by_cases a2 : q = s
        · subst a2; simp [a1, orr]
        · by_cases a3 : q = r
          · subst a3; simp [a1, a2, orr]
          · simp [a1, a2, a3, orr]
    rw [e9] at this
    exact this
theorem nod_fN {G : Gh} {w : Go.World} {ω : Owner} {n : Nod} {cs : List Value} (h : Enc.rd G w ω n cs) : Enc.rd G w ω (fN n) cs := by
  obtain ⟨c1, c2, rfl, r1, ⟨c3, c4, rfl, r3, ⟨c5, c6, rfl, r5, ⟨a, cap, h1, h2, h3⟩⟩⟩⟩ := h
  exact ⟨c1, _, rfl, r1, c3, _, rfl, r3, c5, _, rfl, r5, ⟨a, cap, h1, h2, h3, fun h => by cases h⟩⟩
/-- What a box's temporary holds is a word. -/
theorem one_box {r o : Nat} {α γ : Type} [Enc α] [Enc γ] {get : α → γ} {set : α → γ → α} {off : Nat} {pth : List Nat} {L : IsLens get set off pth} (h : st.tm r = some (.box o L)) :
    ∀ st1 : St, st1.tm r = st.tm r → ∀ G w a, RelSt G w a st1 → (a.tmps.getD r undef).oneCell' = true := fun st1 e G w a hr => by
  have := hr.tmps r
  rw [e, h] at this
  obtain ⟨b, _, h2⟩ := this
  rw [h2]; rfl
end Go.Wt

/- What happens in a world in form. -/
set_option linter.unusedVariables false
set_option linter.unusedSimpArgs false
namespace Go.Wt
/-- What a node does when it hears `v`, or proposes. -/
structure NS (n : Nod) (v : Option Vote) (x : Nod × Vote × Bool) : Prop where
  id : x.1.id = n.id
  ep : x.1.epoch = n.epoch
  seen : ∃ N, x.1.seen = n.seen ++ N ∧ ∀ u ∈ N, some u = v ∨ (x.2.2 = true ∧ u = x.2.1)
  by_ : x.2.2 = true → x.2.1.by_ = n.id
/-- What is sent: at most one more. -/
def Sn (w w' : Wrld) (p : Vote → Prop) : Prop := w'.log = w.log ∨ ∃ v, w'.log = w.log ++ [v] ∧ p v
/-- What a world becomes. -/
structure Stp (w w' : Wrld) : Prop where
  ok : WOk w'
  bad : w'.bad = w.bad
  ep : w.epoch ≤ w'.epoch ∧ w'.epoch ≤ w.epoch + 1
  log : Sn w w' (fun _ => True)
  seen : ∀ (i : Nat) (n : Nod), w.nodes[i]? = some n → ∃ n' N, w'.nodes[i]? = some n' ∧ n'.seen = n.seen ++ N
end Go.Wt

/- Parking of a world's room. -/
set_option linter.unusedVariables false
set_option linter.unusedSimpArgs false
namespace Go.Wt
open Go
variable {P : Program} {S : Nat → Prop} {ops : Array Oper} {st : St}
theorem parkCW_rd {G : Gh} {w : Go.World} {ω D : Owner} {e bd : Int} {nr : NRef} {l : List Vote} {cs : List Value} (h : Enc.rd G w ω (WrldS.mk e nr ⟨l, true⟩ bd) cs) :
    ∃ hv, Enc.rd (G.mv (Owner.sub ω [1, 1, 0]) D) w ω (WrldH.mk e nr ⟨l, hv⟩ bd) cs ∧ ∀ a k cap, hv = .slice a k cap → Tail (G.mv (Owner.sub ω [1, 1, 0]) D) w D a (k * Enc.size Vote) (cap * Enc.size Vote) := by
  obtain ⟨c1, c2, rfl, r1, ⟨c3, c4, rfl, r3, ⟨c5, c6, rfl, ⟨a, cap, h1, h2, h3, h4⟩, r6⟩⟩⟩ := h
  refine ⟨.slice a l.length cap, ⟨c1, _, rfl, r1, c3, _, rfl, Disl.mono Sh.mv (fun _ _ _ h => h) r3, c5, _, rfl, ⟨h1, a, cap, rfl, h2, h3.mono Sh.mv⟩, r6⟩, fun a' k cap' e => ?_⟩
  injection e with e1 e2 e3
  subst e1 e2 e3
  have := (h4 rfl).mono (Ow.mv_src (G := G) (w := w) (s := Owner.sub (Owner.sub (Owner.sub ω [1]) [1]) [0]) (d := D))
  simpa [Owner.sub] using this
theorem awp_parkCW {c : Code} {Q : Exit → St → Prop} {s o tb : Nat} {b : Bool} {e bd : Int} {nr : NRef} {l : List Vote} (hs : st.tm s = some (.v b)) (ho : st.ob o = .cell (WrldS.mk e nr ⟨l, true⟩ bd)) (htb : st.tm tb = some (.box o (IsLens.whole WrldS)))
    (k : ∀ hv, awp P S c Q (st.upd [(tb, some (.box o (IsLens.whole WrldH))), (s, some (.v (Room.mk (α := Vote) hv true)))] [(o, .cell (WrldH.mk e nr ⟨l, hv⟩ bd))])) : awp P S c Q st := fun G w a hr => by
  have hob := hr.objs o
  rw [ho] at hob
  obtain ⟨b', cs, e', k1, k2, k3, k4⟩ := hob
  obtain ⟨hv, p1, p2⟩ := parkCW_rd (D := (.tmp s, [])) k3
  have hts := hr.tmps s
  rw [hs] at hts
  have e2 : a.tmps.getD s undef = .bool b := RelV.bool hts
  have hk : Keep S G w (G.mv (.obj o, [1, 1, 0]) (.tmp s, [])) w := Keep.mv S (by simp) (by simp)
  refine wp_mono (k hv (G.mv (.obj o, [1, 1, 0]) (.tmp s, [])) w a ⟨hr.defers, hr.size, fun q => ?_, fun j => ?_⟩) fun e a'' w'' ⟨st'', G'', q1, q2, q3⟩ => ⟨st'', G'', q1, hk.trans q2, q3⟩
  · show RelT _ _ _ (orr (lk [(tb, _), (s, _)] q) (st.tm q)) (a.tmps.getD q undef)
    simp only [lk]
    by_cases eb : q = tb
    · subst eb
      rw [if_pos rfl]
      have := hr.tmps q
      rw [htb] at this
      exact this
    rw [if_neg eb]
    by_cases eq : q = s
    · subst eq
      rw [if_pos rfl, e2]
      exact ⟨[.bool b], ⟨⟨_, rfl, rfl⟩, fun _ a k cap e => p2 a k cap e⟩, rfl⟩
    · rw [if_neg eq]
      exact (hr.tmps q).mono Sh.mv (Ow.mv_other (by simp) (by simpa using eq)) (fun _ _ _ h => h)
  · show RelO _ _ j (orr (lk [(o, _)] j) (st.ob j))
    simp only [lk]
    by_cases ek : j = o
    · subst ek
      rw [if_pos rfl]
      exact ⟨b', cs, e', k1, k2, p1, fun i hi => by simp [Gh.mv, k4 i hi, relab]⟩
    · rw [if_neg ek]
      obtain ⟨T', hT⟩ := Obj.refs_all (st.ob j)
      exact (hr.objs j).pres Sh.mv (fun _ _ _ h => h) hT (PresO.mv (by simpa using Ne.symm ek) (by simp) (by simp) (by simp))
/-- A call that takes a world whose room is parked. -/
theorem op_callPW {d s r : Nat} {T pos aft} {f : FuncId} {post : List Operand} {av2 : List AV} {e bd : Int} {nr : NRef} {l : List Vote} {hv : Value} {ts : Array TypeId} {rt2 : List Nat} {ol ol' : List (Nat × Obj)} {res : AV}
    (hne : Nat.beq s r = false) (hB : fnB P f = true) (hs : st.tm s = some (.v (WrldH.mk e nr ⟨l, hv⟩ bd))) (hq : st.tm r = some (.v (Room.mk (α := Vote) hv true)))
    (ha2 : Args (st.upd [(s, some (.v (WrldS.mk e nr ⟨l, true⟩ bd))), (r, none), (r, none)] []) 0 post av2 rt2) (hct : CtO P f (.v (WrldS.mk e nr ⟨l, true⟩ bd) :: av2) ol res ol')
    (hol : OLs (st.upd [(s, some (.v (WrldS.mk e nr ⟨l, true⟩ bd))), (r, none), (r, none)] []) ol) (hok : OKs (keys ol) ol) (hok' : OKs (keys ol) ol') (hke : keysEq ol ol' = true)
    (hd2 : ∀ z ∈ av2, z.dis = z ∧ ∀ o ∈ z.refs, keys ol o = true) (her : ∀ o ∈ (AV.v (WrldS.mk e nr ⟨l, true⟩ bd)).refs, keys ol o = true) (hrr : ∀ o ∈ res.refs, keys ol o = true) (hn : Nat.blt d st.n = true) :
    OpOk P S ops ⟨some d, .call { callee := .value (.func f), args := (.tmp s :: post).toArray, argTypes := ts }, T, pos, aft, none⟩ ([s, r] ++ (s :: ([] ++ rt2))) (ol.map (·.1)) ([(d, some res), (s, some (AV.dis (.v (WrldS.mk e nr ⟨l, true⟩ bd))))] ++ [(s, some (.v (WrldS.mk e nr ⟨l, true⟩ bd))), (r, none), (r, none)]) ol' st := by
  refine OpOk.pre (oLM (pre := []) hB (.nil _) (by simp [St.upd, lk, orr]) ha2 hct hol hok hok' hke argO0 hd2 her hrr hn) ?_
  intro st1 hag G w a hr
  exact ⟨_, unparkW (s := r) (fun e => by rw [e] at hne; simp at hne) hr (by rw [hag.tm s (by simp)]; exact hs) (by rw [hag.tm r (by simp)]; exact hq), Keep.mv S (by simp) (by simp)⟩
/-- Between the parts of a region: a variable is seen in another way. -/
theorem recell {o tb : Nat} {α β : Type} [Enc α] [Enc β] {x : α} {y : β} (ho : st.ob o = .cell x) (htb : st.tm tb = some (.box o (IsLens.whole α)))
    (hc : ∀ (G : Gh) (w : Go.World) (ω : Owner) (cs : List Value), Enc.rd G w ω x cs → Enc.rd G w ω y cs) :
    ∀ G w a, RelSt G w a st → ∃ (_ : Unit) (G' : Gh), RelSt G' w a (st.upd [(tb, some (.box o (IsLens.whole β)))] [(o, .cell y)]) ∧ Keep S G w G' w := fun G w a hr => by
  have hob := hr.objs o
  rw [ho] at hob
  obtain ⟨b', cs, e, k1, k2, k3, k4⟩ := hob
  refine ⟨(), G, ⟨hr.defers, hr.size, fun q => ?_, fun j => ?_⟩, Keep.refl _ _ _⟩
  · show RelT _ _ _ (orr (lk [(tb, _)] q) (st.tm q)) (a.tmps.getD q undef)
    simp only [lk]
    by_cases eb : q = tb
    · subst eb
      rw [if_pos rfl]
      have := hr.tmps q
      rw [htb] at this
      exact this
    · rw [if_neg eb]
      exact hr.tmps q
  · show RelO _ _ j (orr (lk [(o, _)] j) (st.ob j))
    simp only [lk]
    by_cases ek : j = o
    · subst ek
      rw [if_pos rfl]
      exact ⟨b', cs, e, k1, k2, hc _ _ _ _ k3, k4⟩
    · rw [if_neg ek]
      exact hr.objs j
theorem wrlH_fW {G : Gh} {w : Go.World} {ω : Owner} {e bd : Int} {nr : NRef} {l : List Vote} {hv : Value} {cs : List Value} (h : Enc.rd G w ω (WrldH.mk e nr ⟨l, hv⟩ bd) cs) : Enc.rd G w ω (WrldS.mk e nr ⟨l, false⟩ bd) cs := by
  obtain ⟨c1, c2, rfl, r1, ⟨c3, c4, rfl, r3, ⟨c5, c6, rfl, ⟨e0, a, cap, h1, h2, h3⟩, r6⟩⟩⟩ := h
  exact ⟨c1, _, rfl, r1, c3, _, rfl, r3, c5, _, rfl, ⟨a, cap, by rw [e0, h1], h2, h3, fun h => by cases h⟩, r6⟩
/-! ### Quiet epochs in worlds in form -/
theorem brN_ok {w : Wrld} (h : FineX w) (a : Int) : ∀ k, FineX (brN w a k)
  | 0 => h
  | k + 1 => wbringF_ok (brN_ok h a k)
theorem b4_ok {w : Wrld} (h : FineX w) (a : Int) : FineX (b4 w a) := brN_ok h a 4
theorem sprF_ok : ∀ (n a : Nat) {w : Wrld}, FineX w → FineX (sprF n a w)
  | 0, _, _, h => h
  | n + 1, a, w, h => by
    simp only [sprF]
    split
    · exact sprF_ok n (a + 1) (b4_ok h a)
    · exact h
theorem spread_ok {w : Wrld} (h : FineX w) : FineX (spreadF w) := sprF_ok 100 0 h
theorem bring_ep (w : Wrld) (a id : Int) : (wbringF w a id).epoch = w.epoch := by
  unfold wbringF
  split
  · split
    · exact (putF_eb _ _ _).1
    · rfl
  · rfl
theorem sprF_ep' : ∀ (n a : Nat) (w : Wrld), (sprF n a w).epoch = w.epoch
  | 0, _, _ => rfl
  | n + 1, a, w => by
    simp only [sprF]
    split
    · rw [sprF_ep' n (a + 1) (b4 w a)]
      unfold b4
      rw [bring_ep, bring_ep, bring_ep, bring_ep]
    · rfl
theorem calm_ok {w : Wrld} (h : FineX w) (p : Pay) : FineX (calmF w p) := spread_ok (wproposeF_ok (spread_ok (tickF_ok h)))
theorem calmFold_ok : ∀ (l : List Pay) {w : Wrld}, FineX w → FineX (l.foldl calmF w)
  | [], _, h => h
  | p :: l, _, h => calmFold_ok l (calm_ok h p)
end Go.Wt

/- A part of a row that is written in place; a copy of one number into it. -/
set_option linter.unusedVariables false
set_option linter.unusedSimpArgs false
namespace Go.Wt
open Go
/-- A part of the row that is object `o`, from the element at `off` on, `n` long. -/
structure SRef where
  o : Nat
  off : Nat
  n : Nat
instance : Enc SRef where
  size := 1
  agg := false
  size_pos := by decide
  agg_size := fun _ => rfl
  rd := fun G _ _ r cs => ∃ b m c c', cs = [.slice (some ⟨b, r.off, none⟩) r.n c] ∧ G.hdr r.o = some (.slice (some ⟨b, 0, none⟩) m c') ∧ r.n ≤ c
  refs := fun r => [r.o]
  dis := fun r => r
  len := fun ⟨_, _, _, _, h, _⟩ => by rw [h]; rfl
  one := fun ⟨_, _, _, _, h, _⟩ c hc => by rw [h] at hc; simp at hc; rw [hc]; rfl
  mono := fun _ _ hm ⟨b, m, c, c', h1, h2, h3⟩ => ⟨b, m, c, c', h1, hm _ (by simp) _ h2, h3⟩
  mono_dis := fun _ hm ⟨b, m, c, c', h1, h2, h3⟩ => ⟨b, m, c, c', h1, hm _ (by simp) _ h2, h3⟩
instance : Disl SRef := ⟨fun _ => rfl⟩
variable {P : Program} {S : Nat → Prop} {ops : Array Oper} {st : St}
variable {d : Nat} {T pos aft} {x y z : Operand}
/-- The first number of what is copied from. -/
def Fst (st : St) (y : Operand) (rt ro : List Nat) (n : Nat) (v : Int) : Prop := ∀ st1, Agree rt ro st st1 → ∀ G w a, RelSt G w a st1 → ∃ ad c, a.eval y = .slice (some ad) n c ∧ w.cell? ad = some (.int .i64 v)
/-- Where is copied to. -/
def Dst (st : St) (x : Operand) (rt ro : List Nat) (o k n : Nat) : Prop := ∀ st1, Agree rt ro st st1 → ∀ G w a, RelSt G w a st1 → ∃ b c m c', a.eval x = .slice (some ⟨b, k, none⟩) n c ∧ G.hdr o = some (.slice (some ⟨b, 0, none⟩) m c')
end Go.Wt
namespace Go.Wt
open Go
variable {P : Program} {S : Nat → Prop} {ops : Array Oper} {st : St}
variable {d : Nat} {T t' : TypeId} {pos : String} {aft : Array Edge} {x y z : Operand}
/-! ### Numbers without a sign -/
structure UN where
  n : Int
instance : Enc UN := scalarEnc (fun n => .int .u64 n.n) (fun _ => rfl)
instance : Plain UN := ⟨fun _ => rfl, fun _ => rfl⟩
end Go.Wt
namespace Go.Wt
open Go
variable {P : Program} {S : Nat → Prop} {ops : Array Oper} {st : St} {d : Nat} {T : TypeId} {pos : String} {aft : Array Edge}
end Go.Wt
namespace Go.Wt
open Go
variable {P : Program} {S : Nat → Prop} {ops : Array Oper} {st : St}
variable {d : Nat} {T : TypeId} {pos : String} {aft : Array Edge} {x y z u : Operand}
end Go.Wt
namespace Go.Wt
/-! ### Books -/
def payF (b : List Int) (p : Pay) : List Int :=
  if p.sum ≤ b.getD (p.frm - 1).toNat 0 then
    (b.set (p.frm - 1).toNat (b.getD (p.frm - 1).toNat 0 - p.sum)).set (p.to - 1).toNat ((b.set (p.frm - 1).toNat (b.getD (p.frm - 1).toNat 0 - p.sum)).getD (p.to - 1).toNat 0 + p.sum)
  else b
def bookF (c : List Itm) : List Int := c.foldl (fun b x => payF b x.pay) [9, 9, 9]
def Bk (b : List Int) : Prop := ∃ x y z : Int, b = [x, y, z] ∧ 0 ≤ x ∧ 0 ≤ y ∧ 0 ≤ z ∧ x + y + z = 27
end Go.Wt
namespace Go.Wt
def psum (b : List Int) (k : Nat) : Int := (b.take k).foldl (fun (s v : Int) => s + v) 0
end Go.Wt

/- The reference's final chain. -/
set_option linter.unusedVariables false
set_option linter.unusedSimpArgs false
namespace Go.Wt
open Go
theorem finFrom_bd (c : List Itm) : ∀ n : Nat, 0 ≤ finFrom c n ∧ finFrom c n ≤ n
  | 0 => ⟨Int.le_refl _, Int.le_refl _⟩
  | n + 1 => by
    have := finFrom_bd c n
    simp only [finFrom]
    split <;> omega
theorem finLen_bd (c : List Itm) : 0 ≤ finLen c ∧ finLen c ≤ c.length := finFrom_bd c c.length
def finStepS (out c : List Itm) : List Itm := if decide ((out.length : Int) < finLen c) then c.take (finLen c).toNat else out
def finalS (l : List Vote) : List Itm := (allOfS l).foldl finStepS []
theorem allOfS_at {l : List Vote} {c : List Itm} (h : c ∈ allOfS l) : c = [] ∨ ∃ v ∈ l, v.chain = c := by
  rcases allStepS_mem l l [[]] _ h with e | ⟨v, h1, h2⟩
  · simp at e; exact .inl e
  · exact .inr ⟨v, h1, h2⟩
def nodeBookR (n : Nod) : List Int := if nodeOk n then bookF (finalOf n.seen) else []
end Go.Wt

/- Certificates, as the reference makes them. -/
set_option linter.unusedVariables false
set_option linter.unusedSimpArgs false
namespace Go.Wt
open Go
theorem finLen_last {c : List Itm} (h3 : 3 ≤ c.length) {x y z : Itm} (hx : c[c.length - 3]? = some x) (hy : c[c.length - 2]? = some y) (hz : c[c.length - 1]? = some z) :
    decide (finLen c = (c.length : Int) - 1) = (decide (x.epoch + 1 = y.epoch) && decide (y.epoch + 1 = z.epoch)) := by
  rw [Bool.eq_iff_iff]
  simp only [decide_eq_true_eq, Bool.and_eq_true]
  constructor
  · intro h
    rcases finLen_spec c with h0 | h0
    · omega
    · rw [h] at h0
      obtain ⟨h2, x', y', z', a, b, d, e1, e2⟩ := h0
      rw [show ((c.length : Int) - 1).toNat - 2 = c.length - 3 by omega, hx] at a
      rw [show ((c.length : Int) - 1).toNat - 1 = c.length - 2 by omega, hy] at b
      rw [show ((c.length : Int) - 1).toNat = c.length - 1 by omega, hz] at d
      cases a; cases b; cases d
      exact ⟨e1, e2⟩
  · rintro ⟨e1, e2⟩
    have ht : Trip c (c.length - 1) := ⟨by omega, x, y, z, by rw [show c.length - 1 - 2 = c.length - 3 by omega]; exact hx, by rw [show c.length - 1 - 1 = c.length - 2 by omega]; exact hy, hz, e1, e2⟩
    have h1 := finLen_max ht
    rcases finLen_spec c with h0 | h0
    · omega
    · have := h0.lt
      omega
/-- Who voted, as the reference says it. -/
def vfS (l : List Vote) (c : List Itm) : List Int := if votesOk l then voters l c else []
def certBy (l : List Vote) (c : List Itm) (n : Nat) : List (List Int) := [vfS l (c.take (n - 1)), vfS l (c.take n), vfS l (c.take (n + 1))]
/-- The chain that a certificate is of. -/
def certFind (l : List Vote) : Option (List Itm) := (allOfS l).find? fun c => decide (finLen c = ((finalS l).length : Int)) && decide (0 < (finalS l).length)
def certS (l : List Vote) : Option (List Itm × List (List Int)) := if votesOk l then (certFind l).map fun c => (c.take ((finLen c).toNat + 1), certBy l c (finLen c).toNat) else none
theorem certFind_at {l : List Vote} {k : Nat} {c : List Itm} (hk : (allOfS l)[k]? = some c) (hno : ((allOfS l).drop k).find? (fun c => decide (finLen c = ((finalS l).length : Int)) && decide (0 < (finalS l).length)) = certFind l) :
    ((decide (finLen c = ((finalS l).length : Int)) && decide (0 < (finalS l).length)) = true → certFind l = some c) ∧
    ((decide (finLen c = ((finalS l).length : Int)) && decide (0 < (finalS l).length)) = false → ((allOfS l).drop (k + 1)).find? (fun c => decide (finLen c = ((finalS l).length : Int)) && decide (0 < (finalS l).length)) = certFind l) := by
  rw [drop_at hk] at hno
  constructor
  · intro h
    rw [← hno]
    simp only [List.find?, h]
  · intro h
    rw [← hno]
    simp only [List.find?, h]
/-- A certificate whose lists are an object. -/
structure CertN where
  chain : List Itm
  by_ : NRef
instance : Enc CertN := isoEnc (fun p => (p.chain, p.by_)) (fun q => ⟨q.1, q.2⟩) (fun _ => rfl) true (fun h => by cases h)
instance : Disl CertN := ⟨fun _ => rfl⟩
def CertN.zero : CertN := ⟨[], .nil⟩
instance : ZCells CertN .zero := ⟨ZCells.cs (List Itm × NRef), fun G w ω => ZCells.rd (α := List Itm × NRef) G w ω⟩
theorem CertN.l0 : IsLens CertN.chain (fun x y => { x with chain := y }) 0 [0] := (IsLens.fst (List Itm) NRef).iso (fun _ => rfl) (fun _ _ => rfl)
theorem CertN.l1 : IsLens CertN.by_ (fun x y => { x with by_ := y }) 1 [1] := (IsLens.snd (List Itm) NRef).iso (fun _ => rfl) (fun _ _ => rfl)
theorem obOkC {p : Nat → Bool} {x : List Itm} {o : Nat} (h : p o = true) : obOk p (.cell (CertN.mk x (.ref o))) := fun o' ho => by
  have : Enc.refs (CertN.mk x (.ref o)) = [o] := rfl
  rw [this] at ho
  simp at ho; subst ho; exact h
variable {S : Nat → Prop}
/-- A certificate whose lists are written no more. -/
theorem Le.frzCt {n t c o : Nat} {x0 : List Itm} {R : List (List Int)} {tl : List (Nat × AV)} {ol : List (Nat × Obj)} (hB : R.length ≤ big) (hne : Nat.beq c o = false) (hS : ∀ k, S k → keys ol k = true)
    (h1 : (tl.all fun x => x.2.refs.all fun q => q != o) = true) (h2 : keys ol o = false) (h2c : keys ol c = false) (h3 : ObL (fun k => k != o) ol) :
    Le S (mkSt n ((t, .box c (IsLens.whole CertN)) :: tl) ((c, .cell (CertN.mk x0 (.ref o))) :: (o, .arr R) :: ol)) (mkSt n ((t, .box c (IsLens.whole Cert)) :: tl) ((c, .cell (Cert.mk x0 R)) :: ol)) := fun G w a hr => by
  have hne' : c ≠ o := fun e => by rw [e] at hne; simp at hne
  have ho : RelO G w o (orr (lk0 ((c, _) :: (o, .arr R) :: ol) o) .free) := hr.objs o
  rw [lk0_miss (Ne.symm hne'), lk0_hit] at ho
  obtain ⟨b, cap, cs, te, m1, m2, m3, m4, m5, m6⟩ := ho
  have hhm : ∀ q, (q != o) = true → ∀ v, G.hdr q = some v → (G.frz1 o b cs.length).hdr q = some v := fun q hq v hv => by
    simp at hq
    simp [Gh.frz1, hq, hv]
  refine ⟨G.frz1 o b cs.length, ⟨hr.defers, hr.size, fun q => ?_, fun k => ?_⟩, frz1_keep m6 (fun hs => by have := hS o hs; rw [h2] at this; cases this)⟩
  · show RelT _ _ _ (lk0 ((t, .box c (IsLens.whole Cert)) :: tl) q) _
    have hq' : RelT G w (.tmp q, []) (lk0 ((t, .box c (IsLens.whole CertN)) :: tl) q) (a.tmps.getD q undef) := hr.tmps q
    by_cases e : q = t
    · subst e
      rw [lk0_hit] at hq' ⊢
      obtain ⟨b', g1, g2⟩ := hq'
      exact ⟨b', hhm c (by simpa using hne') _ g1, g2⟩
    · rw [lk0_miss e] at hq' ⊢
      cases hl : lk0 tl q with
      | none => trivial
      | some av =>
        rw [hl] at hq'
        have hm := lk0_mem hl
        rw [List.all_eq_true] at h1
        have hav := h1 _ hm
        rw [List.all_eq_true] at hav
        exact RelV.mono frz1_sh (frz1_ow m6 (by simp)) (fun r hr' => hhm r (hav r hr')) hq'
  · show RelO _ _ k (orr (lk0 ((c, .cell (Cert.mk x0 R)) :: ol) k) .free)
    have hk' : RelO G w k (orr (lk0 ((c, _) :: (o, .arr R) :: ol) k) .free) := hr.objs k
    by_cases ec : k = c
    · subst ec
      rw [lk0_hit] at hk' ⊢
      obtain ⟨b', cs', te', q1, q2, q3, q4⟩ := hk'
      refine ⟨b', cs', te', hhm k (by simpa using hne') _ q1, q2, ?_, fun i hi => ?_⟩
      · obtain ⟨c1, c2, rfl, r1, r3⟩ := q3
        obtain ⟨ad', n', c', g1, g2⟩ := r3
        have g2' : G.hdr o = some (.slice ad' n' c') := g2
        rw [m1] at g2'
        injection g2' with g2'
        injection g2' with e1 e2 e3
        subst e1 e2 e3
        exact ⟨c1, _, rfl, Plain.mono frz1_sh r1, some ⟨b, 0, none⟩, cap, g1, m3, frz1_elems m2 m5 hB⟩
      · simp only [Gh.frz1]
        by_cases e : b' = b ∧ i < cs.length
        · obtain ⟨rfl, hi'⟩ := e
          have := q4 i hi
          rw [m6 i hi'] at this
          injection this with this
          simp at this
          exact absurd this.symm hne'
        · rw [if_neg e]; exact q4 i hi
    · rw [lk0_miss ec] at hk' ⊢
      by_cases e2 : k = o
      · subst e2
        rw [keys_none h2]
        show (G.frz1 k b cs.length).hdr k = none
        simp [Gh.frz1]
      · rw [lk0_miss e2] at hk'
        cases hl : lk0 ol k with
        | none =>
          rw [hl] at hk'
          have hk2 : G.hdr k = none := hk'
          show (G.frz1 o b cs.length).hdr k = none
          simp [Gh.frz1, e2, hk2]
        | some x =>
          rw [hl] at hk'
          refine RelO.presP frz1_sh hhm (h3.get k x hl) ⟨by simp [Gh.frz1, e2], fun b' _ _ => ⟨rfl, fun i hi => ?_⟩, frz1_ow m6 (by simp)⟩ hk'
          simp only [Gh.frz1]
          by_cases e : b' = b ∧ i < cs.length
          · obtain ⟨rfl, hi'⟩ := e
            rw [m6 i hi'] at hi
            injection hi with hi
            simp at hi
            exact absurd hi.symm e2
          · rw [if_neg e]; exact hi
theorem certN_nil {G : Gh} {w : Go.World} {ω : Owner} {x : List Itm} {cs : List Value} (h : Enc.rd G w ω (CertN.mk x .nil) cs) : Enc.rd G w ω (Cert.mk x []) cs := by
  obtain ⟨c1, c2, rfl, r1, r3⟩ := h
  exact ⟨c1, c2, rfl, r1, none, 0, r3, Nat.le_refl _, .inl rfl⟩
end Go.Wt
