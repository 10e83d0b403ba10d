/- Part 5 of the proof: texts one behind the other. -/
import Derived.Test.YtmabpmlcclgecaaM4
/- A part of a row that is written in place; a copy of one number into it. -/
set_option linter.unusedVariables false
set_option linter.unusedSimpArgs false
namespace Go.Wt
open Go
/-- A part of the row that is object `o`, from the element at `off` on, `n` long. -/
structure SRef where
  o : Nat
  off : Nat
  n : Nat
instance : Enc SRef where
  size := 1
  agg := false
  size_pos := by decide
  agg_size := fun _ => rfl
  rd := fun G _ _ r cs => ∃ b m c c', cs = [.slice (some ⟨b, r.off, none⟩) r.n c] ∧ G.hdr r.o = some (.slice (some ⟨b, 0, none⟩) m c') ∧ r.n ≤ c
  refs := fun r => [r.o]
  dis := fun r => r
  len := fun ⟨_, _, _, _, h, _⟩ => by rw [h]; rfl
  one := fun ⟨_, _, _, _, h, _⟩ c hc => by rw [h] at hc; simp at hc; rw [hc]; rfl
  mono := fun _ _ hm ⟨b, m, c, c', h1, h2, h3⟩ => ⟨b, m, c, c', h1, hm _ (by simp) _ h2, h3⟩
  mono_dis := fun _ hm ⟨b, m, c, c', h1, h2, h3⟩ => ⟨b, m, c, c', h1, hm _ (by simp) _ h2, h3⟩
instance : Disl SRef := ⟨fun _ => rfl⟩
theorem RelV.sref {G w ω u} {r : SRef} (h : RelV G w ω (.v r) u) : ∃ b m c c', u = .slice (some ⟨b, r.off, none⟩) r.n c ∧ G.hdr r.o = some (.slice (some ⟨b, 0, none⟩) m c') ∧ r.n ≤ c := by
  obtain ⟨cs, ⟨b, m, c, c', h1, h2, h4⟩, h3⟩ := h
  exact ⟨b, m, c, c', by rw [h3, h1]; rfl, h2, h4⟩
variable {P : Program} {S : Nat → Prop} {ops : Array Oper} {st : St}
variable {d : Nat} {T pos aft} {x y z : Operand}
theorem op_slA {E bytes t : TypeId} {o : Nat} {xs : List Int} {l : Int} (sl : SlOk P t E bytes Int) (hx : st.ev x = some (.v (NRef.ref o))) (hy : st.ev y = some (.v l)) (ho : st.ob o = .arr xs) (hn : Nat.blt d st.n = true) (hb : 0 ≤ l ∧ l.toNat < xs.length) :
    OpOk P S ops ⟨some d, .slice t x (some y) none none, T, pos, aft, none⟩ (opT x ++ opT y) [o] [(d, some (.v (SRef.mk o l.toNat (xs.length - l.toNat))))] [] st :=
  OpOk.value rfl rfl (by simpa using hn) fun st1 hag G w a hr => by
    obtain ⟨ad, n, c, h1, h2⟩ := RelV.ref (hr.at hag hx fun t ht => by simp [ht])
    have e2 := RelV.int (hr.at hag hy fun t ht => by simp [ht])
    have hob := hr.objs o
    rw [hag.ob o (by simp), ho] at hob
    obtain ⟨b, cap, cs, e, k1, k2', k3', _⟩ := hob
    have k0 := k1
    rw [h2] at k1
    injection k1 with k1
    injection k1 with k1 k2 k3
    subst k1 k2 k3
    obtain ⟨q1, q2⟩ := sl.elem
    refine ⟨sliced (some ⟨b, 0, none⟩) l.toNat xs.length c (Enc.size Int), ?_, [_], ⟨b, xs.length, c - l.toNat, c, ?_, k0, by show xs.length - l.toNat ≤ c - l.toNat; omega⟩, by simp [Enc.val, Enc.agg]; rfl⟩
    · simp only [execOp, h1, e2, Option.map_none, Option.map_some, Sem.run_bind, run_sliceAt_slice _ _ _ _ _ _ q1, run_slice_l w t _ xs.length c q1 .i64 l hb.1 (by omega), q2, sl.el.size, Result.andThen_ok, Sem.run_pure]
    · simp only [sliced]
      rw [if_neg (by omega)]
      simp [Addr.add, Enc.size]
      try (intro; omega)
theorem op_slAh {E bytes t : TypeId} {o : Nat} {xs : List Int} {h : Int} (sl : SlOk P t E bytes Int) (hx : st.ev x = some (.v (NRef.ref o))) (hy : st.ev z = some (.v h)) (ho : st.ob o = .arr xs) (hn : Nat.blt d st.n = true) (hb : 0 ≤ h ∧ h.toNat ≤ xs.length) :
    OpOk P S ops ⟨some d, .slice t x none (some z) none, T, pos, aft, none⟩ (opT x ++ opT z) [o] [(d, some (.v (SRef.mk o 0 h.toNat)))] [] st :=
  OpOk.value rfl rfl (by simpa using hn) fun st1 hag G w a hr => by
    obtain ⟨ad, n, c, h1, h2⟩ := RelV.ref (hr.at hag hx fun t ht => by simp [ht])
    have e2 := RelV.int (hr.at hag hy fun t ht => by simp [ht])
    have hob := hr.objs o
    rw [hag.ob o (by simp), ho] at hob
    obtain ⟨b, cap, cs, e, k1, k2', k3', _⟩ := hob
    have k0 := k1
    rw [h2] at k1
    injection k1 with k1
    injection k1 with k1 k2 k3
    subst k1 k2 k3
    obtain ⟨q1, q2⟩ := sl.elem
    refine ⟨sliced (some ⟨b, 0, none⟩) 0 h.toNat c (Enc.size Int), ?_, [_], ⟨b, xs.length, c, c, ?_, k0, by show h.toNat ≤ c; omega⟩, by simp [Enc.val, Enc.agg]; rfl⟩
    · simp only [execOp, h1, e2, Option.map_none, Option.map_some, Sem.run_bind, run_sliceAt_slice _ _ _ _ _ _ q1, run_slice_h w t _ xs.length c q1 .i64 h hb.1 (by omega), q2, sl.el.size, Result.andThen_ok, Sem.run_pure]
    · simp only [sliced]
      split <;> simp [Addr.add]
/-- The first number of what is copied from. -/
def Fst (st : St) (y : Operand) (rt ro : List Nat) (n : Nat) (v : Int) : Prop := ∀ st1, Agree rt ro st st1 → ∀ G w a, RelSt G w a st1 → ∃ ad c, a.eval y = .slice (some ad) n c ∧ w.cell? ad = some (.int .i64 v)
/-- Where is copied to. -/
def Dst (st : St) (x : Operand) (rt ro : List Nat) (o k n : Nat) : Prop := ∀ st1, Agree rt ro st st1 → ∀ G w a, RelSt G w a st1 → ∃ b c m c', a.eval x = .slice (some ⟨b, k, none⟩) n c ∧ G.hdr o = some (.slice (some ⟨b, 0, none⟩) m c')
theorem fst_list {rt ro : List Nat} {v : Int} {l : List Int} {av : AV} [hs : Src Int av (v :: l)] (hx : st.ev y = some av) (hsub : ∀ t ∈ opT y, t ∈ rt) : Fst st y rt ro (l.length + 1) v := fun st1 hag G w a hr => by
  obtain ⟨ad, cap, h1, h2, h3⟩ := hs.rel (hr.at hag hx hsub)
  rcases h3 with h3 | ⟨b, off, e, _, h4⟩
  · cases h3
  · obtain ⟨c, hc, hm⟩ := h4 0 v rfl
    have hc' : c = [.int .i64 v] := hc
    subst hc'
    have := (hm 0 _ rfl).2
    refine ⟨⟨b, off, none⟩, cap, by rw [h1, e]; rfl, ?_⟩
    simpa [cl] using this
theorem fst_sref {rt ro : List Nat} {v : Int} {o n : Nat} {xs : List Int} (hx : st.ev y = some (.v (SRef.mk o 0 n))) (hsub : ∀ t ∈ opT y, t ∈ rt) (ho : st.ob o = .arr xs) (hoin : o ∈ ro) (hv : xs[0]? = some v) : Fst st y rt ro n v := fun st1 hag G w a hr => by
  obtain ⟨b, m, c, c', h1, h2, _⟩ := RelV.sref (hr.at hag hx hsub)
  have hob := hr.objs o
  rw [hag.ob o hoin, ho] at hob
  obtain ⟨b', cap, cs, e, k1, k2, k3, k4, k5, k6⟩ := hob
  have k0 := k1
  rw [h2] at k1
  injection k1 with k1
  injection k1 with k1 _ _
  injection k1 with k1
  injection k1 with k1 _ _
  subst k1
  obtain ⟨ce, r1, r2⟩ := k5 0 v hv
  have hce : ce = [.int .i64 v] := r1
  subst hce
  have := r2 0 _ rfl
  refine ⟨⟨b, 0, none⟩, c, h1, ?_⟩
  simp only [Nat.zero_mul, Nat.add_zero] at this
  rw [← cl_row k2 0] at this
  exact this
theorem dst_ref {rt ro : List Nat} {o : Nat} {α : Type} [Enc α] {xs : List α} (hx : st.ev x = some (.v (NRef.ref o))) (hsub : ∀ t ∈ opT x, t ∈ rt) (ho : st.ob o = .arr xs) (hoin : o ∈ ro) : Dst st x rt ro o 0 xs.length := fun st1 hag G w a hr => by
  obtain ⟨ad, n, c, h1, h2⟩ := RelV.ref (hr.at hag hx hsub)
  have hob := hr.objs o
  rw [hag.ob o hoin, ho] at hob
  obtain ⟨b', cap, cs, e, k1, k2, k3, k4, k5, k6⟩ := hob
  have k0 := k1
  rw [h2] at k1
  injection k1 with k1
  injection k1 with e1 e2 e3
  subst e1 e2 e3
  exact ⟨b', c, _, _, h1, k0⟩
theorem dst_sref {rt ro : List Nat} {o k n : Nat} (hx : st.ev x = some (.v (SRef.mk o k n))) (hsub : ∀ t ∈ opT x, t ∈ rt) : Dst st x rt ro o k n := fun st1 hag G w a hr => by
  obtain ⟨b, m, c, c', h1, h2, _⟩ := RelV.sref (hr.at hag hx hsub)
  exact ⟨b, c, m, c', h1, h2⟩
theorem op_copy1 {t t2 E bytes : TypeId} {o k n m : Nat} {v : Int} {xs : List Int} (sl : SlOk P t E bytes Int) (hD : Dst st x (opT x ++ opT y) [o] o k n) (hF : Fst st y (opT x ++ opT y) [o] m v) (ho : st.ob o = .arr xs) (hk : k < xs.length) (h1 : Nat.min m n = 1) (hn : Nat.blt d st.n = true) :
    OpOk P S ops ⟨some d, .call { callee := .builtin .copy, args := #[x, y], argTypes := #[t, t2] }, T, pos, aft, none⟩ (opT x ++ opT y) [o] [(d, some (.v (1 : Int)))] [(o, .arr (xs.set k v))] st := by
  intro st1 hag G w a hr K Q hK
  unfold stepO
  rw [if_pos (by simp [Region.wanted])]
  refine .inl ?_
  have hd' : d < st1.n := by rw [hag.n]; simpa using hn
  obtain ⟨b, c, m', c', u1, u2⟩ := hD st1 hag G w a hr
  obtain ⟨ad, cy, v1, v2⟩ := hF st1 hag G w a hr
  have hob := hr.objs o
  rw [hag.ob o (by simp), ho] at hob
  obtain ⟨b', cap, cs, te, m1, m2, m3, m4, m5, m6⟩ := hob
  have m0 := m1
  rw [u2] at m0
  injection m0 with m0
  injection m0 with e1 _ _
  injection e1 with e1
  injection e1 with e1 _ _
  subst e1
  obtain ⟨q1, q2⟩ := sl.elem
  have hcl : k < cs.length := by simp [Enc.size] at m4; omega
  have hfc := run_firstCells_some (P := P) w 1 1 ad m cy [.int .i64 v] rfl (fun j u hj => by
    have : j = 0 := by have := (List.getElem?_eq_some_iff.1 hj).1; simp at this; exact this
    subst this
    simp at hj
    subst hj
    simpa [Addr.add] using v2)
  have hst := run_storeCells_at (P := P) b k te [.int .i64 v] 0 cs.toArray w m2 (by simp; omega) (fun u hu => by simp at hu; subst hu; rfl)
  let cs' := cs.take k ++ [.int .i64 v] ++ cs.drop (k + 1)
  have hw : Wr G w o b cs cs' te := ⟨m2, m6, by simp [cs']; omega, by omega⟩
  have hst' : (storeCells ⟨b, k, none⟩ [.int .i64 v]).run P w = .ok () (w.setRow b cs'.toArray) := by
    simpa [cs'] using hst
  have hlen : (Builtin.lenOf (.slice (some ad) m cy)).run P w = .ok m w := by simp [Builtin.lenOf]
  have hcopy : (Builtin.copy_ #[t, t2] T #[.slice (some ⟨b, k, none⟩) n c, .slice (some ad) m cy]).run P w = .ok (goInt 1) (w.setRow b cs'.toArray) := by
    have hsz := sl.el.size w
    have h11 : Nat.min m n = 1 := h1
    simp only [Builtin.copy_, List.getElem?_toArray, List.getElem?_cons_zero, List.getElem?_cons_succ, Sem.run_bind, run_underlying q1, Result.andThen_ok, hlen, q2, hsz, h11]
    rw [show Enc.size Int = 1 from rfl, hfc]
    simp only [Result.andThen_ok, Sem.run_bind, hst', Sem.run_pure]
    rfl
  have hexec : (execOp a.eval ⟨some d, .call { callee := .builtin .copy, args := #[x, y], argTypes := #[t, t2] }, T, pos, aft, none⟩).run P w = .ok (.value (goInt 1)) (w.setRow b cs'.toArray) := by
    simp only [execOp, resolve, invoke, builtin, List.map_toArray, List.map_cons, List.map_nil, Sem.run_bind, Sem.run_pure, Result.andThen_ok, u1, v1, hcopy]
  unfold Oper.wp
  rw [hexec]
  simp only [Oper.upon]
  refine hK _ _ G ?_ (hw.keep S)
  have hrow : RelO G (w.setRow b cs'.toArray) o (.arr (xs.set k v)) := by
    refine ⟨b, cap, cs', te, by simpa using m1, setRow_heap _ _ _ _ _ _ m2, by simpa using m3, by rw [hw.len]; exact m4, fun i u hi => ?_, fun i hi => m6 i (by rw [hw.len] at hi; exact hi)⟩
    refine ⟨[.int .i64 u], rfl, fun j q hj => ?_⟩
    have : j = 0 := by have := (List.getElem?_eq_some_iff.1 hj).1; simp at this; exact this
    subst this
    simp at hj
    subst hj
    simp only [show Enc.size Int = 1 from rfl, Nat.mul_one, Nat.add_zero, cs']
    by_cases hik : i = k
    · subst hik
      rw [List.getElem?_set_self hk] at hi
      injection hi with hi
      subst hi
      rw [List.append_assoc, List.getElem?_append_right (by simp; omega)]
      simp [Nat.min_eq_left (Nat.le_of_lt hcl)]
    · rw [List.getElem?_set_ne (Ne.symm hik)] at hi
      obtain ⟨ce, r1, r2⟩ := m5 i u hi
      have hce : ce = [.int .i64 u] := r1
      subst hce
      have := r2 0 _ rfl
      simp only [show Enc.size Int = 1 from rfl, Nat.mul_one, Nat.add_zero] at this
      rw [← this]
      rcases Nat.lt_or_ge i k with h | h
      · rw [List.append_assoc, List.getElem?_append_left (by simp; omega), List.getElem?_take, if_pos h]
      · rw [List.getElem?_append_right (by simp; omega), List.getElem?_drop]
        congr 1
        simp
        omega
  have := (hr.write hw hrow).put (d := d) (av := some (.v (1 : Int))) hd' (relInt _ _ _ _)
  exact this
end Go.Wt
namespace Go.Wt
open Go
variable {P : Program} {S : Nat → Prop} {ops : Array Oper} {st : St}
variable {d : Nat} {T t' : TypeId} {pos : String} {aft : Array Edge} {x y z : Operand}
/-- A new row of noughts, as a named object. -/
theorem op_mkA {o : Nat} {t E : TypeId} {bytes : Nat} {n : Int} (sl : SlOk P t E bytes Int) (hz : ZeroOk P E (0 : Int)) (hx : st.ev x = some (.v n)) (h0 : 0 ≤ n) (hb : (bytes : Int) * n ≤ 281474976710656) (hn63 : n ≤ 9223372036854775807) (ho : st.ob o = .free) (hn : Nat.blt d st.n = true) :
    OpOk P S ops ⟨some d, .makeSlice t x x, T, pos, aft, none⟩ (opT x ++ opT x) [o] [(d, some (.v (NRef.ref o)))] [(o, .arr (List.replicate n.toNat (0 : Int)))] st := by
  intro st1 hg G w a hr K Q hK
  unfold stepO
  rw [if_pos (by simp [Region.wanted])]
  refine .inl ?_
  obtain ⟨hu, i, hi, hby, hsz⟩ := sl.spec
  obtain ⟨i', zcs, k1, k2, k3⟩ := hz.ok
  rw [hi] at k1
  injection k1 with k1
  subst k1
  have hzc : zcs = [.int .i64 0] := k3 G w ω0
  subst hzc
  have e1 := RelV.int (hr.at hg hx fun t ht => by simp [ht])
  have hrun := run_make (P := P) w t E i _ hu hi k2 .i64 .i64 n n h0 (Int.le_refl _) (by rw [hby]; exact hb) hn63
  have hcells : madeCells (Enc.val Int [.int .i64 0]).cells (n.toNat * i.size) = (List.replicate n.toNat (Value.int .i64 0)).toArray := by
    have : (Enc.val Int [.int .i64 0]).cells = #[Value.int .i64 0] := rfl
    rw [this, ← toList_madeCells_one, hsz]
    simp [Enc.size]
  rw [hcells] at hrun
  have hexec : (execOp a.eval ⟨some d, .makeSlice t x x, T, pos, aft, none⟩).run P w = .ok (.value (.slice (some ⟨w.heap.size, 0, none⟩) n.toNat n.toNat)) (w.alloc (.cells (List.replicate n.toNat (Value.int .i64 0)).toArray E)) := by
    simp only [execOp, e1, Sem.run_bind, hrun, Result.andThen_ok, Sem.run_pure]
  unfold Oper.wp
  rw [hexec]
  simp only [Oper.upon]
  have hrow : Rows G w (List.replicate n.toNat (0 : Int)) (List.replicate n.toNat (Value.int .i64 0)) := by
    refine ⟨by simp [Enc.size], fun j u hj => ⟨[.int .i64 u], rfl, fun q v hq => ?_⟩⟩
    have : q = 0 := by have := (List.getElem?_eq_some_iff.1 hq).1; simp at this; exact this
    subst this
    simp at hq
    subst hq
    have hj' := List.getElem?_eq_some_iff.1 hj
    obtain ⟨hl, he⟩ := hj'
    simp at hl he
    subst he
    simp [Enc.size, hl]
  obtain ⟨G', h1, h2, h3⟩ := hr.newarr (o := o) (e := E) (cap := n.toNat) (by rw [hg.ob o (by simp), ho]) hrow (by simp) (by simp [Enc.size])
  refine hK _ _ G' ?_ (h2 S)
  rw [← St.upd_upd]
  simp only [List.length_replicate] at h3
  exact h1.put (av := some _) (by show d < st1.n; rw [hg.n]; simpa using hn) ⟨_, ⟨_, _, _, rfl, h3⟩, rfl⟩
/-! ### Numbers without a sign -/
structure UN where
  n : Int
instance : Enc UN := scalarEnc (fun n => .int .u64 n.n) (fun _ => rfl)
instance : Plain UN := ⟨fun _ => rfl, fun _ => rfl⟩
theorem RelV.un {G w ω u} {n : UN} (h : RelV G w ω (.v n) u) : u = .int .u64 n.n := by obtain ⟨cs, h1, h2⟩ := h; rw [h2, show cs = [.int .u64 n.n] from h1]; rfl
theorem relUN (G w ω) (n : UN) : RelV G w ω (.v n) (.int .u64 n.n) := ⟨[.int .u64 n.n], rfl, rfl⟩
theorem wrap_u64 {m : Int} (h : 0 ≤ m ∧ m < 18446744073709551616) : IntKind.u64.wrap m = m := by
  simp [IntKind.wrap, IntKind.signed, IntKind.bits]
  omega
theorem op_cvU {s t : TypeId} {m : Int} (hx : st.ev x = some (.v m)) (hn : Nat.blt d st.n = true) (hs : (P.underlying s).isSome = true) (ht : P.underlying t = some (.int .u64)) (hm : 0 ≤ m ∧ m < 18446744073709551616) :
    OpOk P S ops ⟨some d, .convert s t x, T, pos, aft, none⟩ (opT x) [] [(d, some (.v (UN.mk m)))] [] st :=
  OpOk.value rfl rfl (by simpa using hn) fun st1 hag G w a hr => ⟨.int .u64 m, by
    have e1 := RelV.int (hr.at hag hx fun t ht => ht)
    obtain ⟨ds, hds⟩ := Option.isSome_iff_exists.1 hs
    simp only [execOp, e1, convert, Sem.run_bind, run_underlying hds, run_underlying ht, Result.andThen_ok]
    cases ds <;> simp [Conv.intToInt, wrap_u64 hm], relUN _ _ _ _⟩
theorem op_cvI {s t : TypeId} {m : UN} (hx : st.ev x = some (.v m)) (hn : Nat.blt d st.n = true) (hs : (P.underlying s).isSome = true) (ht : P.underlying t = some (.int .i64)) (hm : 0 ≤ m.n ∧ m.n < 9223372036854775808) :
    OpOk P S ops ⟨some d, .convert s t x, T, pos, aft, none⟩ (opT x) [] [(d, some (.v m.n))] [] st :=
  OpOk.value rfl rfl (by simpa using hn) fun st1 hag G w a hr => ⟨.int .i64 m.n, by
    have e1 := RelV.un (hr.at hag hx fun t ht => ht)
    obtain ⟨ds, hds⟩ := Option.isSome_iff_exists.1 hs
    have hb : IntKind.i64.wrap m.n = m.n := wrap_in (by omega)
    simp only [execOp, e1, convert, Sem.run_bind, run_underlying hds, run_underlying ht, Result.andThen_ok]
    cases ds <;> simp [Conv.intToInt, hb], relInt _ _ _ _⟩
theorem un_bin {t : TypeId} {op : BinOp} {av : AV} {u : Value} {m n : UN} (hx : st.ev x = some (.v m)) (hy : st.ev y = some (.v n)) (hn : Nat.blt d st.n = true)
    (h1 : ∀ w : World, (binOp op t (.int .u64 m.n) (.int .u64 n.n)).run P w = .ok u w) (h3 : ∀ G w ω, RelV G w ω av u) :
    OpOk P S ops ⟨some d, .binOp op t x y t', T, pos, aft, none⟩ (opT x ++ opT y) [] [(d, some av)] [] st :=
  bin_value hn fun st1 hag G w a hr => by
    have e1 := RelV.un (hr.at hag hx fun t ht => by simp [ht])
    have e2 := RelV.un (hr.at hag hy fun t ht => by simp [ht])
    refine ⟨u, by rw [e1, e2]; exact h1 w, by rw [e1, eqGuard_at_int]; rfl, h3 _ _ _⟩
/-- With a constant. -/
theorem un_binc {t : TypeId} {op : BinOp} {av : AV} {u c : Value} {m : UN} (hx : st.ev x = some (.v m)) (hn : Nat.blt d st.n = true)
    (h1 : ∀ w : World, (binOp op t (.int .u64 m.n) c).run P w = .ok u w) (h3 : ∀ G w ω, RelV G w ω av u) :
    OpOk P S ops ⟨some d, .binOp op t x (.const c) t', T, pos, aft, none⟩ (opT x) [] [(d, some av)] [] st :=
  bin_value hn fun st1 hag G w a hr => by
    have e1 := RelV.un (hr.at hag hx fun t ht => by simp [ht])
    refine ⟨u, by rw [e1]; exact h1 w, by rw [e1, eqGuard_at_int]; rfl, h3 _ _ _⟩
end Go.Wt
namespace Go.Wt
open Go
variable {P : Program} {S : Nat → Prop} {ops : Array Oper} {st : St} {d : Nat} {T : TypeId} {pos : String} {aft : Array Edge}
theorem op_asU {n : Int} (hn : Nat.blt d st.n = true) : OpOk P S ops ⟨some d, .assign (.const (.int .u64 n)), T, pos, aft, none⟩ [] [] [(d, some (.v (UN.mk n)))] [] st :=
  OpOk.value rfl rfl (by simpa using hn) fun st1 hag G w a hr => ⟨.int .u64 n, rfl, relUN _ _ _ _⟩
end Go.Wt
namespace Go.Wt
open Go
variable {P : Program} {S : Nat → Prop} {ops : Array Oper} {st : St}
variable {d : Nat} {T : TypeId} {pos : String} {aft : Array Edge} {x y z u : Operand}
theorem op_slAhm {E bytes t : TypeId} {o : Nat} {xs : List Int} {h : Int} (sl : SlOk P t E bytes Int) (hx : st.ev x = some (.v (NRef.ref o))) (hy : st.ev z = some (.v h)) (hu : st.ev u = some (.v h)) (ho : st.ob o = .arr xs) (hn : Nat.blt d st.n = true) (hb : h = xs.length) :
    OpOk P S ops ⟨some d, .slice t x none (some z) (some u), T, pos, aft, none⟩ (opT x ++ opT z ++ opT u) [o] [(d, some (.v (SRef.mk o 0 xs.length)))] [] st :=
  OpOk.value rfl rfl (by simpa using hn) fun st1 hag G w a hr => by
    obtain ⟨ad, n, c, h1, h2⟩ := RelV.ref (hr.at hag hx fun t ht => by simp [ht])
    have e2 := RelV.int (hr.at hag hy fun t ht => by simp [ht])
    have e4 := RelV.int (hr.at hag hu fun t ht => by simp [ht])
    have hob := hr.objs o
    rw [hag.ob o (by simp), ho] at hob
    obtain ⟨b, cap, cs, e, k1, k2', k3', _⟩ := hob
    have k0 := k1
    rw [h2] at k1
    injection k1 with k1
    injection k1 with k1 k2 k3
    subst k1 k2 k3
    obtain ⟨q1, q2⟩ := sl.elem
    refine ⟨sliced (some ⟨b, 0, none⟩) 0 h.toNat h.toNat (Enc.size Int), ?_, [_], ⟨b, xs.length, h.toNat, c, ?_, k0, by show xs.length ≤ h.toNat; omega⟩, by simp [Enc.val, Enc.agg]; rfl⟩
    · simp only [execOp, h1, e2, e4, Option.map_none, Option.map_some, Sem.run_bind, run_sliceAt_slice _ _ _ _ _ _ q1, run_slice_hm w t _ xs.length c q1 .i64 .i64 h h (by omega) (by omega) (by omega), q2, sl.el.size, Result.andThen_ok, Sem.run_pure]
    · have hh : h.toNat = xs.length := by omega
      simp only [sliced, hh]
      split <;> simp [Addr.add]
theorem op_ixS {E bytes t : TypeId} {o n : Nat} {i : Int} (sl : SlOk P t E bytes Int) (hx : st.ev x = some (.v (SRef.mk o 0 n))) (hy : st.ev y = some (.v i)) (hn : Nat.blt d st.n = true)
    (h0 : 0 ≤ i ∧ i < (n : Int)) : OpOk P S ops ⟨some d, .indexAddr t x y, T, pos, aft, none⟩ (opT x ++ opT y) [] [(d, some (.elm o i.toNat (IsLens.whole Int)))] [] st :=
  OpOk.value rfl rfl (by simpa using hn) fun st1 hag G w a hr => by
    obtain ⟨b, m, c, c', h1, h2, _⟩ := RelV.sref (hr.at hag hx fun t ht => by simp [ht])
    have e2 := RelV.int (hr.at hag hy fun t ht => by simp [ht])
    refine ⟨.pointer (some ⟨b, i.toNat * Enc.size Int, none⟩), ?_, b, _, _, h2, by simp⟩
    have hsz := sl.el.size w
    simp only [execOp, Instr.indexAt, Sem.run_bind, h1, e2, asIntOf, Sem.run_pure, Result.andThen_ok, run_underlying sl.spec.1]
    simp [h0, hsz, add_lit]
/-- A row that is handed out for good. -/
theorem frz_sref {o : Nat} {xs : List Int} (hB : xs.length ≤ big) : ∀ (G : Gh) (wd : Go.World) (u : Value), RelV G wd (.ret, []) (.v (SRef.mk o 0 xs.length)) u → (∀ k, RelO G wd k (Go.Wt.obs [(o, .arr xs)] k)) →
    ∃ G', RelV G' wd (.ret, []) (.v xs) u ∧ (∀ o, RelO G' wd o .free) ∧ ∀ S, (∀ o, ¬ S o) → Keep S G wd G' wd := by
  intro G wd u h ho
  obtain ⟨b, m, c, c', h1, h2, h3⟩ := RelV.sref h
  obtain ⟨b', n, k1, k2, k3, k4, k5⟩ := frz_elems (by have := ho o; simpa [obs, lk0, orr] using this) hB
  have k0 := k1
  rw [h2] at k1
  injection k1 with k1
  injection k1 with e1 _ _
  injection e1 with e1
  injection e1 with e1 _ _
  subst e1
  exact ⟨_, ⟨[u], ⟨some ⟨b, 0, none⟩, c, by rw [h1], h3, k5⟩, rfl⟩, frz_free, k3⟩
end Go.Wt
namespace Go.Wt
/-! ### Books -/
def payF (b : List Int) (p : Pay) : List Int :=
  if p.sum ≤ b.getD (p.frm - 1).toNat 0 then
    (b.set (p.frm - 1).toNat (b.getD (p.frm - 1).toNat 0 - p.sum)).set (p.to - 1).toNat ((b.set (p.frm - 1).toNat (b.getD (p.frm - 1).toNat 0 - p.sum)).getD (p.to - 1).toNat 0 + p.sum)
  else b
def bookF (c : List Itm) : List Int := c.foldl (fun b x => payF b x.pay) [9, 9, 9]
def Bk (b : List Int) : Prop := ∃ x y z : Int, b = [x, y, z] ∧ 0 ≤ x ∧ 0 ≤ y ∧ 0 ≤ z ∧ x + y + z = 27
theorem Bk.new : Bk [9, 9, 9] := ⟨9, 9, 9, rfl, by decide, by decide, by decide, by decide⟩
theorem pay_bd {p : Pay} (h : payOk p = true) : (1 ≤ p.frm ∧ p.frm ≤ 3) ∧ (1 ≤ p.to ∧ p.to ≤ 3) ∧ p.frm ≠ p.to ∧ 1 ≤ p.sum ∧ p.sum ≤ 9 := by
  simp only [payOk, within, Bool.and_eq_true, decide_eq_true_eq, bne_iff_ne] at h
  exact ⟨h.1.1.1, h.1.1.2, h.1.2, h.2⟩
theorem Bk.pay {b : List Int} {p : Pay} (h : Bk b) (hp : payOk p = true) : Bk (payF b p) := by
  obtain ⟨x, y, z, rfl, hx, hy, hz, hs⟩ := h
  obtain ⟨h1, h2, h3, h4⟩ := pay_bd hp
  obtain ⟨f, t, s⟩ := p
  simp only at h1 h2 h3 h4
  have hf : f = 1 ∨ f = 2 ∨ f = 3 := by omega
  have ht : t = 1 ∨ t = 2 ∨ t = 3 := by omega
  unfold payF
  split
  · rename_i hh
    rcases hf with rfl | rfl | rfl <;> rcases ht with rfl | rfl | rfl <;> first | (exfalso; omega) | (simp at hh ⊢; exact ⟨_, _, _, rfl, by omega, by omega, by omega, by omega⟩)
  · exact ⟨x, y, z, rfl, hx, hy, hz, hs⟩
theorem Bk.at {b : List Int} (h : Bk b) {k : Nat} (hk : k < 3) : ∃ v, b[k]? = some v ∧ b.getD k 0 = v ∧ 0 ≤ v ∧ v ≤ 27 := by
  obtain ⟨x, y, z, rfl, hx, hy, hz, hs⟩ := h
  have : k = 0 ∨ k = 1 ∨ k = 2 := by omega
  rcases this with rfl | rfl | rfl
  · exact ⟨x, rfl, rfl, hx, by omega⟩
  · exact ⟨y, rfl, rfl, hy, by omega⟩
  · exact ⟨z, rfl, rfl, hz, by omega⟩
theorem Bk.len {b : List Int} (h : Bk b) : b.length = 3 := by obtain ⟨x, y, z, rfl, _⟩ := h; rfl
theorem chainFrom_pay : ∀ (c : List Itm) (e : Int), chainFrom e c = true → ∀ x ∈ c, payOk x.pay = true
  | [], _, _, x, hx => by cases hx
  | y :: c, e, h, x, hx => by
    simp only [chainFrom, Bool.and_eq_true] at h
    rcases List.mem_cons.1 hx with rfl | hx
    · exact h.1.1.2
    · exact chainFrom_pay c _ h.2 x hx
theorem chainOk_pay {c : List Itm} (h : chainOk c = true) : ∀ x ∈ c, payOk x.pay = true := by
  simp only [chainOk, Bool.and_eq_true] at h
  exact chainFrom_pay c 0 h.1
theorem fold_bk : ∀ (l : List Itm) {b : List Int}, Bk b → (∀ x ∈ l, payOk x.pay = true) → Bk (l.foldl (fun b x => payF b x.pay) b)
  | [], _, h, _ => h
  | x :: l, _, h, hp => fold_bk l (h.pay (hp x (by simp))) fun y hy => hp y (by simp [hy])
end Go.Wt
namespace Go.Wt
def psum (b : List Int) (k : Nat) : Int := (b.take k).foldl (fun (s v : Int) => s + v) 0
theorem psum_step {b : List Int} {k : Nat} {v : Int} (h : b[k]? = some v) : psum b (k + 1) = psum b k + v := foldl_at (fun (s v : Int) => s + v) 0 h
theorem psum_bd {b : List Int} (h : Bk b) {k : Nat} (hk : k ≤ 3) : 0 ≤ psum b k ∧ psum b k ≤ 27 := by
  obtain ⟨x, y, z, rfl, hx, hy, hz, hs⟩ := h
  have : k = 0 ∨ k = 1 ∨ k = 2 ∨ k = 3 := by omega
  rcases this with rfl | rfl | rfl | rfl <;> simp [psum] <;> omega
theorem psum_all {b : List Int} (h : Bk b) : psum b 3 = 27 := by
  obtain ⟨x, y, z, rfl, hx, hy, hz, hs⟩ := h
  simp [psum]; omega
theorem book_bk {c : List Itm} (h : chainOk c = true) : Bk (bookF c) := fold_bk c Bk.new (chainOk_pay h)
end Go.Wt

/- Books. -/
set_option linter.unusedVariables false
set_option linter.unusedSimpArgs false
namespace Go.Proofs.Ytmabpmlcclgecaa
open Go Go.Wt
theorem mul64_ct : CtP Try.prog 126 [.v (UN.mk 1), .v (UN.mk 3)] (.tup [.v (UN.mk 0), .v (UN.mk 3)]) := by
  refine Ct.intro Try.func126 rfl rfl ?_
  all_goals refine awp_seq (awp_region (id := 0) ?_)
  all_goals refine awpOps_cons (op_asU rfl) ?_
  all_goals refine awpOps_cons (op_asU rfl) ?_
  all_goals refine awpOps_nil ?_
  all_goals refine awp_seq (awp_region (id := 1) ?_)
  all_goals refine awpOps_cons (op_mv rfl (Conv.of rfl) rfl) ?_
  all_goals refine awpOps_cons (un_binc rfl rfl (fun w => rfl) (fun G w ω => relUN G w ω ⟨1⟩)) ?_
  all_goals refine awpOps_cons (op_as rfl (Conv.of rfl) rfl) ?_
  all_goals refine awpOps_nil ?_
  all_goals refine awp_seq (awp_region (id := 2) ?_)
  all_goals refine awpOps_cons (op_mv rfl (Conv.of rfl) rfl) ?_
  all_goals refine awpOps_cons (un_binc rfl rfl (fun w => rfl) (fun G w ω => relUN G w ω ⟨0⟩)) ?_
  all_goals refine awpOps_cons (op_as rfl (Conv.of rfl) rfl) ?_
  all_goals refine awpOps_nil ?_
  all_goals refine awp_seq (awp_region (id := 3) ?_)
  all_goals refine awpOps_cons (op_mv rfl (Conv.of rfl) rfl) ?_
  all_goals refine awpOps_cons (un_binc rfl rfl (fun w => rfl) (fun G w ω => relUN G w ω ⟨3⟩)) ?_
  all_goals refine awpOps_cons (op_as rfl (Conv.of rfl) rfl) ?_
  all_goals refine awpOps_nil ?_
  all_goals refine awp_seq (awp_region (id := 4) ?_)
  all_goals refine awpOps_cons (op_mv rfl (Conv.of rfl) rfl) ?_
  all_goals refine awpOps_cons (un_binc rfl rfl (fun w => rfl) (fun G w ω => relUN G w ω ⟨0⟩)) ?_
  all_goals refine awpOps_cons (op_as rfl (Conv.of rfl) rfl) ?_
  all_goals refine awpOps_nil ?_
  all_goals refine awp_seq (awp_region (id := 5) ?_)
  all_goals refine awpOps_cons (op_mv rfl (Conv.of rfl) rfl) ?_
  all_goals refine awpOps_cons (op_mv rfl (Conv.of rfl) rfl) ?_
  all_goals refine awpOps_cons (un_bin rfl rfl rfl (fun w => rfl) (fun G w ω => relUN G w ω ⟨3⟩)) ?_
  all_goals refine awpOps_cons (op_as rfl (Conv.of rfl) rfl) ?_
  all_goals refine awpOps_nil ?_
  all_goals refine awp_seq (awp_region (id := 6) ?_)
  all_goals refine awpOps_cons (op_mv rfl (Conv.of rfl) rfl) ?_
  all_goals refine awpOps_cons (op_mv rfl (Conv.of rfl) rfl) ?_
  all_goals refine awpOps_cons (un_bin rfl rfl rfl (fun w => rfl) (fun G w ω => relUN G w ω ⟨0⟩)) ?_
  all_goals refine awpOps_cons (op_mv rfl (Conv.of rfl) rfl) ?_
  all_goals refine awpOps_cons (un_binc rfl rfl (fun w => rfl) (fun G w ω => relUN G w ω ⟨0⟩)) ?_
  all_goals refine awpOps_cons (un_bin rfl rfl rfl (fun w => rfl) (fun G w ω => relUN G w ω ⟨0⟩)) ?_
  all_goals refine awpOps_cons (op_as rfl (Conv.of rfl) rfl) ?_
  all_goals refine awpOps_nil ?_
  all_goals refine awp_seq (awp_region (id := 7) ?_)
  all_goals refine awpOps_cons (op_mv rfl (Conv.of rfl) rfl) ?_
  all_goals refine awpOps_cons (un_binc rfl rfl (fun w => rfl) (fun G w ω => relUN G w ω ⟨0⟩)) ?_
  all_goals refine awpOps_cons (op_as rfl (Conv.of rfl) rfl) ?_
  all_goals refine awpOps_nil ?_
  all_goals refine awp_seq (awp_region (id := 8) ?_)
  all_goals refine awpOps_cons (op_mv rfl (Conv.of rfl) rfl) ?_
  all_goals refine awpOps_cons (un_binc rfl rfl (fun w => rfl) (fun G w ω => relUN G w ω ⟨0⟩)) ?_
  all_goals refine awpOps_cons (op_as rfl (Conv.of rfl) rfl) ?_
  all_goals refine awpOps_nil ?_
  all_goals refine awp_seq (awp_region (id := 9) ?_)
  all_goals refine awpOps_cons (op_mv rfl (Conv.of rfl) rfl) ?_
  all_goals refine awpOps_cons (op_mv rfl (Conv.of rfl) rfl) ?_
  all_goals refine awpOps_cons (op_mv rfl (Conv.of rfl) rfl) ?_
  all_goals refine awpOps_cons (un_bin rfl rfl rfl (fun w => rfl) (fun G w ω => relUN G w ω ⟨0⟩)) ?_
  all_goals refine awpOps_cons (un_bin rfl rfl rfl (fun w => rfl) (fun G w ω => relUN G w ω ⟨0⟩)) ?_
  all_goals refine awpOps_cons (op_as rfl (Conv.of rfl) rfl) ?_
  all_goals refine awpOps_nil ?_
  all_goals refine awp_seq (awp_region (id := 10) ?_)
  all_goals refine awpOps_cons (op_mv rfl (Conv.of rfl) rfl) ?_
  all_goals refine awpOps_cons (op_mv rfl (Conv.of rfl) rfl) ?_
  all_goals refine awpOps_cons (un_bin rfl rfl rfl (fun w => rfl) (fun G w ω => relUN G w ω ⟨0⟩)) ?_
  all_goals refine awpOps_cons (op_mv rfl (Conv.of rfl) rfl) ?_
  all_goals refine awpOps_cons (un_bin rfl rfl rfl (fun w => rfl) (fun G w ω => relUN G w ω ⟨0⟩)) ?_
  all_goals refine awpOps_cons (op_mv rfl (Conv.of rfl) rfl) ?_
  all_goals refine awpOps_cons (un_binc rfl rfl (fun w => rfl) (fun G w ω => relUN G w ω ⟨0⟩)) ?_
  all_goals refine awpOps_cons (un_bin rfl rfl rfl (fun w => rfl) (fun G w ω => relUN G w ω ⟨0⟩)) ?_
  all_goals refine awpOps_cons (op_as rfl (Conv.of rfl) rfl) ?_
  all_goals refine awpOps_nil ?_
  all_goals refine awp_seq (awp_region (id := 11) ?_)
  all_goals refine awpOps_cons (op_mv rfl (Conv.of rfl) rfl) ?_
  all_goals refine awpOps_cons (op_mv rfl (Conv.of rfl) rfl) ?_
  all_goals refine awpOps_cons (un_bin rfl rfl rfl (fun w => rfl) (fun G w ω => relUN G w ω ⟨3⟩)) ?_
  all_goals refine awpOps_cons (op_as rfl (Conv.of rfl) rfl) ?_
  all_goals refine awpOps_nil ?_
  refine awp_ret ?_
  repeat first | refine rt_seq ?_ | refine rt_block ?_
  exact finN (.cons (.v rfl (Conv.of rfl)) (.cons (.v rfl (Conv.of rfl)) .nil)) rfl rfl rfl
theorem mul_ct : CtP Try.prog 114 [.v (UN.mk 1), .v (UN.mk 3)] (.tup [.v (UN.mk 0), .v (UN.mk 3)]) := by
  refine Ct.intro Try.func114 rfl rfl ?_
  all_goals refine awp_seq (awp_region (id := 0) ?_)
  all_goals refine awpOps_cons (op_asU rfl) ?_
  all_goals refine awpOps_cons (op_asU rfl) ?_
  all_goals refine awpOps_nil ?_
  refine awp_seq (awp_cond rfl (fun h => absurd h (by decide)) (fun h => ?_))
  refine awp_skip ?_
  all_goals refine awp_seq (awp_region (id := 3) ?_)
  all_goals refine awpOps_cons (op_mv rfl (Conv.of rfl) rfl) ?_
  all_goals refine awpOps_cons (op_mv rfl (Conv.of rfl) rfl) ?_
  all_goals refine awpOps_cons (op_call fb126 (.cons rfl (Conv.of rfl) (.cons rfl (Conv.of rfl) (.nil _))) (mul64_ct) (argOk rfl rfl (argOk rfl rfl argOk0)) rfl rfl) ?_
  all_goals refine awpOps_cons (op_mv rfl (Conv.of rfl) rfl) ?_
  all_goals refine awpOps_cons (op_ext rfl rfl rfl) ?_
  all_goals refine awpOps_cons (op_ext rfl rfl rfl) ?_
  all_goals refine awpOps_cons (op_as rfl (Conv.of rfl) rfl) ?_
  all_goals refine awpOps_cons (op_as rfl (Conv.of rfl) rfl) ?_
  all_goals refine awpOps_nil ?_
  all_goals refine awp_seq (awp_region (id := 4) ?_)
  all_goals refine awpOps_cons (op_mv rfl (Conv.of rfl) rfl) ?_
  all_goals refine awpOps_cons (op_mv rfl (Conv.of rfl) rfl) ?_
  all_goals refine awpOps_cons (op_as rfl (Conv.of rfl) rfl) ?_
  all_goals refine awpOps_cons (op_as rfl (Conv.of rfl) rfl) ?_
  all_goals refine awpOps_nil ?_
  refine awp_ret ?_
  repeat first | refine rt_seq ?_ | refine rt_block ?_
  exact finN (.cons (.v rfl (Conv.of rfl)) (.cons (.v rfl (Conv.of rfl)) .nil)) rfl rfl rfl
def rep3 (k : Nat) : List Int := List.replicate k 9 ++ List.replicate (3 - k) 0
theorem repeat_ct : Ct Try.prog 91 [.v ([9] : List Int), .v (3 : Int)] noObj (fun r h => r = .v (NRef.ref 2) ∧ h = obs [(2, .arr ([9, 9, 9] : List Int))]) := by
  have hsl := sl52
  have hz : ZeroOk Try.prog 3 (0 : Int) := zero_mk (by kernel_rfl)
  refine Ct.intro Try.func91 rfl rfl ?_
  all_goals refine awp_seq (awp_region (id := 0) ?_)
  all_goals refine awpOps_cons (op_as rfl (Conv.of rfl) rfl) ?_
  all_goals refine awpOps_nil ?_
  all_goals refine awp_seq (awp_seq (awp_region (id := 1) ?_))
  all_goals refine awpOps_cons (op_mv rfl (Conv.of rfl) rfl) ?_
  all_goals refine awpOps_cons (op_lss rfl rfl rfl) ?_
  all_goals refine awpOps_nil ?_
  refine awp_cond rfl (fun h => absurd h (by decide)) (fun h => ?_)
  refine awp_skip ?_
  all_goals refine awp_seq (awp_region (id := 3) ?_)
  all_goals refine awpOps_cons (op_mv rfl (Conv.of rfl) rfl) ?_
  all_goals refine awpOps_cons (op_len sl52 rfl rfl) ?_
  all_goals refine awpOps_cons (op_cvU rfl rfl (by kernel_rfl) (by kernel_rfl) (by decide)) ?_
  all_goals refine awpOps_cons (op_mv rfl (Conv.of rfl) rfl) ?_
  all_goals refine awpOps_cons (op_cvU rfl rfl (by kernel_rfl) (by kernel_rfl) (by decide)) ?_
  all_goals refine awpOps_cons (op_call fb114 (.cons rfl (Conv.of rfl) (.cons rfl (Conv.of rfl) (.nil _))) (mul_ct) (argOk rfl rfl (argOk rfl rfl argOk0)) rfl rfl) ?_
  all_goals refine awpOps_cons (op_mv rfl (Conv.of rfl) rfl) ?_
  all_goals refine awpOps_cons (op_ext rfl rfl rfl) ?_
  all_goals refine awpOps_cons (op_ext rfl rfl rfl) ?_
  all_goals refine awpOps_cons (op_as rfl (Conv.of rfl) rfl) ?_
  all_goals refine awpOps_cons (op_as rfl (Conv.of rfl) rfl) ?_
  all_goals refine awpOps_nil ?_
  refine awp_seq (awp_seq_to (s' := mkSt 48 [(0, .v ([9] : List Int)), (6, .v (UN.mk 3)), (26, .v false)] []) ?_ ?_)
  · all_goals refine awp_region (id := 4) ?_
    all_goals refine awpOps_cons (op_mv rfl (Conv.of rfl) rfl) ?_
    all_goals refine awpOps_cons (un_binc rfl rfl (fun w => rfl) (fun G w ω => relBool G w ω false)) ?_
    all_goals refine awpOps_cons (op_mv rfl (Conv.of rfl) rfl) ?_
    all_goals refine g_lit (t := 23) (b := false) rfl ?_
    all_goals refine awpOps_cons (g_on rfl rfl rfl (op_mv rfl (Conv.of rfl) rfl)) ?_
    all_goals refine awpOps_cons (g_on rfl rfl rfl (un_binc rfl rfl (fun w => rfl) (fun G w ω => relBool G w ω false))) ?_
    all_goals refine awpOps_cons (op_pick rfl rfl rfl rfl) ?_
    all_goals refine awpOps_nil ?_
    all_goals exact Le.mk rfl (tle rfl (rfl) rfl (tle rfl (rfl) rfl (tle rfl (by rfl) rfl tln))) oln noS
  refine awp_cond rfl (fun h => absurd h (by decide)) (fun h => ?_)
  refine awp_skip ?_
  all_goals refine awp_seq (awp_region (id := 6) ?_)
  all_goals refine awpOps_cons (op_mv rfl (Conv.of rfl) rfl) ?_
  all_goals refine awpOps_cons (op_cvI rfl rfl (by kernel_rfl) (by kernel_rfl) (by decide)) ?_
  all_goals refine awpOps_cons (op_mkA (o := 2) hsl hz rfl (by decide) (by decide) (by decide) rfl rfl) ?_
  all_goals refine awpOps_cons (op_as rfl (Conv.of rfl) rfl) ?_
  all_goals refine awpOps_nil ?_
  all_goals refine awp_seq (awp_region (id := 7) ?_)
  all_goals refine awpOps_cons (op_mv rfl (Conv.of rfl) rfl) ?_
  all_goals refine awpOps_cons (op_mv rfl (Conv.of rfl) rfl) ?_
  all_goals refine awpOps_cons (op_copy1 hsl (dst_ref rfl (fun t ht => List.mem_append_left _ ht) rfl (by simp)) (fst_list (v := 9) (l := []) rfl (fun t ht => List.mem_append_right _ ht)) rfl (by decide) rfl rfl) ?_
  all_goals refine awpOps_cons (op_as rfl (Conv.of rfl) rfl) ?_
  all_goals refine awpOps_nil ?_
  refine awp_seq (awp_block ?_)
  refine awp_loop' (fun n_ s => ∃ (k : Nat), ∃ (hk : n_ + k = 3), ∃ (h1 : 1 ≤ k), s = mkSt 48 [(7, .v (NRef.ref 2)), (8, .v (k : Int))] [(2, .arr (rep3 k))]) (2) ⟨1, by omega, by omega, rfl⟩ (Le.mk rfl (tlb rfl rfl rfl (tle rfl (by rfl) rfl tln)) (olk (by rfl) (by exact obOk_arr) oln) noS) ?_
  rintro n_ s ⟨k, hk, h1, rfl⟩
  all_goals refine awp_seq (awp_seq (awp_region (id := 8) ?_))
  all_goals refine awpOps_cons (op_mv rfl (Conv.of rfl) rfl) ?_
  all_goals refine awpOps_cons (op_mv rfl (Conv.of rfl) rfl) ?_
  all_goals refine awpOps_cons (op_lenA sl52 rfl rfl rfl) ?_
  all_goals refine awpOps_cons (op_lss rfl rfl rfl) ?_
  all_goals refine awpOps_nil ?_
  refine awp_cond rfl (fun h => ?_) (fun h => ?_)
  · have hcase : k = 1 ∨ k = 2 := by simp [rep3] at h; omega
    rcases hcase with rfl | rfl
    · refine awp_skip ?_
      refine awp_block ?_
      all_goals refine dr_start (id := 9) ?_
      all_goals refine dr_cons (op_mv rfl (Conv.of rfl) rfl) ?_
      all_goals refine dr_cons (op_mv rfl (Conv.of rfl) rfl) ?_
      all_goals refine dr_cons (op_mv rfl (Conv.of rfl) rfl) ?_
      all_goals refine dr_cons (op_slA hsl rfl rfl rfl rfl (by decide)) ?_
      all_goals refine dr_cons (op_mv rfl (Conv.of rfl) rfl) ?_
      all_goals refine dr_cons (op_mv rfl (Conv.of rfl) rfl) ?_
      all_goals refine dr_cons (op_slAh hsl rfl rfl rfl rfl (by decide)) ?_
      all_goals refine dr_cons (op_copy1 (v := 9) hsl (dst_sref rfl (fun t ht => List.mem_append_left _ ht)) (fst_sref rfl (fun t ht => List.mem_append_right _ ht) rfl (by simp) rfl) rfl (by decide) rfl rfl) ?_
      all_goals refine dr_cons (op_add rfl rfl rfl (by decide)) ?_
      all_goals refine dr_cons (op_as rfl (Conv.of rfl) rfl) ?_
      all_goals refine dr_nil mixed rfl ?_
      repeat first | refine nx_seq ?_ | refine nx_block ?_
      exact ⟨1, _, by omega, ⟨2, by omega, by omega, rfl⟩, Le.mk rfl (tlb rfl rfl rfl (tle rfl (by rfl) rfl tln)) (olk (by rfl) (by exact obOk_arr) oln) noS⟩
    · refine awp_skip ?_
      refine awp_block ?_
      all_goals refine dr_start (id := 9) ?_
      all_goals refine dr_cons (op_mv rfl (Conv.of rfl) rfl) ?_
      all_goals refine dr_cons (op_mv rfl (Conv.of rfl) rfl) ?_
      all_goals refine dr_cons (op_mv rfl (Conv.of rfl) rfl) ?_
      all_goals refine dr_cons (op_slA hsl rfl rfl rfl rfl (by decide)) ?_
      all_goals refine dr_cons (op_mv rfl (Conv.of rfl) rfl) ?_
      all_goals refine dr_cons (op_mv rfl (Conv.of rfl) rfl) ?_
      all_goals refine dr_cons (op_slAh hsl rfl rfl rfl rfl (by decide)) ?_
      all_goals refine dr_cons (op_copy1 (v := 9) hsl (dst_sref rfl (fun t ht => List.mem_append_left _ ht)) (fst_sref rfl (fun t ht => List.mem_append_right _ ht) rfl (by simp) rfl) rfl (by decide) rfl rfl) ?_
      all_goals refine dr_cons (op_add rfl rfl rfl (by decide)) ?_
      all_goals refine dr_cons (op_as rfl (Conv.of rfl) rfl) ?_
      all_goals refine dr_nil mixed rfl ?_
      repeat first | refine nx_seq ?_ | refine nx_block ?_
      exact ⟨0, _, by omega, ⟨3, by omega, by omega, rfl⟩, Le.mk rfl (tlb rfl rfl rfl (tle rfl (by rfl) rfl tln)) (olk (by rfl) (by exact obOk_arr) oln) noS⟩
  · refine awp_exit ?_
    repeat refine ex_seq ?_
    refine ex_block ?_
    have hk3 : k = 3 := by simp [rep3] at h; omega
    subst hk3
    all_goals refine awp_seq (awp_region (id := 10) ?_)
    all_goals refine awpOps_cons (op_mv rfl (Conv.of rfl) rfl) ?_
    all_goals refine awpOps_cons (op_as rfl (Conv.of rfl) rfl) ?_
    all_goals refine awpOps_nil ?_
    refine awp_ret ?_
    repeat first | refine rt_seq ?_ | refine rt_block ?_
    refine ⟨_, _, res1 (ol := [(2, .arr (rep3 3))]) (.v rfl (Conv.of rfl)) (fun o ho => ?_) (olk rfl obOk_arr oln) noS, rfl, rfl⟩
    have : o = 2 := by simpa using (show o ∈ [2] from ho)
    subst this; rfl
theorem clipN_ct (xs : List Int) (h : xs.length ≤ 1000) : Ct Try.prog 90 [.v (NRef.ref 2)] (obs [(2, .arr xs)]) (fun r h => r = .v (SRef.mk 2 0 xs.length) ∧ h = obs [(2, .arr xs)]) := by
  have hsl := sl52
  refine Ct.intro Try.func90 rfl rfl ?_
  all_goals refine awp_seq (awp_region (id := 0) ?_)
  all_goals refine awpOps_cons (op_as rfl (Conv.of rfl) rfl) ?_
  all_goals refine awpOps_nil ?_
  all_goals refine awp_seq (awp_region (id := 1) ?_)
  all_goals refine awpOps_cons (op_mv rfl (Conv.of rfl) rfl) ?_
  all_goals refine awpOps_cons (op_mv rfl (Conv.of rfl) rfl) ?_
  all_goals refine awpOps_cons (op_lenA sl52 rfl rfl rfl) ?_
  all_goals refine awpOps_cons (op_mv rfl (Conv.of rfl) rfl) ?_
  all_goals refine awpOps_cons (op_lenA sl52 rfl rfl rfl) ?_
  all_goals refine awpOps_cons (op_slAhm hsl rfl rfl rfl rfl rfl rfl) ?_
  all_goals refine awpOps_cons (op_as rfl (Conv.of rfl) rfl) ?_
  all_goals refine awpOps_nil ?_
  refine awp_ret ?_
  repeat first | refine rt_seq ?_ | refine rt_block ?_
  refine finO1 [(2, .arr xs)] (.v rfl (Conv.of rfl)) (fun o ho => ?_) (olk rfl obOk_arr oln) (hS_keys rfl) rfl
  have : o = 2 := by simpa using (show o ∈ [2] from ho)
  subst this; rfl
set_option maxHeartbeats 1000000 in
theorem pay_ct (b : List Int) (p : Pay) (hb : Bk b) (hp : payOk p = true) : CtO Try.prog 61 [.v (SRef.mk 2 0 3), .v p] [(2, .arr b)] (.tup []) [(2, .arr (payF b p))] := by
  have hsl := sl52
  have hbd := pay_bd hp
  have hlen := hb.len
  obtain ⟨v, hv, hvd, hv0, hv27⟩ := hb.at (k := (p.frm - 1).toNat) (by omega)
  have hvl : (p.frm - 1).toNat < b.length := by omega
  obtain ⟨u, hu, hud, hu0, hu27⟩ := hb.at (k := (p.to - 1).toNat) (by omega)
  have hne : (p.frm - 1).toNat ≠ (p.to - 1).toNat := by omega
  have hu' : (b.set (p.frm - 1).toNat (v - p.sum))[(p.to - 1).toNat]? = some u := by rw [List.getElem?_set_ne hne]; exact hu
  have hud' : (b.set (p.frm - 1).toNat (v - p.sum)).getD (p.to - 1).toNat 0 = u := by rw [List.getD_eq_getElem?_getD, hu']; rfl
  refine Ct.intro Try.func61 rfl rfl ?_
  all_goals refine awp_seq (awp_region (id := 0) ?_)
  all_goals refine awpOps_cons (op_box (o := 3) ty36 rfl (Conv.of rfl) rfl rfl) ?_
  all_goals refine awpOps_nil ?_
  all_goals refine awp_seq (dr_start (id := 1) ?_)
  all_goals refine dr_cons (op_mv rfl (Conv.of rfl) rfl) ?_
  all_goals refine dr_cons (op_fab f36_0 rfl rfl) ?_
  all_goals refine dr_cons (op_ld ty3 rfl rfl rfl) ?_
  all_goals refine dr_cons (op_sub rfl rfl rfl (by omega)) ?_
  all_goals refine dr_cons (op_ixS hsl rfl rfl rfl (by omega)) ?_
  all_goals refine dr_cons (op_lde ty3 rfl rfl hv rfl) ?_
  all_goals refine dr_cons (op_fab f36_2 rfl rfl) ?_
  all_goals refine dr_cons (op_ld ty3 rfl rfl rfl) ?_
  all_goals refine dr_cons (op_geq rfl rfl rfl) ?_
  all_goals refine dr_nil mixed rfl ?_
  refine awp_cond rfl (fun h => ?_) (fun h => ?_)
  · have hle : p.sum ≤ v := by simpa using h
    have hpay : payF b p = (b.set (p.frm - 1).toNat (v - p.sum)).set (p.to - 1).toNat (u + p.sum) := by
      unfold payF; rw [hvd, if_pos hle, hud']
    all_goals refine awp_seq (dr_start (id := 2) ?_)
    all_goals refine dr_cons (op_mv rfl (Conv.of rfl) rfl) ?_
    all_goals refine dr_cons (op_fab f36_0 rfl rfl) ?_
    all_goals refine dr_cons (op_ld ty3 rfl rfl rfl) ?_
    all_goals refine dr_cons (op_sub rfl rfl rfl (by omega)) ?_
    all_goals refine dr_cons (op_ixS hsl rfl rfl rfl (by omega)) ?_
    all_goals refine dr_cons (op_lde ty3 rfl rfl hv rfl) ?_
    all_goals refine dr_cons (op_fab f36_2 rfl rfl) ?_
    all_goals refine dr_cons (op_ld ty3 rfl rfl rfl) ?_
    all_goals refine dr_cons (op_sub rfl rfl rfl (by omega)) ?_
    all_goals refine dr_cons (op_ixS hsl rfl rfl rfl (by omega)) ?_
    all_goals refine dr_cons (op_ste ty3 rfl rfl (Conv.of rfl) rfl hv) ?_
    all_goals refine dr_nil mixed rfl ?_
    all_goals refine dr_start (id := 3) ?_
    all_goals refine dr_cons (op_mv rfl (Conv.of rfl) rfl) ?_
    all_goals refine dr_cons (op_fab f36_1 rfl rfl) ?_
    all_goals refine dr_cons (op_ld ty3 rfl rfl rfl) ?_
    all_goals refine dr_cons (op_sub rfl rfl rfl (by omega)) ?_
    all_goals refine dr_cons (op_ixS hsl rfl rfl rfl (by omega)) ?_
    all_goals refine dr_cons (op_lde ty3 rfl rfl hu' rfl) ?_
    all_goals refine dr_cons (op_fab f36_2 rfl rfl) ?_
    all_goals refine dr_cons (op_ld ty3 rfl rfl rfl) ?_
    all_goals refine dr_cons (op_add rfl rfl rfl (by omega)) ?_
    all_goals refine dr_cons (op_ixS hsl rfl rfl rfl (by omega)) ?_
    all_goals refine dr_cons (op_ste ty3 rfl rfl (Conv.of rfl) rfl hu') ?_
    all_goals refine dr_nil mixed rfl ?_
    rw [hpay]
    refine finO [(2, .arr _)] .nil rfl (fun o ho => by cases ho) ?_ (hS_keys rfl) rfl
    exact (olk rfl obOk_arr oln)
  · have hle : ¬ p.sum ≤ v := by simpa using h
    have hpay : payF b p = b := by unfold payF; rw [hvd, if_neg hle]
    rw [hpay]
    refine awp_skip ?_
    refine finO [(2, .arr b)] .nil rfl (fun o ho => by cases ho) ?_ (hS_keys rfl) rfl
    exact (olk rfl obOk_arr oln)
theorem bookNew_ct : Ct Try.prog 60 [] noObj (fun r h => r = .v (SRef.mk 2 0 3) ∧ h = obs [(2, .arr ([9, 9, 9] : List Int))]) := by
  have hclip : CtO Try.prog 90 [.v (NRef.ref 2)] [(2, .arr ([9, 9, 9] : List Int))] (.v (SRef.mk 2 0 3)) [(2, .arr ([9, 9, 9] : List Int))] := clipN_ct [9, 9, 9] (by decide)
  refine Ct.intro Try.func60 rfl rfl ?_
  all_goals refine awp_seq (awp_region (id := 0) ?_)
  all_goals refine awpOps_cons (op_as rfl (Conv.of rfl) rfl) ?_
  all_goals refine awpOps_nil ?_
  all_goals refine awp_seq (awp_region (id := 1) ?_)
  all_goals refine awpOps_cons (op_bsl sl52 z3 (.cons rfl (Conv.of rfl) (.nil _)) rfl (by decide) rfl) ?_
  refine awpOps_callO [] rfl fb91 (.cons rfl (Conv.ol) (.cons rfl (Conv.of rfl) (.nil _))) repeat_ct ols0 oks0 (argOk' rfl rfl (argOk' rfl rfl argO0)) rfl ?_
  rintro r h' ⟨rfl, rfl⟩
  refine ⟨[(2, .arr ([9, 9, 9] : List Int))], rfl, (fun o ho => by cases ho), fun o ho _ => ?_, oksk obOk_arr oks0, fun o ho => ?_, ?_⟩
  · have : o = 2 := by simpa [keys, lk0] using ho
    subst this; rfl
  · have : o = 2 := by simpa using (show o ∈ [2] from ho)
    subst this; rfl
  all_goals refine awpOps_cons (op_callO fb90 (.cons rfl (Conv.of rfl) (.nil _)) (hclip) (olsk rfl ols0) (oksk (by exact obOk_arr) oks0) (oksk (by exact obOk_arr) oks0) rfl (argOb rfl rfl rfl argO0) (fun o ho => by have : o = 2 := (by simpa using (show o ∈ [2] from ho)); subst this; rfl) rfl) ?_
  all_goals refine awpOps_cons (op_as rfl (Conv.of rfl) rfl) ?_
  all_goals refine awpOps_nil ?_
  refine awp_ret ?_
  repeat first | refine rt_seq ?_ | refine rt_block ?_
  refine ⟨_, _, res1 (ol := [(2, .arr ([9, 9, 9] : List Int))]) (.v rfl (Conv.of rfl)) (fun o ho => ?_) (olk rfl obOk_arr oln) noS, rfl, rfl⟩
  have : o = 2 := by simpa using (show o ∈ [2] from ho)
  subst this; rfl
theorem bookOfA_ct (c : List Itm) (h : chainOk c = true) : Ct Try.prog 27 [.v c] noObj (fun r h => r = .v (SRef.mk 2 0 3) ∧ h = obs [(2, .arr (bookF c))]) := by
  have hcp := chainOk_pay h
  refine Ct.intro Try.func27 rfl rfl ?_
  refine awp_bigL 0 rfl (fun hB => ?_)
  all_goals refine awp_seq (awp_region (id := 0) ?_)
  all_goals refine awpOps_cons (op_as rfl (Conv.of rfl) rfl) ?_
  all_goals refine awpOps_nil ?_
  all_goals refine awp_seq (awp_seq (awp_region (id := 1) ?_))
  all_goals refine awpOps_cons (op_mv rfl (Conv.of rfl) rfl) ?_
  all_goals refine awpOps_cons (op_call fb22 (.cons rfl (Conv.of rfl) (.nil _)) (chainOk_ct _) (argOk rfl rfl argOk0) rfl rfl) ?_
  all_goals refine awpOps_cons (op_not rfl rfl) ?_
  all_goals refine awpOps_nil ?_
  refine awp_cond rfl (fun h2 => absurd (not_t h2) (by rw [h]; decide)) (fun h2 => ?_)
  refine awp_skip ?_
  all_goals refine awp_seq (awp_region (id := 3) ?_)
  refine awpOps_callO [] rfl fb60 (.nil _) bookNew_ct ols0 oks0 argO0 rfl ?_
  rintro r h' ⟨rfl, rfl⟩
  refine ⟨[(2, .arr ([9, 9, 9] : List Int))], rfl, (fun o ho => by cases ho), fun o ho _ => ?_, oksk obOk_arr oks0, fun o ho => ?_, ?_⟩
  · have : o = 2 := by simpa [keys, lk0] using ho
    subst this; rfl
  · have : o = 2 := by simpa using (show o ∈ [2] from ho)
    subst this; rfl
  all_goals refine awpOps_cons (op_as rfl (Conv.of rfl) rfl) ?_
  all_goals refine awpOps_nil ?_
  all_goals refine awp_seq (awp_seq (awp_region (id := 4) ?_))
  all_goals refine awpOps_cons (op_mv rfl (Conv.of rfl) rfl) ?_
  all_goals refine awpOps_cons (op_len sl26 rfl rfl) ?_
  all_goals refine awpOps_cons (op_mv rfl (Conv.of rfl) rfl) ?_
  all_goals refine awpOps_nil ?_
  refine awp_block ?_
  refine awp_loop' (fun n_ s => ∃ (k : Nat), ∃ (hn : n_ + k = c.length), s = mkSt 22 [(3, .v (SRef.mk 2 0 3)), (10, .v c), (11, .v (c.length : Int)), (12, .v (k : Int))] [(2, .arr ((c.take k).foldl (fun (b : List Int) (x : Itm) => payF b x.pay) [9, 9, 9]))]) (c.length) ⟨0, by omega, rfl⟩ (Le.mk rfl (tlb rfl rfl rfl (tle rfl (rfl) rfl (tle rfl (rfl) rfl (tle rfl (rfl) rfl tln)))) (olk (by rfl) (by exact obOk_arr) oln) noS) ?_
  rintro n_ s ⟨k, hn, rfl⟩
  have hbk := fold_bk (c.take k) Bk.new (fun x hx => hcp x (List.mem_of_mem_take hx))
  all_goals refine awp_seq (awp_region (id := 5) ?_)
  all_goals refine awpOps_cons (op_lss rfl rfl rfl) ?_
  all_goals refine awpOps_nil ?_
  refine awp_seq (awp_cond rfl (fun h3 => ?_) (fun h3 => ?_))
  · have hlt : k < c.length := by simpa using h3
    have hx : c[k]? = some c[k] := List.getElem?_eq_getElem hlt
    have hpk := hcp _ (List.getElem_mem hlt)
    refine awp_skip ?_
    refine awp_seq (awp_block ?_)
    all_goals refine awp_seq (awp_region (id := 6) ?_)
    all_goals refine awpOps_cons (op_ix sl26 rfl rfl rfl (by omega) hx) ?_
    all_goals refine awpOps_cons (op_ldr ty38 rfl rfl) ?_
    all_goals refine awpOps_cons (op_alloc (o := 6) z38 rfl rfl) ?_
    all_goals refine awpOps_cons (op_st ty38 rfl rfl (Conv.of rfl) rfl) ?_
    all_goals refine awpOps_nil ?_
    all_goals refine awp_region (id := 7) ?_
    all_goals refine awpOps_cons (op_mv rfl (Conv.of rfl) rfl) ?_
    all_goals refine awpOps_cons (op_fab f38_1 rfl rfl) ?_
    all_goals refine awpOps_cons (op_ld ty36 rfl rfl rfl) ?_
    all_goals refine awpOps_cons (op_callO fb61 (.cons rfl (Conv.of rfl) (.cons rfl (Conv.of rfl) (.nil _))) (pay_ct _ c[k].pay hbk hpk) (olsk rfl ols0) (oksk (by exact obOk_arr) oks0) (oksk (by exact obOk_arr) oks0) rfl (argOb rfl rfl rfl (argOk' rfl rfl argO0)) (fun o ho => by cases ho) rfl) ?_
    all_goals refine awpOps_nil ?_
    all_goals refine awp_region (id := 8) ?_
    all_goals refine awpOps_cons (op_add rfl rfl rfl (by omega)) ?_
    all_goals refine awpOps_cons (op_mv rfl (Conv.of rfl) rfl) ?_
    all_goals refine awpOps_nil ?_
    repeat first | refine nx_seq ?_ | refine nx_block ?_
    exact ⟨n_ - 1, _, by omega, ⟨k + 1, by omega, rfl⟩, Le.mk rfl (tlb rfl rfl rfl (tle rfl (rfl) rfl (tle rfl (rfl) rfl (tle rfl (rfl) rfl tln)))) (olk (by (rw [foldl_at (fun (b : List Int) (x : Itm) => payF b x.pay) _ hx]; rfl)) (by exact obOk_arr) oln) noS⟩
  · refine awp_exit ?_
    repeat refine ex_seq ?_
    refine ex_block ?_
    have hk : c.length ≤ k := by simpa using h3
    have he : (c.take k).foldl (fun (b : List Int) (x : Itm) => payF b x.pay) [9, 9, 9] = bookF c := by rw [take_end hk]; rfl
    rw [he]
    all_goals refine awp_seq (awp_region (id := 9) ?_)
    all_goals refine awpOps_cons (op_mv rfl (Conv.of rfl) rfl) ?_
    all_goals refine awpOps_cons (op_as rfl (Conv.of rfl) rfl) ?_
    all_goals refine awpOps_nil ?_
    refine awp_ret ?_
    repeat first | refine rt_seq ?_ | refine rt_block ?_
    refine ⟨_, _, res1 (ol := [(2, .arr (bookF c))]) (.v rfl (Conv.of rfl)) (fun o ho => ?_) (olk rfl obOk_arr oln) noS, rfl, rfl⟩
    have : o = 2 := by simpa using (show o ∈ [2] from ho)
    subst this; rfl
theorem bookOf_ct (c : List Itm) (h : chainOk c = true) : CtP Try.prog 27 [.v c] (.v (bookF c)) := by
  have hb : Bk (bookF c) := fold_bk c Bk.new (chainOk_pay h)
  have hl := hb.len
  have k := bookOfA_ct c h
  rw [show (3 : Nat) = (bookF c).length by rw [hl]] at k
  exact Ct.frz k (frz_sref (by rw [hl]; decide))
theorem sameI_drop {a b : List Int} {k : Nat} {x y : Int} (hx : a[k]? = some x) (hy : b[k]? = some y) : decide (a.drop k = b.drop k) = (decide (x = y) && decide (a.drop (k + 1) = b.drop (k + 1))) := by
  rw [drop_at hx, drop_at hy, Bool.eq_iff_iff]
  simp
theorem lwInts_ct (a b : List Int) : CtP Try.prog 25 [.v a, .v b] (.v (decide (a = b))) := by
  refine Ct.intro Try.func25 rfl rfl ?_
  refine awp_bigL 0 rfl (fun hB => ?_)
  all_goals refine awp_seq (awp_region (id := 0) ?_)
  all_goals refine awpOps_cons (op_as rfl (Conv.of rfl) rfl) ?_
  all_goals refine awpOps_nil ?_
  all_goals refine awp_seq (awp_seq (awp_region (id := 1) ?_))
  all_goals refine awpOps_cons (op_mv rfl (Conv.of rfl) rfl) ?_
  all_goals refine awpOps_cons (op_len sl52 rfl rfl) ?_
  all_goals refine awpOps_cons (op_mv rfl (Conv.of rfl) rfl) ?_
  all_goals refine awpOps_cons (op_len sl52 rfl rfl) ?_
  all_goals refine awpOps_cons (op_neq rfl rfl rfl) ?_
  all_goals refine awpOps_nil ?_
  refine awp_cond rfl (fun h => ?_) (fun h => ?_)
  · all_goals refine awp_seq (awp_region (id := 2) ?_)
    all_goals refine awpOps_cons (op_as rfl (Conv.of rfl) rfl) ?_
    all_goals refine awpOps_nil ?_
    refine awp_ret ?_
    repeat first | refine rt_seq ?_ | refine rt_block ?_
    refine finP (.v rfl (Conv.of rfl)) rfl ?_
    show AV.v false = _
    have : a ≠ b := by intro e; subst e; simp at h
    simp [this]
  · refine awp_skip ?_
    have hlen : a.length = b.length := by simp at h; omega
    all_goals refine awp_seq (awp_seq (awp_region (id := 3) ?_))
    all_goals refine awpOps_cons (op_as rfl (Conv.of rfl) rfl) ?_
    all_goals refine awpOps_nil ?_
    refine awp_block ?_
    refine awp_loop' (fun n s => ∃ (k : Nat), ∃ (hn : n + k = a.length), ∃ (hall : decide (a = b) = decide (a.drop k = b.drop k)), s = mkSt 26 [(0, .v a), (1, .v b), (5, .v (k : Int))] []) (a.length) ⟨0, by omega, rfl, rfl⟩ (Le.mk rfl (tle rfl (rfl) rfl (tle rfl (rfl) rfl (tle rfl (rfl) rfl tln))) oln noS) ?_
    rintro n s ⟨k, hn, hall, rfl⟩
    all_goals refine awp_seq (awp_seq (awp_region (id := 4) ?_))
    all_goals refine awpOps_cons (op_mv rfl (Conv.of rfl) rfl) ?_
    all_goals refine awpOps_cons (op_mv rfl (Conv.of rfl) rfl) ?_
    all_goals refine awpOps_cons (op_len sl52 rfl rfl) ?_
    all_goals refine awpOps_cons (op_lss rfl rfl rfl) ?_
    all_goals refine awpOps_nil ?_
    refine awp_cond rfl (fun h => ?_) (fun h => ?_)
    · have hlt : k < a.length := by simpa using h
      have hx : a[k]? = some a[k] := List.getElem?_eq_getElem hlt
      have hy : b[k]? = some (b[k]'(by omega)) := List.getElem?_eq_getElem (by omega)
      have hs := sameI_drop hx hy
      refine awp_skip ?_
      refine awp_seq (awp_block ?_)
      all_goals refine awp_seq (dr_start (id := 6) ?_)
      all_goals refine dr_cons (op_mv rfl (Conv.of rfl) rfl) ?_
      all_goals refine dr_cons (op_mv rfl (Conv.of rfl) rfl) ?_
      all_goals refine dr_cons (op_ix sl52 rfl rfl rfl (by omega) hx) ?_
      all_goals refine dr_cons (op_ldr ty3 rfl rfl) ?_
      all_goals refine dr_cons (op_mv rfl (Conv.of rfl) rfl) ?_
      all_goals refine dr_cons (op_mv rfl (Conv.of rfl) rfl) ?_
      all_goals refine dr_cons (op_ix sl52 rfl rfl rfl (by omega) hy) ?_
      all_goals refine dr_cons (op_ldr ty3 rfl rfl) ?_
      all_goals refine dr_cons (op_neq rfl rfl rfl) ?_
      all_goals refine dr_nil mixed rfl ?_
      refine awp_cond rfl (fun h => ?_) (fun h => ?_)
      · all_goals refine awp_seq (awp_region (id := 7) ?_)
        all_goals refine awpOps_cons (op_as rfl (Conv.of rfl) rfl) ?_
        all_goals refine awpOps_nil ?_
        refine awp_ret ?_
        repeat first | refine rt_seq ?_ | refine rt_block ?_
        refine finP (.v rfl (Conv.of rfl)) rfl ?_
        show AV.v false = _
        have h' : decide (a[k] = b[k]) = false := by simpa using h
        rw [hall, hs, h', Bool.false_and]
      · refine awp_skip ?_
        all_goals refine awp_region (id := 5) ?_
        all_goals refine awpOps_cons (op_mv rfl (Conv.of rfl) rfl) ?_
        all_goals refine awpOps_cons (op_add rfl rfl rfl (by omega)) ?_
        all_goals refine awpOps_cons (op_as rfl (Conv.of rfl) rfl) ?_
        all_goals refine awpOps_nil ?_
        have h' : decide (a[k] = b[k]) = true := by simpa using h
        repeat first | refine nx_seq ?_ | refine nx_block ?_
        exact ⟨n - 1, _, by omega, ⟨k + 1, by omega, by rw [hall, hs, h', Bool.true_and], rfl⟩, Le.mk rfl (tle rfl (rfl) rfl (tle rfl (rfl) rfl (tle rfl (rfl) rfl tln))) oln noS⟩
    · refine awp_exit ?_
      repeat refine ex_seq ?_
      refine ex_block ?_
      have hk : a.length ≤ k := by simpa using h
      all_goals refine awp_seq (awp_region (id := 8) ?_)
      all_goals refine awpOps_cons (op_as rfl (Conv.of rfl) rfl) ?_
      all_goals refine awpOps_nil ?_
      refine awp_ret ?_
      repeat first | refine rt_seq ?_ | refine rt_block ?_
      refine finP (.v rfl (Conv.of rfl)) rfl ?_
      show AV.v true = _
      rw [hall, drop_end hk, drop_end (by omega : b.length ≤ k)]
      simp
end Go.Proofs.Ytmabpmlcclgecaa

/- The books of nodes. -/
set_option linter.unusedVariables false
set_option linter.unusedSimpArgs false
namespace Go.Proofs.Ytmabpmlcclgecaa
open Go Go.Wt
theorem nodeBook_ct (n : Nod) (h : nodeOk n = true) : CtP Try.prog 24 [.v n] (.v (bookF (finalOf n.seen))) := by
  have hs := nodeOk_seen h
  have hg := gdOf hs.1 (by omega)
  have hfc := final_chainOk (votesOk_mem hs.1)
  refine Ct.intro Try.func24 rfl rfl ?_
  all_goals first | refine awp_seq (awp_region (id := 0) ?_) | refine awp_seq (awp_seq (awp_region (id := 0) ?_)) | refine awp_region (id := 0) ?_ | refine awp_seq (awp_seq (awp_seq (awp_region (id := 0) ?_)))
  all_goals first | refine awpOps_cons (op_box (o := 0) ty25 rfl (Conv.of rfl) rfl rfl) ?_ | refine awpOps_cons (op_boxm (o := 0) ty25 rfl rfl rfl rfl) ?_
  all_goals refine awpOps_cons (op_as rfl (Conv.of rfl) rfl) ?_
  all_goals refine awpOps_nil ?_
  all_goals first | refine awp_seq (awp_region (id := 1) ?_) | refine awp_seq (awp_seq (awp_region (id := 1) ?_)) | refine awp_region (id := 1) ?_ | refine awp_seq (awp_seq (awp_seq (awp_region (id := 1) ?_)))
  all_goals first | refine awpOps_cons (op_ld ty25 rfl rfl rfl) ?_ | refine awpOps_cons (op_ldr ty25 rfl rfl) ?_ | refine awpOps_cons (op_lde ty25 rfl rfl (by assumption) rfl) ?_ | refine awpOps_cons (op_ldl ty25 rfl rfl rfl) ?_ | refine awpOps_cons (op_ldd ty25 rfl rfl rfl) ?_ | refine awpOps_cons (op_ldde ty25 rfl rfl (by assumption) rfl) ?_
  all_goals refine awpOps_cons (op_call fb42 (.cons rfl (Conv.of rfl) (.nil _)) (nodeOk_ct _) (argOk rfl rfl argOk0) rfl rfl) ?_
  all_goals refine awpOps_cons (op_not rfl rfl) ?_
  all_goals refine awpOps_nil ?_
  first | refine awp_seq (awp_cond rfl (fun h2 => absurd (not_t h2) (by rw [h]; decide)) (fun h2 => ?_)) | refine awp_seq (awp_seq (awp_cond rfl (fun h2 => absurd (not_t h2) (by rw [h]; decide)) (fun h2 => ?_))) | refine awp_cond rfl (fun h2 => absurd (not_t h2) (by rw [h]; decide)) (fun h2 => ?_) | refine awp_seq (awp_seq (awp_seq (awp_cond rfl (fun h2 => absurd (not_t h2) (by rw [h]; decide)) (fun h2 => ?_))))
  refine awp_skip ?_
  all_goals first | refine awp_seq (awp_region (id := 3) ?_) | refine awp_seq (awp_seq (awp_region (id := 3) ?_)) | refine awp_region (id := 3) ?_ | refine awp_seq (awp_seq (awp_seq (awp_region (id := 3) ?_)))
  all_goals first | refine awpOps_cons (op_fab f25_3 rfl rfl) ?_ | refine awpOps_cons (op_far f25_3 rfl rfl) ?_ | refine awpOps_cons (op_fae f25_3 rfl rfl) ?_
  all_goals first | refine awpOps_cons (op_ld ty23 rfl rfl rfl) ?_ | refine awpOps_cons (op_ldr ty23 rfl rfl) ?_ | refine awpOps_cons (op_lde ty23 rfl rfl (by assumption) rfl) ?_ | refine awpOps_cons (op_ldl ty23 rfl rfl rfl) ?_ | refine awpOps_cons (op_ldd ty23 rfl rfl rfl) ?_ | refine awpOps_cons (op_ldde ty23 rfl rfl (by assumption) rfl) ?_
  all_goals refine awpOps_cons (op_call fb57 (.cons rfl (Conv.of rfl) (.nil _)) (vfinal_ct _ hg.l hg.v hg.e) (argOk rfl rfl argOk0) rfl rfl) ?_
  all_goals refine awpOps_cons (op_call fb27 (.cons rfl (Conv.cl) (.nil _)) (bookOf_ct _ hfc) (argOk rfl rfl argOk0) rfl rfl) ?_
  all_goals first | refine awpOps_cons (op_as rfl (Conv.of rfl) rfl) ?_ | refine awpOps_cons (op_asl rfl rfl rfl rfl) ?_ | refine awpOps_cons (op_aso rfl rfl rfl rfl) ?_
  all_goals refine awpOps_nil ?_
  refine awp_ret ?_
  repeat first | refine rt_seq ?_ | refine rt_block ?_
  exact finP (.v rfl (Conv.of rfl)) rfl rfl
theorem bookOk_ct (b : List Int) (hb : Bk b) : CtP Try.prog 29 [.v b] (.v true) := by
  have hl := hb.len
  have hall := psum_all hb
  refine Ct.intro Try.func29 rfl rfl ?_
  all_goals first | refine awp_seq (awp_region (id := 0) ?_) | refine awp_seq (awp_seq (awp_region (id := 0) ?_)) | refine awp_region (id := 0) ?_ | refine awp_seq (awp_seq (awp_seq (awp_region (id := 0) ?_)))
  all_goals refine awpOps_cons (op_as rfl (Conv.of rfl) rfl) ?_
  all_goals refine awpOps_nil ?_
  all_goals first | refine awp_seq (awp_region (id := 1) ?_) | refine awp_seq (awp_seq (awp_region (id := 1) ?_)) | refine awp_region (id := 1) ?_ | refine awp_seq (awp_seq (awp_seq (awp_region (id := 1) ?_)))
  all_goals refine awpOps_cons (op_as rfl (Conv.of rfl) rfl) ?_
  all_goals refine awpOps_nil ?_
  all_goals first | refine awp_seq (awp_region (id := 2) ?_) | refine awp_seq (awp_seq (awp_region (id := 2) ?_)) | refine awp_region (id := 2) ?_ | refine awp_seq (awp_seq (awp_seq (awp_region (id := 2) ?_)))
  all_goals first | refine awpOps_cons (op_mv rfl (Conv.of rfl) rfl) ?_ | refine awpOps_cons (op_mvl rfl rfl rfl rfl) ?_ | refine awpOps_cons (op_mvo rfl rfl rfl rfl) ?_
  all_goals first | refine awpOps_cons (op_len sl52 rfl rfl) ?_ | refine awpOps_cons (op_lenA sl52 rfl rfl rfl) ?_
  all_goals refine awpOps_cons (op_mv rfl (Conv.of rfl) rfl) ?_
  all_goals refine awpOps_nil ?_
  first | refine awp_seq (awp_block ?_) | refine awp_seq (awp_seq (awp_block ?_)) | refine awp_block ?_ | refine awp_seq (awp_seq (awp_seq (awp_block ?_)))
  first | refine awp_seq (awp_loop' (fun n_ s => ∃ (k : Nat), ∃ (hk : n_ + k = 3), s = mkSt 26 [(0, .v b), (3, .v (psum b k)), (6, .v b), (7, .v (b.length : Int)), (8, .v (k : Int))] []) (3) ⟨0, by omega, rfl⟩ (Le.mk rfl (tle rfl (rfl) rfl (tle rfl (by first | rfl | (show AV.v _ = AV.v _; rw [psum_step hx])) rfl (tle rfl (rfl) rfl (tle rfl (rfl) rfl (tle rfl (rfl) rfl tln))))) oln noS) ?_) | refine awp_seq (awp_seq (awp_loop' (fun n_ s => ∃ (k : Nat), ∃ (hk : n_ + k = 3), s = mkSt 26 [(0, .v b), (3, .v (psum b k)), (6, .v b), (7, .v (b.length : Int)), (8, .v (k : Int))] []) (3) ⟨0, by omega, rfl⟩ (Le.mk rfl (tle rfl (rfl) rfl (tle rfl (by first | rfl | (show AV.v _ = AV.v _; rw [psum_step hx])) rfl (tle rfl (rfl) rfl (tle rfl (rfl) rfl (tle rfl (rfl) rfl tln))))) oln noS) ?_)) | refine awp_loop' (fun n_ s => ∃ (k : Nat), ∃ (hk : n_ + k = 3), s = mkSt 26 [(0, .v b), (3, .v (psum b k)), (6, .v b), (7, .v (b.length : Int)), (8, .v (k : Int))] []) (3) ⟨0, by omega, rfl⟩ (Le.mk rfl (tle rfl (rfl) rfl (tle rfl (by first | rfl | (show AV.v _ = AV.v _; rw [psum_step hx])) rfl (tle rfl (rfl) rfl (tle rfl (rfl) rfl (tle rfl (rfl) rfl tln))))) oln noS) ?_ | refine awp_seq (awp_seq (awp_seq (awp_loop' (fun n_ s => ∃ (k : Nat), ∃ (hk : n_ + k = 3), s = mkSt 26 [(0, .v b), (3, .v (psum b k)), (6, .v b), (7, .v (b.length : Int)), (8, .v (k : Int))] []) (3) ⟨0, by omega, rfl⟩ (Le.mk rfl (tle rfl (rfl) rfl (tle rfl (by first | rfl | (show AV.v _ = AV.v _; rw [psum_step hx])) rfl (tle rfl (rfl) rfl (tle rfl (rfl) rfl (tle rfl (rfl) rfl tln))))) oln noS) ?_)))
  rintro n_ s ⟨k, hk, rfl⟩
  all_goals first | refine awp_seq (awp_region (id := 3) ?_) | refine awp_seq (awp_seq (awp_region (id := 3) ?_)) | refine awp_region (id := 3) ?_ | refine awp_seq (awp_seq (awp_seq (awp_region (id := 3) ?_)))
  all_goals refine awpOps_cons (op_lss rfl rfl rfl) ?_
  all_goals refine awpOps_nil ?_
  first | refine awp_seq (awp_cond rfl (fun h => ?_) (fun h => ?_)) | refine awp_seq (awp_seq (awp_cond rfl (fun h => ?_) (fun h => ?_))) | refine awp_cond rfl (fun h => ?_) (fun h => ?_) | refine awp_seq (awp_seq (awp_seq (awp_cond rfl (fun h => ?_) (fun h => ?_))))
  · have hlt : k < 3 := by simp at h; omega
    obtain ⟨v, hx, _, hv0, hv27⟩ := hb.at hlt
    have hps := psum_bd hb (k := k) (by omega)
    have hw : within v 0 27 = true := by simp [within]; omega
    refine awp_skip ?_
    first | refine awp_seq (awp_block ?_) | refine awp_seq (awp_seq (awp_block ?_)) | refine awp_block ?_ | refine awp_seq (awp_seq (awp_seq (awp_block ?_)))
    all_goals first | refine awp_seq (awp_region (id := 4) ?_) | refine awp_seq (awp_seq (awp_region (id := 4) ?_)) | refine awp_region (id := 4) ?_ | refine awp_seq (awp_seq (awp_seq (awp_region (id := 4) ?_)))
    all_goals first | refine awpOps_cons (op_ix sl52 rfl rfl rfl (by omega) hx) ?_ | refine awpOps_cons (op_ixA sl52 rfl rfl rfl rfl (by omega)) ?_
    all_goals first | refine awpOps_cons (op_ld ty3 rfl rfl rfl) ?_ | refine awpOps_cons (op_ldr ty3 rfl rfl) ?_ | refine awpOps_cons (op_lde ty3 rfl rfl (by assumption) rfl) ?_ | refine awpOps_cons (op_ldl ty3 rfl rfl rfl) ?_ | refine awpOps_cons (op_ldd ty3 rfl rfl rfl) ?_ | refine awpOps_cons (op_ldde ty3 rfl rfl (by assumption) rfl) ?_
    all_goals first | refine awpOps_cons (op_as rfl (Conv.of rfl) rfl) ?_ | refine awpOps_cons (op_asl rfl rfl rfl rfl) ?_ | refine awpOps_cons (op_aso rfl rfl rfl rfl) ?_
    all_goals refine awpOps_nil ?_
    all_goals first | refine awp_seq (awp_region (id := 5) ?_) | refine awp_seq (awp_seq (awp_region (id := 5) ?_)) | refine awp_region (id := 5) ?_ | refine awp_seq (awp_seq (awp_seq (awp_region (id := 5) ?_)))
    all_goals first | refine awpOps_cons (op_mv rfl (Conv.of rfl) rfl) ?_ | refine awpOps_cons (op_mvl rfl rfl rfl rfl) ?_ | refine awpOps_cons (op_mvo rfl rfl rfl rfl) ?_
    all_goals refine awpOps_cons (op_call fb62 (.cons rfl (Conv.of rfl) (.cons rfl (Conv.of rfl) (.cons rfl (Conv.of rfl) (.nil _)))) (within_ct _ _ _) (argOk rfl rfl (argOk rfl rfl (argOk rfl rfl argOk0))) rfl rfl) ?_
    all_goals refine awpOps_cons (op_not rfl rfl) ?_
    all_goals refine awpOps_nil ?_
    first | refine awp_seq (awp_cond rfl (fun h2 => absurd (not_t h2) (by rw [hw]; decide)) (fun h2 => ?_)) | refine awp_seq (awp_seq (awp_cond rfl (fun h2 => absurd (not_t h2) (by rw [hw]; decide)) (fun h2 => ?_))) | refine awp_cond rfl (fun h2 => absurd (not_t h2) (by rw [hw]; decide)) (fun h2 => ?_) | refine awp_seq (awp_seq (awp_seq (awp_cond rfl (fun h2 => absurd (not_t h2) (by rw [hw]; decide)) (fun h2 => ?_))))
    refine awp_skip ?_
    all_goals first | refine awp_seq (awp_region (id := 7) ?_) | refine awp_seq (awp_seq (awp_region (id := 7) ?_)) | refine awp_region (id := 7) ?_ | refine awp_seq (awp_seq (awp_seq (awp_region (id := 7) ?_)))
    all_goals first | refine awpOps_cons (op_mv rfl (Conv.of rfl) rfl) ?_ | refine awpOps_cons (op_mvl rfl rfl rfl rfl) ?_ | refine awpOps_cons (op_mvo rfl rfl rfl rfl) ?_
    all_goals first | refine awpOps_cons (op_mv rfl (Conv.of rfl) rfl) ?_ | refine awpOps_cons (op_mvl rfl rfl rfl rfl) ?_ | refine awpOps_cons (op_mvo rfl rfl rfl rfl) ?_
    all_goals refine awpOps_cons (op_add rfl rfl rfl (by omega)) ?_
    all_goals first | refine awpOps_cons (op_as rfl (Conv.of rfl) rfl) ?_ | refine awpOps_cons (op_asl rfl rfl rfl rfl) ?_ | refine awpOps_cons (op_aso rfl rfl rfl rfl) ?_
    all_goals refine awpOps_nil ?_
    all_goals first | refine awp_seq (awp_region (id := 8) ?_) | refine awp_seq (awp_seq (awp_region (id := 8) ?_)) | refine awp_region (id := 8) ?_ | refine awp_seq (awp_seq (awp_seq (awp_region (id := 8) ?_)))
    all_goals refine awpOps_cons (op_add rfl rfl rfl (by omega)) ?_
    all_goals first | refine awpOps_cons (op_mv rfl (Conv.of rfl) rfl) ?_ | refine awpOps_cons (op_mvl rfl rfl rfl rfl) ?_ | refine awpOps_cons (op_mvo rfl rfl rfl rfl) ?_
    all_goals refine awpOps_nil ?_
    repeat first | refine nx_seq ?_ | refine nx_block ?_
    exact ⟨n_ - 1, _, by omega, ⟨k + 1, by omega, rfl⟩, Le.mk rfl (tle rfl (rfl) rfl (tle rfl (by first | rfl | (show AV.v _ = AV.v _; rw [psum_step hx])) rfl (tle rfl (rfl) rfl (tle rfl (rfl) rfl (tle rfl (rfl) rfl tln))))) oln noS⟩
  · refine awp_exit ?_
    repeat refine ex_seq ?_
    refine ex_block ?_
    have hk3 : k = 3 := by simp at h; omega
    subst hk3
    all_goals first | refine awp_seq (awp_region (id := 9) ?_) | refine awp_seq (awp_seq (awp_region (id := 9) ?_)) | refine awp_region (id := 9) ?_ | refine awp_seq (awp_seq (awp_seq (awp_region (id := 9) ?_)))
    all_goals first | refine awpOps_cons (op_mv rfl (Conv.of rfl) rfl) ?_ | refine awpOps_cons (op_mvl rfl rfl rfl rfl) ?_ | refine awpOps_cons (op_mvo rfl rfl rfl rfl) ?_
    all_goals first | refine awpOps_cons (op_len sl52 rfl rfl) ?_ | refine awpOps_cons (op_lenA sl52 rfl rfl rfl) ?_
    all_goals refine awpOps_cons (op_eql rfl rfl rfl) ?_
    all_goals first | refine awpOps_cons (op_mv rfl (Conv.of rfl) rfl) ?_ | refine awpOps_cons (op_mvl rfl rfl rfl rfl) ?_ | refine awpOps_cons (op_mvo rfl rfl rfl rfl) ?_
    all_goals first | refine g_lit (t := 22) (b := true) rfl ?_ | refine g_lit (t := 22) (b := false) rfl ?_ | refine g_ulit (t := 22) rfl ?_ | refine g_split (t := 22) rfl (fun h => ?_) (fun h => ?_)
    all_goals first | refine awpOps_cons (g_off rfl rfl rfl rfl rfl) ?_ | refine awpOps_cons (g_und rfl rfl rfl) ?_ | refine awpOps_cons (g_on rfl rfl rfl (op_mv rfl (Conv.of rfl) rfl)) ?_ | refine awpOps_cons (g_on rfl rfl rfl (op_mvl rfl rfl rfl rfl)) ?_ | refine awpOps_cons (g_on rfl rfl rfl (op_mvo rfl rfl rfl rfl)) ?_
    all_goals first | refine awpOps_cons (g_off rfl rfl rfl rfl rfl) ?_ | refine awpOps_cons (g_und rfl rfl rfl) ?_ | refine awpOps_cons (g_on rfl rfl rfl (op_eql rfl rfl rfl)) ?_
    all_goals refine awpOps_cons (op_pick rfl rfl rfl rfl) ?_
    all_goals first | refine awpOps_cons (op_as rfl (Conv.of rfl) rfl) ?_ | refine awpOps_cons (op_asl rfl rfl rfl rfl) ?_ | refine awpOps_cons (op_aso rfl rfl rfl rfl) ?_
    all_goals refine awpOps_nil ?_
    all_goals refine awp_ret ?_
    all_goals refine finP (.v rfl (Conv.of rfl)) rfl ?_
    all_goals simp_all [FV.av]
end Go.Proofs.Ytmabpmlcclgecaa

/- The reference's final chain. -/
set_option linter.unusedVariables false
set_option linter.unusedSimpArgs false
namespace Go.Wt
open Go
theorem finFrom_bd (c : List Itm) : ∀ n : Nat, 0 ≤ finFrom c n ∧ finFrom c n ≤ n
  | 0 => ⟨Int.le_refl _, Int.le_refl _⟩
  | n + 1 => by
    have := finFrom_bd c n
    simp only [finFrom]
    split <;> omega
theorem finLen_bd (c : List Itm) : 0 ≤ finLen c ∧ finLen c ≤ c.length := finFrom_bd c c.length
def finStepS (out c : List Itm) : List Itm := if decide ((out.length : Int) < finLen c) then c.take (finLen c).toNat else out
def finalS (l : List Vote) : List Itm := (allOfS l).foldl finStepS []
theorem finStep_eq (o c : List Itm) : finStepS (o.take (finLen o).toNat) c = (shownStep o c).take (finLen (shownStep o c)).toNat := by
  have h1 := finLen_bd o
  have hl : ((o.take (finLen o).toNat).length : Int) = finLen o := by
    rw [List.length_take, Nat.min_eq_left (by omega)]; omega
  unfold finStepS shownStep
  rw [hl]
  split <;> rfl
theorem finFold_eq : ∀ (r : List (List Itm)) (o : List Itm), r.foldl finStepS (o.take (finLen o).toNat) = (r.foldl shownStep o).take (finLen (r.foldl shownStep o)).toNat
  | [], _ => rfl
  | c :: r, o => by
    rw [List.foldl_cons, List.foldl_cons, finStep_eq]
    exact finFold_eq r _
theorem finalS_eq {l : List Vote} (h : votesOk l = true) : finalS l = finalOf l := by
  unfold finalS finalOf shownOf
  rw [allOfS_eq h]
  exact finFold_eq (allOf l) []
theorem allOfS_at {l : List Vote} {c : List Itm} (h : c ∈ allOfS l) : c = [] ∨ ∃ v ∈ l, v.chain = c := by
  rcases allStepS_mem l l [[]] _ h with e | ⟨v, h1, h2⟩
  · simp at e; exact .inl e
  · exact .inr ⟨v, h1, h2⟩
def nodeBookR (n : Nod) : List Int := if nodeOk n then bookF (finalOf n.seen) else []
theorem OpOk.conv {P : Program} {S : Nat → Prop} {ops : Array Oper} {st : St} {o0 : Oper} {rt ro : List Nat} {d : Nat} {av av' : AV} {wo : List (Nat × Obj)} (h : OpOk P S ops o0 rt ro [(d, some av)] wo st) (hc : Conv av av') : OpOk P S ops o0 rt ro [(d, some av')] wo st := by
  intro st1 hag G w a hr K Q hK
  refine h st1 hag G w a hr K Q fun a' w' G' r1 r2 => hK a' w' G' ⟨r1.defers, r1.size, fun q => ?_, fun k => r1.objs k⟩ r2
  have hq := r1.tmps q
  show RelT _ _ _ (orr (lk [(d, some av')] q) (st1.tm q)) _
  have hq' : RelT G' w' (.tmp q, []) (orr (lk [(d, some av)] q) (st1.tm q)) (a'.tmps.getD q undef) := hq
  simp only [lk] at hq' ⊢
  by_cases e : q = d
  · rw [if_pos e] at hq' ⊢
    exact hc hq'
  · rw [if_neg e] at hq' ⊢
    exact hq'
end Go.Wt

/- The reference: what all have by a node. -/
set_option linter.unusedVariables false
set_option linter.unusedSimpArgs false
namespace Go.Proofs.Ytmabpmlcclgecaa
open Go Go.Wt
theorem l11FinalIn_ct (c : List Itm) (hc : ∀ x ∈ c, 0 ≤ x.epoch ∧ x.epoch ≤ 1000000) : CtP Try.prog 89 [.v c] (.v (finLen c)) := by
  have hep : ∀ (i : Nat) (hi : i < c.length), 0 ≤ c[i].epoch ∧ c[i].epoch ≤ 1000000 := fun i hi => hc _ (List.getElem_mem hi)
  refine Ct.intro Try.func89 rfl rfl ?_
  refine awp_bigL 0 rfl (fun hB => ?_)
  all_goals refine awp_seq (awp_region (id := 0) ?_)
  all_goals refine awpOps_cons (op_as rfl (Conv.of rfl) rfl) ?_
  all_goals refine awpOps_nil ?_
  all_goals refine awp_seq (awp_seq (awp_region (id := 1) ?_))
  all_goals refine awpOps_cons (op_mv rfl (Conv.of rfl) rfl) ?_
  all_goals refine awpOps_cons (op_len sl26 rfl rfl) ?_
  all_goals refine awpOps_cons (op_sub rfl rfl rfl (by omega)) ?_
  all_goals refine awpOps_cons (op_as rfl (Conv.of rfl) rfl) ?_
  all_goals refine awpOps_nil ?_
  refine awp_block ?_
  refine awp_loop' (fun n_ s => ∃ (k : Nat), ∃ (hn : n_ = k), ∃ (hk : k ≤ c.length), ∃ (hall : finLen c = finFrom c k), s = mkSt 41 [(0, .v c), (3, .v ((k : Int) - 1))] []) (c.length) ⟨c.length, rfl, Nat.le_refl _, rfl, rfl⟩ (Le.mk rfl (tle rfl (rfl) rfl (tle rfl (by rfl) rfl tln)) oln noS) ?_
  rintro n_ s ⟨k, hn, hk, hall, rfl⟩
  all_goals refine awp_seq (awp_seq (awp_region (id := 2) ?_))
  all_goals refine awpOps_cons (op_mv rfl (Conv.of rfl) rfl) ?_
  all_goals refine awpOps_cons (op_geq rfl rfl rfl) ?_
  all_goals refine awpOps_nil ?_
  refine awp_cond rfl (fun h => ?_) (fun h => ?_)
  · obtain ⟨m, rfl⟩ : ∃ m, k = m + 3 := ⟨k - 3, by simp at h; omega⟩
    have h1 : (((m + 3 : Nat) : Int) - 1 - 2).toNat = m := by omega
    have h2 : (((m + 3 : Nat) : Int) - 1 - 1).toNat = m + 1 := by omega
    have h3 : (((m + 3 : Nat) : Int) - 1).toNat = m + 2 := by omega
    have hx : c[(((m + 3 : Nat) : Int) - 1 - 2).toNat]? = some (c[m]'(by omega)) := by rw [h1]; exact List.getElem?_eq_getElem _
    have hy : c[(((m + 3 : Nat) : Int) - 1 - 1).toNat]? = some (c[m + 1]'(by omega)) := by rw [h2]; exact List.getElem?_eq_getElem _
    have hz : c[(((m + 3 : Nat) : Int) - 1).toNat]? = some (c[m + 2]'(by omega)) := by rw [h3]; exact List.getElem?_eq_getElem _
    have e1 := hep m (by omega)
    have e2 := hep (m + 1) (by omega)
    have e3 := hep (m + 2) (by omega)
    refine awp_skip ?_
    refine awp_seq (awp_block ?_)
    refine awp_seq_to (s' := mkSt 41 [(0, .v c), (3, .v (((m + 3 : Nat) : Int) - 1)), (39, .v (decide ((c[m]'(by omega)).epoch + 1 = (c[m + 1]'(by omega)).epoch) && decide ((c[m + 1]'(by omega)).epoch + 1 = (c[m + 2]'(by omega)).epoch)))] []) ?_ ?_
    · all_goals refine dr_start (id := 4) ?_
      all_goals refine dr_cons (op_mv rfl (Conv.of rfl) rfl) ?_
      all_goals refine dr_cons (op_mv rfl (Conv.of rfl) rfl) ?_
      all_goals refine dr_cons (op_sub rfl rfl rfl (by omega)) ?_
      all_goals refine dr_cons (op_ix sl26 rfl rfl rfl (by omega) hx) ?_
      all_goals refine dr_cons (op_far f38_0 rfl rfl) ?_
      all_goals refine dr_cons (op_ldr ty3 rfl rfl) ?_
      all_goals refine dr_cons (op_add rfl rfl rfl (by omega)) ?_
      all_goals refine dr_cons (op_mv rfl (Conv.of rfl) rfl) ?_
      all_goals refine dr_cons (op_mv rfl (Conv.of rfl) rfl) ?_
      all_goals refine dr_cons (op_sub rfl rfl rfl (by omega)) ?_
      all_goals refine dr_cons (op_ix sl26 rfl rfl rfl (by omega) hy) ?_
      all_goals refine dr_cons (op_far f38_0 rfl rfl) ?_
      all_goals refine dr_cons (op_ldr ty3 rfl rfl) ?_
      all_goals refine dr_cons (op_eql rfl rfl rfl) ?_
      all_goals refine dr_cons (op_mv rfl (Conv.of rfl) rfl) ?_
      all_goals refine dr_split (t := 25) rfl (fun h => ?_) (fun h => ?_)
      all_goals first | refine dr_cons (g_off rfl rfl rfl rfl rfl) ?_ | refine dr_cons (g_on rfl rfl rfl (op_mv rfl (Conv.of rfl) rfl)) ?_
      all_goals first | refine dr_cons (g_off rfl rfl rfl rfl rfl) ?_ | refine dr_cons (g_on rfl rfl rfl (op_mv rfl (Conv.of rfl) rfl)) ?_
      all_goals first | refine dr_cons (g_off rfl rfl rfl rfl rfl) ?_ | refine dr_cons (g_on rfl rfl rfl (op_sub rfl rfl rfl (by omega))) ?_
      all_goals first | refine dr_cons (g_off rfl rfl rfl rfl rfl) ?_ | refine dr_cons (g_on rfl rfl rfl (op_ix sl26 rfl rfl rfl (by omega) hy)) ?_
      all_goals first | refine dr_cons (g_off rfl rfl rfl rfl rfl) ?_ | refine dr_cons (g_on rfl rfl rfl (op_far f38_0 rfl rfl)) ?_
      all_goals first | refine dr_cons (g_off rfl rfl rfl rfl rfl) ?_ | refine dr_cons (g_on rfl rfl rfl (op_ldr ty3 rfl rfl)) ?_
      all_goals first | refine dr_cons (g_off rfl rfl rfl rfl rfl) ?_ | refine dr_cons (g_on rfl rfl rfl (op_add rfl rfl rfl (by omega))) ?_
      all_goals first | refine dr_cons (g_off rfl rfl rfl rfl rfl) ?_ | refine dr_cons (g_on rfl rfl rfl (op_mv rfl (Conv.of rfl) rfl)) ?_
      all_goals first | refine dr_cons (g_off rfl rfl rfl rfl rfl) ?_ | refine dr_cons (g_on rfl rfl rfl (op_mv rfl (Conv.of rfl) rfl)) ?_
      all_goals first | refine dr_cons (g_off rfl rfl rfl rfl rfl) ?_ | refine dr_cons (g_on rfl rfl rfl (op_ix sl26 rfl rfl rfl (by omega) hz)) ?_
      all_goals first | refine dr_cons (g_off rfl rfl rfl rfl rfl) ?_ | refine dr_cons (g_on rfl rfl rfl (op_far f38_0 rfl rfl)) ?_
      all_goals first | refine dr_cons (g_off rfl rfl rfl rfl rfl) ?_ | refine dr_cons (g_on rfl rfl rfl (op_ldr ty3 rfl rfl)) ?_
      all_goals first | refine dr_cons (g_off rfl rfl rfl rfl rfl) ?_ | refine dr_cons (g_on rfl rfl rfl (op_eql rfl rfl rfl)) ?_
      all_goals refine dr_cons (op_pick rfl rfl rfl rfl) ?_
      all_goals refine dr_nil mixed rfl ?_
      all_goals exact Le.mk rfl (tle rfl (rfl) rfl (tle rfl (rfl) rfl (tle rfl (by (clear hall; simp_all; try (rw [Bool.eq_iff_iff]; simp))) rfl tln))) oln noS
    have hstep : finFrom c (m + 3) = if (decide ((c[m]'(by omega)).epoch + 1 = (c[m + 1]'(by omega)).epoch) && decide ((c[m + 1]'(by omega)).epoch + 1 = (c[m + 2]'(by omega)).epoch)) then ((m + 2 : Nat) : Int) else finFrom c (m + 2) := by
      have g1 : c[m]? = some (c[m]'(by omega)) := List.getElem?_eq_getElem _
      have g2 : c[m + 1]? = some (c[m + 1]'(by omega)) := List.getElem?_eq_getElem _
      have g3 : c[m + 2]? = some (c[m + 2]'(by omega)) := List.getElem?_eq_getElem _
      show (if _ then _ else _) = _
      simp only [show m + 2 - 2 = m by omega, show m + 2 - 1 = m + 1 by omega, g1, g2, g3, show (2 < m + 2 + 1) = True by simp, decide_true, Bool.true_and]
    refine awp_cond rfl (fun hb => ?_) (fun hb => ?_)
    · all_goals refine awp_seq (awp_region (id := 5) ?_)
      all_goals refine awpOps_cons (op_mv rfl (Conv.of rfl) rfl) ?_
      all_goals refine awpOps_cons (op_as rfl (Conv.of rfl) rfl) ?_
      all_goals refine awpOps_nil ?_
      refine awp_ret ?_
      repeat first | refine rt_seq ?_ | refine rt_block ?_
      refine finP (.v rfl (Conv.of rfl)) rfl ?_
      show AV.v _ = _
      rw [hall, hstep, hb, if_pos rfl, show ((m + 3 : Nat) : Int) - 1 = ((m + 2 : Nat) : Int) by omega]
    · refine awp_skip ?_
      all_goals refine awp_region (id := 3) ?_
      all_goals refine awpOps_cons (op_mv rfl (Conv.of rfl) rfl) ?_
      all_goals refine awpOps_cons (op_sub rfl rfl rfl (by omega)) ?_
      all_goals refine awpOps_cons (op_as rfl (Conv.of rfl) rfl) ?_
      all_goals refine awpOps_nil ?_
      repeat first | refine nx_seq ?_ | refine nx_block ?_
      exact ⟨m + 2, _, by omega, ⟨m + 2, rfl, by omega, by rw [hall, hstep, hb]; rfl, rfl⟩, Le.mk rfl (tle rfl (rfl) rfl (tle rfl (by (show AV.v _ = AV.v _; congr 1; omega)) rfl tln)) oln noS⟩
  · refine awp_exit ?_
    repeat refine ex_seq ?_
    refine ex_block ?_
    have hk2 : k ≤ 2 := by simp at h; omega
    all_goals refine awp_seq (awp_region (id := 6) ?_)
    all_goals refine awpOps_cons (op_as rfl (Conv.of rfl) rfl) ?_
    all_goals refine awpOps_nil ?_
    refine awp_ret ?_
    repeat first | refine rt_seq ?_ | refine rt_block ?_
    refine finP (.v rfl (Conv.of rfl)) rfl ?_
    show AV.v (0 : Int) = _
    rw [hall]
    match k, hk2 with
    | 0, _ => rfl
    | 1, _ => rfl
    | 2, _ => rfl
theorem l11Final_ct (l : List Vote) (hg : Gd l) : CtP Try.prog 59 [.v l] (.v (finalS l)) := by
  have hall : (allOfS l).length ≤ 100001 := by
    have h1 := allStepS_len l l [[]]
    have h2 := hg.l
    simp at h1; unfold allOfS; omega
  refine Ct.intro Try.func59 rfl rfl ?_
  all_goals refine awp_seq (awp_region (id := 0) ?_)
  all_goals refine awpOps_cons (op_as rfl (Conv.of rfl) rfl) ?_
  all_goals refine awpOps_nil ?_
  all_goals refine awp_seq (awp_region (id := 1) ?_)
  all_goals refine awpOps_cons (op_mv rfl (Conv.of rfl) rfl) ?_
  all_goals refine awpOps_cons (op_call fb65 (.cons rfl (Conv.of rfl) (.nil _)) (l11All_ct l hg.l hg.v) (argOk rfl rfl argOk0) rfl rfl) ?_
  all_goals refine awpOps_cons (op_as rfl Conv.ol rfl) ?_
  all_goals refine awpOps_nil ?_
  all_goals refine awp_seq (awp_region (id := 2) ?_)
  all_goals refine awpOps_cons (op_bsl sl26 z38 (.nil _) rfl (by decide) rfl) ?_
  all_goals refine awpOps_cons (op_as rfl Conv.ol rfl) ?_
  all_goals refine awpOps_nil ?_
  all_goals refine awp_seq (awp_seq (awp_region (id := 3) ?_))
  all_goals refine awpOps_cons (op_as rfl (Conv.of rfl) rfl) ?_
  all_goals refine awpOps_nil ?_
  refine awp_block ?_
  refine awp_loop' (fun n_ s => ∃ (k : Nat), ∃ (hn : n_ + k = (allOfS l).length), s = mkSt 33 [(3, .v (allOfS l)), (4, .v (((allOfS l).take k).foldl finStepS [])), (5, .v (k : Int))] []) ((allOfS l).length) ⟨0, by omega, rfl⟩ (Le.mk rfl (tle rfl (rfl) rfl (tle rfl (by rfl) rfl (tle rfl (rfl) rfl tln))) oln noS) ?_
  rintro n_ s ⟨k, hn, rfl⟩
  all_goals refine awp_seq (awp_seq (awp_region (id := 4) ?_))
  all_goals refine awpOps_cons (op_mv rfl (Conv.of rfl) rfl) ?_
  all_goals refine awpOps_cons (op_mv rfl (Conv.of rfl) rfl) ?_
  all_goals refine awpOps_cons (op_len sl89 rfl rfl) ?_
  all_goals refine awpOps_cons (op_lss rfl rfl rfl) ?_
  all_goals refine awpOps_nil ?_
  refine awp_cond rfl (fun h => ?_) (fun h => ?_)
  · have hlt : k < (allOfS l).length := by simpa using h
    have hx : (allOfS l)[k]? = some (allOfS l)[k] := List.getElem?_eq_getElem hlt
    have hm := List.getElem_mem hlt
    have hce : ∀ x ∈ (allOfS l)[k], 0 ≤ x.epoch ∧ x.epoch ≤ 1000000 := by
      rcases allOfS_at hm with e | ⟨v, h1, h2⟩
      · rw [e]; intro x hx; cases hx
      · rw [← h2]; exact hg.e v h1
    have hcl : ((allOfS l)[k]).length ≤ 1000000 := by
      rcases allOfS_at hm with e | ⟨v, h1, h2⟩
      · rw [e]; simp
      · rw [← h2]; exact hg.v v h1
    have hfb := finLen_bd (allOfS l)[k]
    refine awp_skip ?_
    refine awp_seq (awp_block ?_)
    all_goals refine awp_seq (awp_region (id := 6) ?_)
    all_goals refine awpOps_cons (op_mv rfl (Conv.of rfl) rfl) ?_
    all_goals refine awpOps_cons (op_mv rfl (Conv.of rfl) rfl) ?_
    all_goals refine awpOps_cons (op_ix sl89 rfl rfl rfl (by omega) hx) ?_
    all_goals refine awpOps_cons (op_ldr ty26 rfl rfl) ?_
    all_goals refine awpOps_cons (op_call fb89 (.cons rfl (Conv.of rfl) (.nil _)) (l11FinalIn_ct _ hce) (argOk rfl rfl argOk0) rfl rfl) ?_
    all_goals refine awpOps_cons (op_as rfl (Conv.of rfl) rfl) ?_
    all_goals refine awpOps_nil ?_
    all_goals refine awp_seq (awp_region (id := 7) ?_)
    all_goals refine awpOps_cons (op_mv rfl (Conv.of rfl) rfl) ?_
    all_goals refine awpOps_cons (op_mv rfl (Conv.of rfl) rfl) ?_
    all_goals refine awpOps_cons (op_len sl26 rfl rfl) ?_
    all_goals refine awpOps_cons (op_gtr rfl rfl rfl) ?_
    all_goals refine awpOps_nil ?_
    refine awp_cond rfl (fun hb => ?_) (fun hb => ?_)
    · have hb'' : decide (((((allOfS l).take k).foldl finStepS []).length : Int) < finLen (allOfS l)[k]) = true := by simp at hb ⊢; omega
      all_goals refine awp_region (id := 8) ?_
      all_goals refine awpOps_cons (op_mv rfl (Conv.of rfl) rfl) ?_
      all_goals refine awpOps_cons (op_mv rfl (Conv.of rfl) rfl) ?_
      all_goals refine awpOps_cons (op_ix sl89 rfl rfl rfl (by omega) hx) ?_
      all_goals refine awpOps_cons (op_ldr ty26 rfl rfl) ?_
      all_goals refine awpOps_cons (op_mv rfl (Conv.of rfl) rfl) ?_
      all_goals refine awpOps_cons (op_slh sl26 rfl rfl rfl (by omega)) ?_
      all_goals refine awpOps_cons (op_call fb36 (.cons rfl (Conv.of rfl) (.nil _)) (l1Copy_ct _ (by rw [List.length_take]; omega)) (argOk rfl rfl argOk0) rfl rfl) ?_
      all_goals refine awpOps_cons (op_as rfl Conv.ol rfl) ?_
      all_goals refine awpOps_nil ?_
      all_goals refine awp_region (id := 5) ?_
      all_goals refine awpOps_cons (op_mv rfl (Conv.of rfl) rfl) ?_
      all_goals refine awpOps_cons (op_add rfl rfl rfl (by omega)) ?_
      all_goals refine awpOps_cons (op_as rfl (Conv.of rfl) rfl) ?_
      all_goals refine awpOps_nil ?_
      repeat first | refine nx_seq ?_ | refine nx_block ?_
      exact ⟨n_ - 1, _, by omega, ⟨k + 1, by omega, rfl⟩, Le.mk rfl (tle rfl (rfl) rfl (tle rfl (by (first | rfl | rw [foldl_at _ _ hx]; simp only [finStepS, hb'']; try rfl)) rfl (tle rfl (rfl) rfl tln))) oln noS⟩
    · have hb'' : decide (((((allOfS l).take k).foldl finStepS []).length : Int) < finLen (allOfS l)[k]) = false := by simp at hb ⊢; omega
      refine awp_skip ?_
      all_goals refine awp_region (id := 5) ?_
      all_goals refine awpOps_cons (op_mv rfl (Conv.of rfl) rfl) ?_
      all_goals refine awpOps_cons (op_add rfl rfl rfl (by omega)) ?_
      all_goals refine awpOps_cons (op_as rfl (Conv.of rfl) rfl) ?_
      all_goals refine awpOps_nil ?_
      repeat first | refine nx_seq ?_ | refine nx_block ?_
      exact ⟨n_ - 1, _, by omega, ⟨k + 1, by omega, rfl⟩, Le.mk rfl (tle rfl (rfl) rfl (tle rfl (by (first | rfl | rw [foldl_at _ _ hx]; simp only [finStepS, hb'']; try rfl)) rfl (tle rfl (rfl) rfl tln))) oln noS⟩
  · refine awp_exit ?_
    repeat refine ex_seq ?_
    refine ex_block ?_
    have hk : (allOfS l).length ≤ k := by simpa using h
    all_goals refine awp_seq (awp_region (id := 9) ?_)
    all_goals refine awpOps_cons (op_mv rfl (Conv.of rfl) rfl) ?_
    all_goals refine awpOps_cons (op_as rfl (Conv.of rfl) rfl) ?_
    all_goals refine awpOps_nil ?_
    refine awp_ret ?_
    repeat first | refine rt_seq ?_ | refine rt_block ?_
    refine finP (.v rfl (Conv.of rfl)) rfl ?_
    simp only [take_end hk]; rfl
theorem sBookNew_ct : CtP Try.prog 87 [] (.v ([9, 9, 9] : List Int)) := by
  refine Ct.intro Try.func87 rfl rfl ?_
  all_goals refine awp_seq (awp_region (id := 0) ?_)
  all_goals refine awpOps_cons (op_as rfl (Conv.of rfl) rfl) ?_
  all_goals refine awpOps_nil ?_
  all_goals refine awp_seq (awp_region (id := 1) ?_)
  all_goals refine awpOps_cons (op_bsl sl52 z3 (.cons rfl (Conv.of rfl) (.cons rfl (Conv.of rfl) (.cons rfl (Conv.of rfl) (.nil _)))) rfl (by decide) rfl) ?_
  all_goals refine awpOps_cons (op_as rfl Conv.ol rfl) ?_
  all_goals refine awpOps_nil ?_
  refine awp_ret ?_
  repeat first | refine rt_seq ?_ | refine rt_block ?_
  exact finP (.v rfl (Conv.of rfl)) rfl rfl
theorem l2Pay_ct (b : List Int) (p : Pay) (hb : Bk b) (hp : payOk p = true) : CtP Try.prog 88 [.v b, .v p] (.v (payF b p)) := by
  have hbd := pay_bd hp
  have hlen := hb.len
  obtain ⟨v, hv, hvd, hv0, hv27⟩ := hb.at (k := (p.frm - 1).toNat) (by omega)
  have hvl : (p.frm - 1).toNat < b.length := by omega
  obtain ⟨u, hu, hud, hu0, hu27⟩ := hb.at (k := (p.to - 1).toNat) (by omega)
  have hne : (p.frm - 1).toNat ≠ (p.to - 1).toNat := by omega
  have hu' : (b.set (p.frm - 1).toNat (v - p.sum))[(p.to - 1).toNat]? = some u := by rw [List.getElem?_set_ne hne]; exact hu
  have hud' : (b.set (p.frm - 1).toNat (v - p.sum)).getD (p.to - 1).toNat 0 = u := by rw [List.getD_eq_getElem?_getD, hu']; rfl
  refine Ct.intro Try.func88 rfl rfl ?_
  all_goals refine awp_seq (awp_region (id := 0) ?_)
  all_goals refine awpOps_cons (op_box (o := 5) ty36 rfl (Conv.of rfl) rfl rfl) ?_
  all_goals refine awpOps_cons (op_as rfl (Conv.of rfl) rfl) ?_
  all_goals refine awpOps_nil ?_
  have hpos : 0 < b.length := by omega
  all_goals refine awp_seq (awp_region (id := 1) ?_)
  all_goals refine awpOps_cons (OpOk.conv (op_bsa (o := 6) sl52 z3 (.nil _) rfl (by decide) rfl rfl) Conv.nr) ?_
  all_goals refine awpOps_cons (op_mv rfl (Conv.of rfl) rfl) ?_
  all_goals refine awpOps_cons (op_apA (o' := 7) sl52 z3 ul52 rfl rfl rfl rfl (by exact hpos) (by (show _ ≤ _; simp only [List.length_nil]; omega)) (by (show _ ≤ _; simp only [List.length_nil]; omega)) rfl) ?_
  all_goals refine awpOps_cons (op_as rfl (Conv.of rfl) rfl) ?_
  all_goals refine awpOps_nil ?_
  have hl0 : ([] ++ b : List Int) = b := rfl
  rw [hl0]
  all_goals refine awp_seq (awp_seq (dr_start (id := 2) ?_))
  all_goals refine dr_cons (op_mv rfl (Conv.of rfl) rfl) ?_
  all_goals refine dr_cons (op_fab f36_0 rfl rfl) ?_
  all_goals refine dr_cons (op_ld ty3 rfl rfl rfl) ?_
  all_goals refine dr_cons (op_sub rfl rfl rfl (by omega)) ?_
  all_goals refine dr_cons (op_ixA sl52 rfl rfl rfl rfl ⟨by omega, by omega⟩) ?_
  all_goals refine dr_cons (op_lde ty3 rfl rfl hv rfl) ?_
  all_goals refine dr_cons (op_fab f36_2 rfl rfl) ?_
  all_goals refine dr_cons (op_ld ty3 rfl rfl rfl) ?_
  all_goals refine dr_cons (op_geq rfl rfl rfl) ?_
  all_goals refine dr_nil mixed rfl ?_
  refine awp_to (s' := mkSt 47 [(5, .v (NRef.ref 7))] [(7, .arr (payF b p))]) ?_ ?_
  · refine awp_cond rfl (fun h => ?_) (fun h => ?_)
    · have hle : p.sum ≤ v := by simpa using h
      have hpay : payF b p = (b.set (p.frm - 1).toNat (v - p.sum)).set (p.to - 1).toNat (u + p.sum) := by
        unfold payF; rw [hvd, if_pos hle, hud']
      all_goals refine awp_seq (dr_start (id := 3) ?_)
      all_goals refine dr_cons (op_mv rfl (Conv.of rfl) rfl) ?_
      all_goals refine dr_cons (op_fab f36_0 rfl rfl) ?_
      all_goals refine dr_cons (op_ld ty3 rfl rfl rfl) ?_
      all_goals refine dr_cons (op_sub rfl rfl rfl (by omega)) ?_
      all_goals refine dr_cons (op_mv rfl (Conv.of rfl) rfl) ?_
      all_goals refine dr_cons (op_fab f36_0 rfl rfl) ?_
      all_goals refine dr_cons (op_ld ty3 rfl rfl rfl) ?_
      all_goals refine dr_cons (op_sub rfl rfl rfl (by omega)) ?_
      all_goals refine dr_cons (op_ixA sl52 rfl rfl rfl rfl ⟨by omega, by omega⟩) ?_
      all_goals refine dr_cons (op_lde ty3 rfl rfl hv rfl) ?_
      all_goals refine dr_cons (op_fab f36_2 rfl rfl) ?_
      all_goals refine dr_cons (op_ld ty3 rfl rfl rfl) ?_
      all_goals refine dr_cons (op_sub rfl rfl rfl (by omega)) ?_
      all_goals refine dr_cons (op_ixA sl52 rfl rfl rfl rfl ⟨by omega, by omega⟩) ?_
      all_goals refine dr_cons (op_ste ty3 rfl rfl (Conv.of rfl) rfl (by assumption)) ?_
      all_goals refine dr_nil mixed rfl ?_
      all_goals refine dr_start (id := 4) ?_
      all_goals refine dr_cons (op_mv rfl (Conv.of rfl) rfl) ?_
      all_goals refine dr_cons (op_fab f36_1 rfl rfl) ?_
      all_goals refine dr_cons (op_ld ty3 rfl rfl rfl) ?_
      all_goals refine dr_cons (op_sub rfl rfl rfl (by omega)) ?_
      all_goals refine dr_cons (op_mv rfl (Conv.of rfl) rfl) ?_
      all_goals refine dr_cons (op_fab f36_1 rfl rfl) ?_
      all_goals refine dr_cons (op_ld ty3 rfl rfl rfl) ?_
      all_goals refine dr_cons (op_sub rfl rfl rfl (by omega)) ?_
      all_goals refine dr_cons (op_ixA sl52 rfl rfl rfl rfl ⟨by omega, by simp; omega⟩) ?_
      all_goals refine dr_cons (op_lde ty3 rfl rfl hu' rfl) ?_
      all_goals refine dr_cons (op_fab f36_2 rfl rfl) ?_
      all_goals refine dr_cons (op_ld ty3 rfl rfl rfl) ?_
      all_goals refine dr_cons (op_add rfl rfl rfl (by omega)) ?_
      all_goals refine dr_cons (op_ixA sl52 rfl rfl rfl rfl ⟨by omega, by simp; omega⟩) ?_
      all_goals refine dr_cons (op_ste ty3 rfl rfl (Conv.of rfl) rfl (by assumption)) ?_
      all_goals refine dr_nil mixed rfl ?_
      all_goals exact Le.mk rfl (tlb rfl rfl rfl tln) (olk (by (first | (rw [hpay]; rfl) | rw [hpay])) (by exact obOk_arr) oln) noS
    · have hle : ¬ p.sum ≤ v := by simpa using h
      have hpay : payF b p = b := by unfold payF; rw [hvd, if_neg hle]
      refine awp_skip ?_
      all_goals exact Le.mk rfl (tlb rfl rfl rfl tln) (olk (by (first | (rw [hpay]; rfl) | rw [hpay])) (by exact obOk_arr) oln) noS
  have hbl := (hb.pay hp).len
  refine awp_le (Le.frz (t := 5) (o := 7) (by show _ ≤ 4611686018427387904; omega) noS rfl rfl obl0) ?_
  all_goals refine awp_seq (awp_region (id := 5) ?_)
  all_goals refine awpOps_cons (op_mv rfl (Conv.of rfl) rfl) ?_
  all_goals refine awpOps_cons (op_as rfl (Conv.of rfl) rfl) ?_
  all_goals refine awpOps_nil ?_
  refine awp_ret ?_
  repeat first | refine rt_seq ?_ | refine rt_block ?_
  exact finP (.v rfl (Conv.of rfl)) rfl rfl
theorem sBookOf_ct (c : List Itm) (h : chainOk c = true) : CtP Try.prog 58 [.v c] (.v (bookF c)) := by
  have hcp := chainOk_pay h
  have hcl := chainOk_len h
  refine Ct.intro Try.func58 rfl rfl ?_
  all_goals refine awp_seq (awp_region (id := 0) ?_)
  all_goals refine awpOps_cons (op_as rfl (Conv.of rfl) rfl) ?_
  all_goals refine awpOps_nil ?_
  all_goals refine awp_seq (awp_seq (awp_region (id := 1) ?_))
  all_goals refine awpOps_cons (op_mv rfl (Conv.of rfl) rfl) ?_
  all_goals refine awpOps_cons (op_call fb86 (.cons rfl (Conv.of rfl) (.nil _)) (sChainOk_ct _) (argOk rfl rfl argOk0) rfl rfl) ?_
  all_goals refine awpOps_cons (op_not rfl rfl) ?_
  all_goals refine awpOps_nil ?_
  refine awp_cond rfl (fun h2 => absurd (not_t h2) (by rw [h]; decide)) (fun h2 => ?_)
  refine awp_skip ?_
  all_goals refine awp_seq (awp_region (id := 3) ?_)
  all_goals refine awpOps_cons (op_call fb87 (.nil _) (sBookNew_ct) argOk0 rfl rfl) ?_
  all_goals refine awpOps_cons (op_as rfl (Conv.of rfl) rfl) ?_
  all_goals refine awpOps_nil ?_
  all_goals refine awp_seq (awp_seq (awp_region (id := 4) ?_))
  all_goals refine awpOps_cons (op_as rfl (Conv.of rfl) rfl) ?_
  all_goals refine awpOps_nil ?_
  refine awp_block ?_
  refine awp_loop' (fun n_ s => ∃ (k : Nat), ∃ (hn : n_ + k = c.length), s = mkSt 24 [(0, .v c), (3, .v ((c.take k).foldl (fun (b : List Int) (x : Itm) => payF b x.pay) [9, 9, 9])), (4, .v (k : Int))] []) (c.length) ⟨0, by omega, rfl⟩ (Le.mk rfl (tle rfl (rfl) rfl (tle rfl (by rfl) rfl (tle rfl (rfl) rfl tln))) oln noS) ?_
  rintro n_ s ⟨k, hn, rfl⟩
  have hbk := fold_bk (c.take k) Bk.new (fun x hx => hcp x (List.mem_of_mem_take hx))
  all_goals refine awp_seq (awp_seq (awp_region (id := 5) ?_))
  all_goals refine awpOps_cons (op_mv rfl (Conv.of rfl) rfl) ?_
  all_goals refine awpOps_cons (op_mv rfl (Conv.of rfl) rfl) ?_
  all_goals refine awpOps_cons (op_len sl26 rfl rfl) ?_
  all_goals refine awpOps_cons (op_lss rfl rfl rfl) ?_
  all_goals refine awpOps_nil ?_
  refine awp_cond rfl (fun h3 => ?_) (fun h3 => ?_)
  · have hlt : k < c.length := by simpa using h3
    have hx : c[k]? = some c[k] := List.getElem?_eq_getElem hlt
    have hpk := hcp _ (List.getElem_mem hlt)
    refine awp_skip ?_
    refine awp_seq (awp_block ?_)
    all_goals refine awp_region (id := 7) ?_
    all_goals refine awpOps_cons (op_mv rfl (Conv.of rfl) rfl) ?_
    all_goals refine awpOps_cons (op_mv rfl (Conv.of rfl) rfl) ?_
    all_goals refine awpOps_cons (op_mv rfl (Conv.of rfl) rfl) ?_
    all_goals refine awpOps_cons (op_ix sl26 rfl rfl rfl (by omega) hx) ?_
    all_goals refine awpOps_cons (op_far f38_1 rfl rfl) ?_
    all_goals refine awpOps_cons (op_ldr ty36 rfl rfl) ?_
    all_goals refine awpOps_cons (op_call fb88 (.cons rfl (Conv.of rfl) (.cons rfl (Conv.of rfl) (.nil _))) (l2Pay_ct _ _ hbk hpk) (argOk rfl rfl (argOk rfl rfl argOk0)) rfl rfl) ?_
    all_goals refine awpOps_cons (op_as rfl (Conv.of rfl) rfl) ?_
    all_goals refine awpOps_nil ?_
    all_goals refine awp_region (id := 6) ?_
    all_goals refine awpOps_cons (op_mv rfl (Conv.of rfl) rfl) ?_
    all_goals refine awpOps_cons (op_add rfl rfl rfl (by omega)) ?_
    all_goals refine awpOps_cons (op_as rfl (Conv.of rfl) rfl) ?_
    all_goals refine awpOps_nil ?_
    repeat first | refine nx_seq ?_ | refine nx_block ?_
    exact ⟨n_ - 1, _, by omega, ⟨k + 1, by omega, rfl⟩, Le.mk rfl (tle rfl (rfl) rfl (tle rfl (by (first | rfl | rw [foldl_at (fun (b : List Int) (x : Itm) => payF b x.pay) _ hx])) rfl (tle rfl (rfl) rfl tln))) oln noS⟩
  · refine awp_exit ?_
    repeat refine ex_seq ?_
    refine ex_block ?_
    have hk : c.length ≤ k := by simpa using h3
    all_goals refine awp_seq (awp_region (id := 8) ?_)
    all_goals refine awpOps_cons (op_mv rfl (Conv.of rfl) rfl) ?_
    all_goals refine awpOps_cons (op_as rfl (Conv.of rfl) rfl) ?_
    all_goals refine awpOps_nil ?_
    refine awp_ret ?_
    repeat first | refine rt_seq ?_ | refine rt_block ?_
    refine finP (.v rfl (Conv.of rfl)) rfl ?_
    rw [take_end hk]; rfl
theorem sNodeBook_ct (n : Nod) : CtP Try.prog 26 [.v n] (.v (nodeBookR n)) := by
  unfold nodeBookR
  cases h : nodeOk n with
  | false =>
    refine Ct.intro Try.func26 rfl rfl ?_
    all_goals refine awp_seq (awp_region (id := 0) ?_)
    all_goals refine awpOps_cons (op_box (o := 0) ty25 rfl (Conv.of rfl) rfl rfl) ?_
    all_goals refine awpOps_cons (op_as rfl (Conv.of rfl) rfl) ?_
    all_goals refine awpOps_nil ?_
    all_goals refine awp_seq (awp_seq (awp_region (id := 1) ?_))
    all_goals refine awpOps_cons (op_ld ty25 rfl rfl rfl) ?_
    all_goals refine awpOps_cons (op_call fb18 (.cons rfl (Conv.of rfl) (.nil _)) (sNodeOk_ct _) (argOk rfl rfl argOk0) rfl rfl) ?_
    all_goals refine awpOps_cons (op_not rfl rfl) ?_
    all_goals refine awpOps_nil ?_
    refine awp_cond rfl (fun h2 => ?_) (fun h2 => absurd (not_f h2) (by rw [h]; decide))
    all_goals refine awp_seq (awp_region (id := 2) ?_)
    all_goals refine awpOps_cons (op_bsl sl52 z3 (.nil _) rfl (by decide) rfl) ?_
    all_goals refine awpOps_cons (op_as rfl Conv.ol rfl) ?_
    all_goals refine awpOps_nil ?_
    refine awp_ret ?_
    repeat first | refine rt_seq ?_ | refine rt_block ?_
    exact finP (.v rfl (Conv.of rfl)) rfl rfl
  | true =>
    have hs := nodeOk_seen h
    have hg := gdOf hs.1 (by omega)
    have hfc := final_chainOk (votesOk_mem hs.1)
    have hfs := finalS_eq hs.1
    have k1 := l11Final_ct n.seen hg
    rw [hfs] at k1
    refine Ct.intro Try.func26 rfl rfl ?_
    all_goals refine awp_seq (awp_region (id := 0) ?_)
    all_goals refine awpOps_cons (op_box (o := 0) ty25 rfl (Conv.of rfl) rfl rfl) ?_
    all_goals refine awpOps_cons (op_as rfl (Conv.of rfl) rfl) ?_
    all_goals refine awpOps_nil ?_
    all_goals refine awp_seq (awp_seq (awp_region (id := 1) ?_))
    all_goals refine awpOps_cons (op_ld ty25 rfl rfl rfl) ?_
    all_goals refine awpOps_cons (op_call fb18 (.cons rfl (Conv.of rfl) (.nil _)) (sNodeOk_ct _) (argOk rfl rfl argOk0) rfl rfl) ?_
    all_goals refine awpOps_cons (op_not rfl rfl) ?_
    all_goals refine awpOps_nil ?_
    refine awp_cond rfl (fun h2 => absurd (not_t h2) (by rw [h]; decide)) (fun h2 => ?_)
    refine awp_skip ?_
    all_goals refine awp_seq (awp_region (id := 3) ?_)
    all_goals refine awpOps_cons (op_fab f25_3 rfl rfl) ?_
    all_goals refine awpOps_cons (op_ld ty23 rfl rfl rfl) ?_
    all_goals refine awpOps_cons (op_call fb59 (.cons rfl (Conv.of rfl) (.nil _)) (k1) (argOk rfl rfl argOk0) rfl rfl) ?_
    all_goals refine awpOps_cons (op_call fb58 (.cons rfl (Conv.of rfl) (.nil _)) (sBookOf_ct _ hfc) (argOk rfl rfl argOk0) rfl rfl) ?_
    all_goals refine awpOps_cons (op_as rfl (Conv.of rfl) rfl) ?_
    all_goals refine awpOps_nil ?_
    refine awp_ret ?_
    repeat first | refine rt_seq ?_ | refine rt_block ?_
    exact finP (.v rfl (Conv.of rfl)) rfl rfl
theorem nodeBookR_ct (n : Nod) : CtP Try.prog 24 [.v n] (.v (nodeBookR n)) := by
  cases h : nodeOk n with
  | false =>
    rw [show nodeBookR n = [] by unfold nodeBookR; rw [h]; rfl]
    refine Ct.intro Try.func24 rfl rfl ?_
    all_goals refine awp_seq (awp_region (id := 0) ?_)
    all_goals refine awpOps_cons (op_box (o := 0) ty25 rfl (Conv.of rfl) rfl rfl) ?_
    all_goals refine awpOps_cons (op_as rfl (Conv.of rfl) rfl) ?_
    all_goals refine awpOps_nil ?_
    all_goals refine awp_seq (awp_seq (awp_region (id := 1) ?_))
    all_goals refine awpOps_cons (op_ld ty25 rfl rfl rfl) ?_
    all_goals refine awpOps_cons (op_call fb42 (.cons rfl (Conv.of rfl) (.nil _)) (nodeOk_ct _) (argOk rfl rfl argOk0) rfl rfl) ?_
    all_goals refine awpOps_cons (op_not rfl rfl) ?_
    all_goals refine awpOps_nil ?_
    refine awp_cond rfl (fun h2 => ?_) (fun h2 => absurd (not_f h2) (by rw [h]; decide))
    all_goals refine awp_seq (awp_region (id := 2) ?_)
    all_goals refine awpOps_cons (op_as rfl (Conv.of rfl) rfl) ?_
    all_goals refine awpOps_nil ?_
    refine awp_ret ?_
    repeat first | refine rt_seq ?_ | refine rt_block ?_
    exact finP (.v rfl Conv.nl) rfl rfl
  | true =>
    rw [show nodeBookR n = bookF (finalOf n.seen) by unfold nodeBookR; rw [if_pos h]]
    exact nodeBook_ct n h
end Go.Proofs.Ytmabpmlcclgecaa
