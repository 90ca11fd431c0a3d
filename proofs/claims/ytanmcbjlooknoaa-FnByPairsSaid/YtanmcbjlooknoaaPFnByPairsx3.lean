-- Printed by this claim's own program; Lean checks it.
import Derived.Laws.EntriesVeiled
import Derived.Test.YtanmcbjlooknoaaPFnByPairsx0
import Derived.Test.YtanmcbjlooknoaaPFnByPairsx1
import Derived.Test.YtanmcbjlooknoaaPFnByPairsx2
namespace Go.Proofs.Ytanmcbjlooknoaa.PFnByPairs
open Go.RowKit Go.Proofs.YtanmcbjlooknoaaW.PrintWords Go.Proofs.YtanmcbjlooknoaaW.PrintLast Go.Proofs.YtanmcbjlooknoaaW.PrintMore
attribute [local go_sem] max2_int min2_int max_two min_two max_three min_three max_four min_four   -- for this text's walks alone
set_option linter.unusedVariables false
set_option linter.unusedSimpArgs false

/-! ### slices_Clone_int_int: function 60 -/
def slices_Clone_int_int.f (l0 : List Int) : Option (List Int) := (some (([] : List Int) : List Int)).bind fun y144 => (if y144.length + l0.length < 17592186044416 then (some (y144 ++ l0)) else (none))
theorem slices_Clone_int_int.nilq0 (w : World) (d : Nat) (a : Option Addr) (n c : Nat) : (Op.equalIn (d + 1) 25 (.slice a n c) (.slice none 0 0)).run Try.prog w = .ok a.isNone w := by
  cases a <;> simp [Op.equalIn, run_underlying Try.underlying25]
theorem slices_Clone_int_int.nilq (w : World) (a : Option Addr) (n c : Nat) : (binOp .eql 25 (.slice a n c) (.slice none 0 0)).run Try.prog w = .ok (.bool a.isNone) w := by
  simp only [binOp]
  simp [Op.equal, Op.maxDepth, slices_Clone_int_int.nilq0 w 9999 a n c]
attribute [local go_sem] slices_Clone_int_int.nilq
set_option maxHeartbeats 8000000 in
set_option maxRecDepth 100000 in
theorem slices_Clone_int_int.calls (A0 : Option Addr) (c0 : Nat) (l0 : List Int) (r : List Int) (w : World) (hr0 : Kd.C (Kd.int .i64) w A0 l0.length l0) (hc0 : l0.length ≤ c0) (h : slices_Clone_int_int.f l0 = some r) :
    Calls Try.prog 60 #[.slice A0 l0.length c0] w fun e w' => ∃ v0_ : Value, e = .returned (v0_) ∧ Kd.R (Kd.int .i64) 3 w' w.heap.size (fun _ => True) v0_ r ∧ Below w.heap.size w w' := by
  cases A0 with
  | none =>
    have e0_ : l0 = [] := by
      by_cases hz_ : 0 < l0.length
      · obtain ⟨a_, ha_, -⟩ := hr0.2.2 hz_
        cases ha_
      · exact List.length_eq_zero_iff.1 (by omega)
    subst e0_
    have e1_ : r = [] := by simpa [slices_Clone_int_int.f] using h.symm
    subst e1_
    clear h
    go_enter Try.func60, Try.ntmps60
    go_wp2
    go_ret
    exact ⟨_, by first | rfl | (simp; done), by first | exact Kd.R_nil _ _ _ _ _ | exact Kd.S_nil _ _ _ _ _ | exact Kd.N_nil _ _ _ _ _ | exact Kd.V_nil _ _ _ _ _ | exact Kd.Q_nil _ _ _ _ _, by repeat (first | (with_reducible first | exact Below.refl _ _ | apply below_alloc | apply pw_below_drewN | apply below_drew1) | exact Below.refl _ _)⟩
  | some A0 =>
    have HR0 := Aside0.mk hr0
    have HC0 := Aside0.mk hc0
    clear hr0 hc0
    have HB := Aside0.mk (Below.refl w.heap.size w)
    have H : ((some (([] : List Int) : List Int)).bind fun y144 => (if y144.length + l0.length < 17592186044416 then (some (y144 ++ l0)) else (none))) = some r := h
    clear h
    obtain ⟨y144, hy144⟩ : ∃ y_ : List Int, y_ = (([] : List Int)) := ⟨_, rfl⟩
    replace H : (if y144.length + l0.length < 17592186044416 then (some (y144 ++ l0)) else (none)) = some r := by first | (rw [hy144]; with_reducible exact H) | (have H2_ := (Option.bind_some _ _).symm.trans H; rw [hy144]; with_reducible exact H2_) | (have H2_ := (Option.bind_some _ _).symm.trans H; with_reducible exact H2_) | with_reducible exact H | (rw [hy144]; exact H) | exact H
    have Ny144 := Aside0.mk hy144
    clear hy144
    by_cases c2 : y144.length + l0.length < 17592186044416
    · rw [if_pos c2] at H
      have LMc2 := Aside0.mk c2
      clear c2
      obtain ⟨y147, hy147⟩ : ∃ y_ : List Int, y_ = (y144 ++ l0) := ⟨_, rfl⟩
      replace H : (some y147) = some r := by first | (rw [hy147]; with_reducible exact H) | (have H2_ := (Option.bind_some _ _).symm.trans H; rw [hy147]; with_reducible exact H2_) | (have H2_ := (Option.bind_some _ _).symm.trans H; with_reducible exact H2_) | with_reducible exact H | (rw [hy147]; exact H) | exact H
      have Ny147 := Aside0.mk hy147
      clear hy147
      obtain rfl := Option.some.inj H
      go_enter Try.func60, Try.ntmps60
      go_wp2_with (first | ((with_reducible refine gate_dst (N := 5) rfl ?_); refine Kd.R_lit (Kd.int .i64) _ 3 ?hg (N := 5) ?hd (xs := ([] : List Int)) (inner := []) (ok := fun _ => True) (okp := fun _ => True) ?hr ?hp (fun _ hk => hk) trivial (Below.refl _ _) (Nat.le_refl _) (by simp) ?_; (case hd => rfl); (case hg => rfl); (case hr => first | (go_simp; done) | (go_simp; rfl)); (case hp => exact (Reps.none _ _)); intro v145 w3 ho4 hb hg_ hnew_; clear hg_ hnew_; (first | rw [← Ny144.out] at ho4 | (simp only [Int.reduceToNat] at ho4; rw [← Ny144.out] at ho4)); have n0_ := Aside0.mk (Kd.R_lower ho4 (below_size (by repeat (first | (with_reducible first | exact HB.out | apply below_alloc | apply pw_below_drewN | apply below_drew1) | exact HB.out)))); have n1_ := Aside0.mk (below_step (by repeat (first | (with_reducible first | exact HB.out | apply below_alloc | apply pw_below_drewN | apply below_drew1) | exact HB.out)) hb); clear HB; have HO146 := n0_; have HB := n1_; clear n0_ n1_; clear hb ho4) | ((with_reducible refine gate_builtin (b := .append) (xs := #[.tmp 5, .tmp 6]) rfl ?_); at_builtin; refine Kd.R_append_rows (Kd.int .i64) (w0 := w) w.heap.size rfl (.tmp 5) (.tmp 6) 25 3 (.int .i64 0) 8 rfl Try.underlying25 info3 rfl (by decide) (by omega) v145 y144 l0 _ _ _ (fun _ => True) (fun _ => False) rfl rfl ?aO ?aR (fun _ _ h => h) (fun _ h => h.elim) ?aF ?aB ?aS ?aL ?_; (case aR => repeat (first | exact (Kd.C_below HR0.out HB.out) | (with_reducible refine Kd.C_alloc ?_ _) | (with_reducible refine Kd.C_drewN ?_ _) | (with_reducible refine Kd.C_drew ?_))); (case aB => exact (by repeat (first | (with_reducible first | exact HB.out | apply below_alloc | apply pw_below_drewN | apply below_drew1) | exact HB.out))); (case aF => exact (fun _ _ => trivial)); (case aO => exact (by (with_reducible repeat (first | apply Kd.R_alloc | apply Kd.R_drewN | apply Kd.R_drew)); exact HO146.out)); (case aS => exact (below_size (by repeat (first | (with_reducible first | exact HB.out | apply below_alloc | apply pw_below_drewN | apply below_drew1) | exact HB.out)))); (case aL => have := LMc2.out; omega); intro v148 w5 ho hb hg hat; rw [← Ny147.out] at ho; have n0_ := Aside0.mk (hb); have n1_ := Aside0.mk (ho); clear HB; clear HO146; have HB := n0_; have HO149 := n1_; clear n0_ n1_; clear ho hb hg hat))
      go_ret
      exact ⟨_, by first | rfl | (simp [errW_none, errW_some] <;> rfl) | (simp [*, errW_none, errW_some] <;> rfl), by (with_reducible repeat (first | apply Kd.R_alloc | apply Kd.R_drewN | apply Kd.R_drew)); exact HO149.out, by repeat (first | (with_reducible first | exact HB.out | apply below_alloc | apply pw_below_drewN | apply below_drew1) | exact HB.out)⟩
    · rw [if_neg c2] at H
      exact absurd H (by simp)

/-! ### impl_LeastWay: function 28 (by hand) -/
set_option linter.unusedSimpArgs false
set_option linter.unusedVariables false
theorem below0_set {w W : World} (h : Below 0 w W) (a : Addr) (u : Value) : Below 0 w (W.setCell a u) :=
  ⟨h.os, h.tape, h.output, by simpa [World.setCell] using h.size, fun k hk => absurd hk (Nat.not_lt_zero k)⟩
/-- What the closure that LeastWay hands on does to the cell 'least'. -/
theorem impl_LeastWay_tell.calls (k : Nat) (A0 : Option Addr) (c0 : Nat) (o : List Int) (A1 : Option Addr) (c1 : Nat) (l : List S31) (L : List S31) (m n : Int) (gl gs : Nat) (w : World)
    (hm : w.heap[gl]? = some (.cells #[.int .i64 m] 3 (0, 0))) (hs : w.heap[gs]? = some (.cells #[.slice A1 l.length c1] 23 (0, 0)))
    (hr0 : Kd.C (Kd.int .i64) w A0 o.length o) (hc0 : o.length ≤ c0) (hr1 : Kd.C k31 w A1 l.length l) (hc1 : l.length ≤ c1)
    (h : impl_inOrder.f k l o = some L) (h2 : impl_longestWay.f k L = some n) :
    Calls Try.prog 49 #[.slice A0 o.length c0, .pointer (some ⟨gl, 0, none⟩), .pointer (some ⟨gs, 0, none⟩)] w fun e w' => e = .returned (.tuple #[]) ∧ w'.heap[gl]? = some (.cells #[.int .i64 (mn m n)] 3 (0, 0)) ∧ KeepBut w w' gl none ∧ Below 0 w w' := by
  have hc_l : w.cell? ⟨gl, 0, none⟩ = some (.int .i64 m) := (blk_cell hm 0).trans rfl
  have hf_l := blk_frozen hm 0
  have hc_s : w.cell? ⟨gs, 0, none⟩ = some (.slice A1 l.length c1) := (blk_cell hs 0).trans rfl
  have hf_s := blk_frozen hs 0
  go_enter Try.func49, Try.ntmps49
  refine start_ (n := 7) (S := fun w' => w'.cell? ⟨gl, 0, none⟩ = some (.int .i64 m) ∧ w'.cell? ⟨gs, 0, none⟩ = some (.slice A1 l.length c1)) (ds := [6]) #[false, false, false, false, false, false, false] (by kernel_rfl) rfl rfl ⟨hc_l, hc_s⟩ (fun hHeld => ?_)
  refine take_ (i := 0) (N := some 4) (v := ?_) (a' := ?_) #[true, false, false, false, false, false, false] rfl rfl (by kernel_rfl) (fun _ _ _ h => h) (Or.inl ⟨by rfl, ?_⟩) hHeld ?_ ?_
  rotate_left
  · rintro w' ⟨s0, s1⟩
    go_simp
    with_reducible rfl
  rotate_left
  · simp only [Act.put, List.setIfInBounds_toArray, List.set_cons_zero, List.set_cons_succ, i64_w, i32_w]
    rfl
  refine take_ (i := 1) (N := some 5) (v := ?_) (a' := ?_) #[true, true, false, false, false, false, false] rfl rfl (by kernel_rfl) (fun _ _ _ h => h) (Or.inl ⟨by rfl, ?_⟩) hHeld ?_ ?_
  rotate_left
  · rintro w' ⟨s0, s1⟩
    go_simp
    with_reducible rfl
  rotate_left
  · simp only [Act.put, List.setIfInBounds_toArray, List.set_cons_zero, List.set_cons_succ, i64_w, i32_w]
    rfl
  refine pure_ (i := 2) (N := some 6) (v := ?_) (a' := ?_) #[true, true, true, false, false, false, false] rfl rfl (by kernel_rfl) (fun _ _ _ h => h) (Or.inl ⟨by rfl, ?_⟩) ?_ ?_
  rotate_left
  · intro w'
    go_simp
    with_reducible rfl
  rotate_left
  · simp only [Act.put, List.setIfInBounds_toArray, List.set_cons_zero, List.set_cons_succ, i64_w, i32_w]
    rfl
  refine one_ (i := 3) (N := some 7) #[true, true, true, true, false, false, false] rfl rfl (by kernel_rfl) (by decide) (fun K hK => ?_)
  refine goes_ Try.func45 (by kernel_rfl) rfl #[.slice A1 l.length c1, .slice A0 o.length c0] (by rfl) rfl rfl (by (try simp only [List.map_toArray, List.map_cons, List.map_nil]); first | done | rfl) ?_
  refine (impl_inOrder.calls k A1 c1 l A0 c0 o L w.drew (Kd.C_drew hr1) hc1 (Kd.C_drew hr0) hc0 h).mono ?_
  rintro e w1 ⟨v, rfl, ho, hb⟩
  refine ⟨_, rfl, ?_⟩
  obtain ⟨Av, cv, rfl⟩ := Kd.R_slice ho
  have hm1 : w1.heap[gl]? = some (.cells #[.int .i64 m] 3 (0, 0)) := (hb.block _ (blk_lt (w := w.drew) hm)).trans hm
  have hs1 : w1.heap[gs]? = some (.cells #[.slice A1 l.length c1] 23 (0, 0)) := (hb.block _ (blk_lt (w := w.drew) hs)).trans hs
  have hb1 : Below w.heap.size w w1 := below_step (below_drew1 (Below.refl _ _)) hb
  refine hK _ _ ⟨(blk_cell hm1 0).trans rfl, (blk_cell hs1 0).trans rfl⟩ (fun hHeld => ?_)
  clear hK K
  refine norm_ (a' := ?_) ?_ ?_
  rotate_left
  · show Act.put _ (some 7) _ = _
    simp only [Act.put, List.setIfInBounds_toArray, List.set_cons_zero, List.set_cons_succ, i64_w, i32_w]
    rfl
  refine one_ (i := 4) (N := some 8) #[true, true, true, true, true, false, false] rfl rfl (by kernel_rfl) (by decide) (fun K hK => ?_)
  refine goes_ Try.func42 (by kernel_rfl) rfl #[.slice Av L.length cv] (by rfl) rfl rfl (by (try simp only [List.map_toArray, List.map_cons, List.map_nil]); first | done | rfl) ?_
  refine (impl_longestWay.calls k Av cv L n w1 (Kd.R_reads' ho).2.2 (Kd.R_reads' ho).2.1 h2).mono ?_
  rintro e w2 ⟨rfl, hb⟩
  refine ⟨_, rfl, ?_⟩
  have hm2 : w2.heap[gl]? = some (.cells #[.int .i64 m] 3 (0, 0)) := (hb.block _ (blk_lt hm1)).trans hm1
  have hs2 : w2.heap[gs]? = some (.cells #[.slice A1 l.length c1] 23 (0, 0)) := (hb.block _ (blk_lt hs1)).trans hs1
  have hb2 : Below w.heap.size w w2 := below_step hb1 hb
  refine hK _ _ ⟨(blk_cell hm2 0).trans rfl, (blk_cell hs2 0).trans rfl⟩ (fun hHeld => ?_)
  clear hK K
  refine norm_ (a' := ?_) ?_ ?_
  rotate_left
  · show Act.put _ (some 8) _ = _
    simp only [Act.put, List.setIfInBounds_toArray, List.set_cons_zero, List.set_cons_succ, i64_w, i32_w]
    rfl
  refine pure_ (i := 5) (N := some 9) (v := ?_) (a' := ?_) #[true, true, true, true, true, true, false] rfl rfl (by kernel_rfl) (fun _ _ _ h => h) (Or.inl ⟨by rfl, ?_⟩) ?_ ?_
  rotate_left
  · intro w'
    go_simp
    with_reducible rfl
  rotate_left
  · simp only [Act.put, List.setIfInBounds_toArray, List.set_cons_zero, List.set_cons_succ, i64_w, i32_w]
    rfl
  have hc2 : w2.cell? ⟨gl, 0, none⟩ = some (.int .i64 m) := (blk_cell hm2 0).trans rfl
  have hf2 := blk_frozen hm2 0
  refine last_ (i := 6) (N := none) #[true, true, true, true, true, true, true] rfl rfl (by kernel_rfl) (by decide) (fun K hK => ?_)
  refine skip_ (w1 := w2.setCell ⟨gl, 0, none⟩ (.int .i64 (mn m n))) (by rfl) rfl ?_ ?_
  · go_simp
    rfl
  have hm3 : (w2.setCell ⟨gl, 0, none⟩ (.int .i64 (mn m n))).heap[gl]? = some (.cells #[.int .i64 (mn m n)] 3 (0, 0)) := blk_put (cs := #[.int .i64 m]) hm2 0 _ rfl
  have hk3 : KeepBut w (w2.setCell ⟨gl, 0, none⟩ (.int .i64 (mn m n))) gl none := KeepBut.set_ (KeepBut.of_below hb2 gl none) 0 _
  refine hK _ _ ?_
  refine done_ (by rfl) ?_
  first | go_end0 | ((try simp only [Exit.inBlock, Exit.then]); refine bodyPost_ret (results_none rfl _ _ _) rfl ?_)
  exact ⟨rfl, hm3, hk3, below0_set (hb2.mono (Nat.zero_le _)) _ _⟩
section
variable {P : Program} {ops : Array Oper} {Q : Exit → Act → World → Prop}
/-- A call of a function value: the function, and behind the arguments what it has captured. -/
theorem goesV_ {rest : List Oper} {oi : Oper} {a : Act} {w : World} (N : Option Tmp) (hd : oi.dst = N) (hg : oi.guard = none) {f : FuncId} {fn : Func} {xs : Array Operand} {ts : Array TypeId} (hf : P.funcs[f]? = some fn) (hname : (fn.name == "runtime.NumGoroutine") = false) (hb : fn.body.isSome = true) {t : Tmp} (caps args : Array Value)
    (hop : oi.op = .call { callee := .value (.tmp t), args := xs, argTypes := ts }) (hv : a.eval (.tmp t) = .func (.func f) #[] caps) (hargs : xs.map a.eval ++ caps = args)
    (h : Calls P f args w fun e w' => ∃ v, e = .returned v ∧ wpList P ops Q rest (a.put N v) w') : wpList P ops Q (oi :: rest) a w := by
  refine wpList_plain hg fun K hK => ?_
  have he := enters_ hf hname hb args w
  have hrun : (execOp a.eval oi).run P w = .ok (.enter f args) w := by
    unfold execOp
    simp [hop, resolve, Deferred.ofValue, invoke, hv, hargs, he]
  unfold Oper.wp
  rw [hrun, Oper.upon_enter]
  refine h.mono fun e w'' hh => ?_
  obtain ⟨v, rfl, hk⟩ := hh
  subst hd
  exact hK _ _ hk
theorem goesVS_ {oi : Oper} {N : Option Tmp} {a : Act} {w : World} {K : Act → World → Prop} {f : FuncId} {fn : Func} {xs : Array Operand} {ts : Array TypeId} (hf : P.funcs[f]? = some fn) (hname : (fn.name == "runtime.NumGoroutine") = false) (hb : fn.body.isSome = true) {t : Tmp} (caps args : Array Value)
    (hw : Region.wanted oi (yielded ops a.tmps) = true) (hN : oi.dst = N) (hop : oi.op = .call { callee := .value (.tmp t), args := xs, argTypes := ts }) (hv : a.eval (.tmp t) = .func (.func f) #[] caps) (hargs : xs.map a.eval ++ caps = args)
    (h : Calls P f args w fun e w' => ∃ v, e = .returned v ∧ K (a.put N v) w') : if Region.wanted oi (yielded ops a.tmps) = true then Oper.wp P oi a w K Q else K (a.put N undef) w := by
  refine call_ f args hw hN ?_ h
  have he := enters_ hf hname hb args w
  unfold execOp
  simp [hop, resolve, Deferred.ofValue, invoke, hv, hargs, he]
end
def impl_LeastWay.rounds (k : Nat) (step : List Int → Int → Option Int) (o : List Int) (many : Nat) : Nat → Nat → Int → Option Int
  | 0, _, _ => none
  | q + 1, i, m => if i < many then ((slices_Contains_int_int.f k o (i : Int)).bind fun b => if b = true then impl_LeastWay.rounds k step o many q (i + 1) m else ((slices_Clone_int_int.f o).bind fun y => (step (y ++ [(i : Int)]) m).bind fun m' => impl_LeastWay.rounds k step o many q (i + 1) m')) else some m
def impl_LeastWay.go (k : Nat) (l : List S31) : Nat → List Int → Int → Option Int
  | 0, _, _ => none
  | d + 1, o, m => if o.length = l.length then (impl_inOrder.f k l o).bind fun L => (impl_longestWay.f k L).bind fun n => some (mn m n) else impl_LeastWay.rounds k (impl_LeastWay.go k l d) o l.length (l.length + 1) 0 m
/-- What the captured cells hold. -/
structure LWEnv (l : List S31) (A1 : Option Addr) (c1 gl gs gm gt gr : Nat) (W : World) : Prop where
  s : W.heap[gs]? = some (.cells #[.slice A1 l.length c1] 23 (0, 0))
  m : W.heap[gm]? = some (.cells #[.int .i64 l.length] 3 (0, 0))
  t : W.heap[gt]? = some (.cells #[.func (.func 49) #[] #[.pointer (some ⟨gl, 0, none⟩), .pointer (some ⟨gs, 0, none⟩)]] 62 (0, 0))
  r : W.heap[gr]? = some (.cells #[.func (.func 59) #[] #[.pointer (some ⟨gm, 0, none⟩), .pointer (some ⟨gt, 0, none⟩), .pointer (some ⟨gr, 0, none⟩)]] 62 (0, 0))
  c : ∀ W', KeepBut W W' gl none → Kd.C k31 W' A1 l.length l
  ns : gs ≠ gl
  nm : gm ≠ gl
  nt : gt ≠ gl
  nr : gr ≠ gl
theorem LWEnv.keep {l : List S31} {A1 : Option Addr} {c1 gl gs gm gt gr : Nat} {W W' : World} (h : LWEnv l A1 c1 gl gs gm gt gr W) (hk : KeepBut W W' gl none) : LWEnv l A1 c1 gl gs gm gt gr W' where
  s := hk.blk h.s h.ns (by simp)
  m := hk.blk h.m h.nm (by simp)
  t := hk.blk h.t h.nt (by simp)
  r := hk.blk h.r h.nr (by simp)
  c := fun W2 h2 => h.c W2 (hk.trans h2 (.inl rfl))
  ns := h.ns
  nm := h.nm
  nt := h.nt
  nr := h.nr
theorem impl_LeastWay_try.calls (k : Nat) (A1 : Option Addr) (c1 : Nat) (l : List S31) (hc1 : l.length ≤ c1) (hlen : l.length ≤ 1000) (gl gs gm gt gr : Nat) : ∀ (d : Nat) (A0 : Option Addr) (c0 : Nat) (o : List Int) (m r : Int) (w : World)
    (hE : LWEnv l A1 c1 gl gs gm gt gr w) (hm : w.heap[gl]? = some (.cells #[.int .i64 m] 3 (0, 0))) (hr0 : ∀ W', KeepBut w W' gl none → Kd.C (Kd.int .i64) W' A0 o.length o) (hc0 : o.length ≤ c0)
    (h : impl_LeastWay.go k l d o m = some r),
    Calls Try.prog 59 #[.slice A0 o.length c0, .pointer (some ⟨gm, 0, none⟩), .pointer (some ⟨gt, 0, none⟩), .pointer (some ⟨gr, 0, none⟩)] w fun e w' => e = .returned (.tuple #[]) ∧ w'.heap[gl]? = some (.cells #[.int .i64 r] 3 (0, 0)) ∧ KeepBut w w' gl none ∧ Below 0 w w' := by
  intro d
  induction d with
  | zero => intro A0 c0 o m r w hE hm hr0 hc0 h; simp [impl_LeastWay.go] at h
  | succ d ih =>
    intro A0 c0 o m r w hE hm hr0 hc0 h
    have hc_m : w.cell? ⟨gm, 0, none⟩ = some (.int .i64 l.length) := (blk_cell hE.m 0).trans rfl
    have hf_m := blk_frozen hE.m 0
    have hc_t : w.cell? ⟨gt, 0, none⟩ = some (.func (.func 49) #[] #[.pointer (some ⟨gl, 0, none⟩), .pointer (some ⟨gs, 0, none⟩)]) := (blk_cell hE.t 0).trans rfl
    have hf_t := blk_frozen hE.t 0
    simp only [impl_LeastWay.go] at h
    by_cases hl : o.length = l.length
    · rw [if_pos hl] at h
      obtain ⟨L, hL, h⟩ := Option.bind_eq_some_iff.mp h
      obtain ⟨n, hn, h⟩ := Option.bind_eq_some_iff.mp h
      obtain rfl := Option.some.inj h
      have hle : ((o.length : Int) == (l.length : Int)) = true := by simp [hl]
      clear hl
      go_enter Try.func59, Try.ntmps59
      go_wp2_with (fail)
      refine (impl_LeastWay_tell.calls k A0 c0 o A1 c1 l L m n gl gs _ hm hE.s (hr0 _ (KeepBut.refl _ _ _)) hc0 (hE.c _ (KeepBut.refl _ _ _)) hc1 hL hn).mono ?_
      rintro e w2 ⟨rfl, hm2, hk2, hz2⟩
      go_wp2
      first | go_end0 | ((try simp only [Exit.inBlock, Exit.then]); refine bodyPost_ret (results_none rfl _ _ _) rfl ?_)
      exact ⟨rfl, hm2, hk2, hz2⟩
    · rw [if_neg hl] at h
      have hle : ((o.length : Int) == (l.length : Int)) = false := by simp; omega
      clear hl
      have H' := Aside0.mk h
      clear h
      have HE := Aside0.mk hE
      have HR := Aside0.mk hr0
      have HM0 := Aside0.mk hm
      have HGL := Aside0.mk (show gl < w.heap.size from blk_lt hm)
      clear hE hr0 hm
      go_enter Try.func59, Try.ntmps59
      go_wp2_with (fail)
      go_loopg [14] (l.length + 1) (fun kq v14 w' => ∃ (i : Nat) (xi mi : Int), v14 = .int .i64 xi ∧ Aside0 (xi = (i : Int)) ∧ Aside0 (impl_LeastWay.rounds k (impl_LeastWay.go k l d) o l.length kq i mi = some r) ∧ Aside0 (kq ≤ l.length + 1) ∧ Aside0 (w'.heap[gl]? = some (.cells #[.int .i64 mi] 3 (0, 0))) ∧ Aside0 (KeepBut w w' gl none) ∧ Aside0 (Below 0 w w'))
      case atStart => exact ⟨0, 0, m, rfl, ⟨rfl⟩, H', ⟨Nat.le_refl _⟩, HM0, ⟨KeepBut.refl _ _ _⟩, ⟨Below.refl _ _⟩⟩
      case round =>
        clear H' HM0
        obtain ⟨i, xi, mi, rfl, HX, HA, HK1, HM, HK, HZ⟩ := hrel
        cases gk with
        | zero => exact absurd HA.out (by simp [impl_LeastWay.rounds])
        | succ q =>
          have H := HA.out
          clear HA
          simp only [impl_LeastWay.rounds] at H
          by_cases c : i < l.length
          · rw [if_pos c] at H
            obtain ⟨b, hb, H⟩ := Option.bind_eq_some_iff.mp H
            have hx_ := HX.out
            have c3 : decide (xi < (l.length : Int)) = true := decide_eq_true (by omega)
            rw [← hx_] at hb
            clear hx_
            have HC := Aside0.mk c
            have Hb := Aside0.mk hb
            clear c hb
            cases b with
            | true =>
              have H' := Aside0.mk (show impl_LeastWay.rounds k (impl_LeastWay.go k l d) o l.length q (i + 1) mi = some r from H)
              clear H
              go_wp2_with (fail)
              refine (slices_Contains_int_int.calls k A0 c0 o xi true _ (HR.out _ HK.out) hc0 Hb.out).mono ?_
              rintro e w1 ⟨rfl, hd⟩
              obtain ⟨nd, rfl⟩ := hd.out
              go_wp2
              go_roundg q
              case measure => have := HK1.out; omega
              case rel => exact ⟨i + 1, wrap64 (xi + 1), mi, (by first | rfl | (simp; done) | (simp [*]; done)), ⟨by have h1 := HX.out; have h2 := HC.out; rw [h1]; unfold wrap64; omega⟩, H', ⟨by have := HK1.out; omega⟩, HM, ⟨keep_drewN HK.out nd⟩, ⟨pw_below_drewN HZ.out nd⟩⟩
            | false =>
              obtain ⟨y, hy, H⟩ := Option.bind_eq_some_iff.mp (show ((slices_Clone_int_int.f o).bind fun y => (impl_LeastWay.go k l d (y ++ [(i : Int)]) mi).bind fun m' => impl_LeastWay.rounds k (impl_LeastWay.go k l d) o l.length q (i + 1) m') = some r from H)
              obtain ⟨m', hm', H⟩ := Option.bind_eq_some_iff.mp H
              rw [← HX.out] at hm'
              have H' := Aside0.mk H
              have HY := Aside0.mk hy
              have HG := Aside0.mk hm'
              clear H hy hm'
              go_wp2_with (fail)
              refine (slices_Contains_int_int.calls k A0 c0 o xi false _ (HR.out _ HK.out) hc0 Hb.out).mono ?_
              rintro e w1 ⟨rfl, hd⟩
              obtain ⟨nd, rfl⟩ := hd.out
              go_wp2_with (fail)
              have hk5 : KeepBut w (wr.drewN nd).drew gl none := keep_drew (keep_drewN HK.out nd)
              have hm5 : (wr.drewN nd).drew.heap[gl]? = some (.cells #[.int .i64 mi] 3 (0, 0)) := HM.out
              have hz5 : Below 0 w (wr.drewN nd).drew := (pw_below_drewN HZ.out nd).drew
              generalize hw5 : (wr.drewN nd).drew = w5 at hk5 hm5 hz5
              have hE5 := HE.out.keep hk5
              have hcr5 : w5.cell? ⟨gr, 0, none⟩ = some (.func (.func 59) #[] #[.pointer (some ⟨gm, 0, none⟩), .pointer (some ⟨gt, 0, none⟩), .pointer (some ⟨gr, 0, none⟩)]) := (blk_cell hE5.r 0).trans rfl
              refine start_ (n := 7) (S := fun w' => w'.cell? ⟨gr, 0, none⟩ = some (.func (.func 59) #[] #[.pointer (some ⟨gm, 0, none⟩), .pointer (some ⟨gt, 0, none⟩), .pointer (some ⟨gr, 0, none⟩)])) (ds := []) #[false, false, false, false, false, false, false] (by kernel_rfl) rfl rfl (by rw [hw5]; exact hcr5) (fun hHeld => ?_)
              rw [hw5] at hHeld ⊢
              refine take_ (i := 0) (N := some 21) (v := ?_) (a' := ?_) #[true, false, false, false, false, false, false] rfl rfl (by kernel_rfl) (fun _ _ _ h => h) (Or.inl ⟨by rfl, ?_⟩) hHeld ?_ ?_
              rotate_left
              · rintro w' s0
                go_simp
                with_reducible rfl
              rotate_left
              · simp only [Act.put, List.setIfInBounds_toArray, List.set_cons_zero, List.set_cons_succ, i64_w, i32_w]
                rfl
              refine pure_ (i := 1) (N := some 22) (v := ?_) (a' := ?_) #[true, true, false, false, false, false, false] rfl rfl (by kernel_rfl) (fun _ _ _ h => h) (Or.inl ⟨by rfl, ?_⟩) ?_ ?_
              rotate_left
              · intro w'
                go_simp
                with_reducible rfl
              rotate_left
              · simp only [Act.put, List.setIfInBounds_toArray, List.set_cons_zero, List.set_cons_succ, i64_w, i32_w]
                rfl
              refine pure_ (i := 3) (N := some 24) (v := ?_) (a' := ?_) #[true, true, false, true, false, false, false] rfl rfl (by kernel_rfl) (fun _ _ _ h => h) (Or.inl ⟨by rfl, ?_⟩) ?_ ?_
              rotate_left
              · intro w'
                go_simp
                with_reducible rfl
              rotate_left
              · simp only [Act.put, List.setIfInBounds_toArray, List.set_cons_zero, List.set_cons_succ, i64_w, i32_w]
                rfl
              refine join_ (σ := Value × Value) 2 #[true, true, true, true, true, false, false] (fun s_ => [(23, s_.1), (25, s_.2)]) (fun s_ W => (∃ b1, w.heap.size ≤ b1 ∧ b1 ≤ W.heap.size ∧ Kd.R (Kd.int .i64) 3 W b1 (fun k_ => w.heap.size ≤ k_) s_.1 y) ∧ (∃ b2, Kd.R (Kd.int .i64) 3 W b2 (fun _ => True) s_.2 [xi]) ∧ W.heap[gl]? = some (.cells #[.int .i64 mi] 3 (0, 0)) ∧ KeepBut w W gl none ∧ Below 0 w W) ?_ ?_
              · rintro ⟨v, u⟩ W ⟨⟨b1, hb1, hbW, hv⟩, ⟨b2, hu⟩, hm6, hk6, hz6⟩
                have hyl : y.length + 1 ≤ 17592186044416 := by
                  have h_ := HY.out
                  unfold slices_Clone_int_int.f at h_
                  rw [Option.bind_some] at h_
                  split at h_
                  · rename_i h2_
                    rw [List.nil_append] at h_
                    rw [← Option.some.inj h_]
                    simp only [List.length_nil] at h2_
                    omega
                  · cases h_
                refine norm_ (a' := ?_) ?_ ?_
                rotate_left
                · simp only [putAll, Act.put, List.setIfInBounds_toArray, List.set_cons_zero, List.set_cons_succ, i64_w, i32_w]
                  rfl
                dsimp only at hv hu
                obtain ⟨Av, cv, rfl⟩ := Kd.R_slice hv
                obtain ⟨Au, cu, rfl⟩ := Kd.R_slice hu
                refine one_ (i := 5) (N := some 26) #[true, true, true, true, true, true, false] rfl rfl (by kernel_rfl) (by decide) (fun K hK => ?_)
                refine Kd.R_append_rows_step (Kd.int .i64) (w0 := W) b1 (by rfl) (.tmp 23) (.tmp 25) 25 3 (.int .i64 0) 8 rfl Try.underlying25 info3 rfl (by decide) (by omega) (.slice Av y.length cv) y [xi] _ _ _ (fun k_ => w.heap.size ≤ k_) (fun _ => False) rfl rfl hv (Kd.R_reads' hu).2.2 (fun _ _ h => h) (fun _ h => h.elim) (fun k hk => Nat.le_trans hk6.1 hk) (Below.refl _ _) hbW ?aL ?_
                case aL => simp only [List.length_cons, List.length_nil]; omega
                intro v7 w7 hv7 hbel hg7 hat7
                have hgl := HGL.out
                have hown : ∀ k, (Value.slice Av y.length cv).ownBlock = some k → w.heap.size ≤ k := fun k hk => Nat.le_trans hb1 (Kd.R_base hv k hk)
                have hm7 : w7.heap[gl]? = some (.cells #[.int .i64 mi] 3 (0, 0)) := (hg7.block gl (blk_lt hm6) (fun e => by have := hown gl e.symm; omega)).trans hm6
                have hk7 : KeepBut w w7 gl none := hk6.trans (KeepBut.of_grown hg7 gl) (by
                  cases e : (Value.slice Av y.length cv).ownBlock with
                  | none => exact .inl rfl
                  | some b => exact .inr ⟨b, rfl, hown b e⟩)
                have hE7 := HE.out.keep hk7
                have hz7 : Below 0 w w7 := hz6.trans (hbel.mono (Nat.zero_le _))
                refine hK _ _ ((blk_cell hE7.r 0).trans rfl) (fun hHeld => ?_)
                clear hK K
                refine norm_ (a' := ?_) ?_ ?_
                rotate_left
                · show Act.put _ (some 26) _ = _
                  simp only [putAll, Act.put, List.setIfInBounds_toArray, List.set_cons_zero, List.set_cons_succ, i64_w, i32_w]
                  rfl
                obtain ⟨Ar, cr, rfl⟩ := Kd.R_slice hv7
                refine one_ (i := 6) (N := some 27) #[true, true, true, true, true, true, true] rfl rfl (by kernel_rfl) (by decide) (fun K hK => ?_)
                refine goesVS_ Try.func59 (by kernel_rfl) rfl #[.pointer (some ⟨gm, 0, none⟩), .pointer (some ⟨gt, 0, none⟩), .pointer (some ⟨gr, 0, none⟩)] #[.slice Ar (y ++ [xi]).length cr, .pointer (some ⟨gm, 0, none⟩), .pointer (some ⟨gt, 0, none⟩), .pointer (some ⟨gr, 0, none⟩)] (by rfl) rfl rfl (by rfl) (by (try simp only [List.map_toArray, List.map_cons, List.map_nil]); first | done | rfl | simp [Act.eval]) ?_
                refine (ih Ar cr (y ++ [xi]) mi m' w7 hE7 hm7 (fun W' hk => (Kd.R_reads' (Kd.R_keep hv7 hk (fun k hk2 => by omega))).2.2) (Kd.R_reads' hv7).2.1 HG.out).mono ?_
                rintro e w8 ⟨rfl, hm8, hk8, hz8⟩
                refine ⟨_, rfl, ?_⟩
                have hk9 := hk7.trans hk8 (.inl rfl)
                refine hK _ _ ((blk_cell (HE.out.keep hk9).r 0).trans rfl) (fun hHeld => ?_)
                clear hK K
                refine norm_ (a' := ?_) ?_ ?_
                rotate_left
                · show Act.put _ (some 27) _ = _
                  simp only [putAll, Act.put, List.setIfInBounds_toArray, List.set_cons_zero, List.set_cons_succ, i64_w, i32_w]
                  rfl
                refine done_ (by rfl) ?_
                go_wp2
                go_roundg q
                case measure => have := HK1.out; omega
                case rel => exact ⟨i + 1, wrap64 (xi + 1), m', (by first | rfl | (simp; done) | (simp [*]; done)), ⟨by have h1 := HX.out; have h2 := HC.out; rw [h1]; unfold wrap64; omega⟩, H', ⟨by have := HK1.out; omega⟩, ⟨hm8⟩, ⟨hk9⟩, ⟨hz7.trans hz8⟩⟩
              · intro hCont
                refine two_ (i := 2) (j := 4) (Ni := some 23) (Nj := some 25) #[true, true, true, true, false, false, false] #[true, true, false, true, true, false, false] rfl rfl rfl rfl (by kernel_rfl) (by decide) (by decide) (fun K hK => ?_) (fun K hK => ?_)
                · refine goes_ Try.func60 (by kernel_rfl) rfl #[.slice A0 o.length c0] (by rfl) rfl rfl (by (try simp only [List.map_toArray, List.map_cons, List.map_nil]); first | done | rfl | simp [Act.eval]) ?_
                  refine (slices_Clone_int_int.calls A0 c0 o y w5 (HR.out _ hk5) hc0 HY.out).mono ?_
                  rintro e w6 ⟨v, rfl, hv, hb⟩
                  refine ⟨_, rfl, ?_⟩
                  have hk6 : KeepBut w w6 gl none := hk5.trans (KeepBut.of_below hb gl none) (.inl rfl)
                  have hm6 : w6.heap[gl]? = some (.cells #[.int .i64 mi] 3 (0, 0)) := (hb.block _ (blk_lt hm5)).trans hm5
                  refine hK _ _ ((blk_cell (HE.out.keep hk6).r 0).trans rfl) (fun hHeld => ?_)
                  clear hK K
                  refine norm_ (a' := ?_) ?_ ?_
                  rotate_left
                  · show Act.put _ (some 23) _ = _
                    simp only [putAll, Act.put, List.setIfInBounds_toArray, List.set_cons_zero, List.set_cons_succ, i64_w, i32_w]
                    rfl
                  refine one_ (i := 4) (N := some 25) #[true, true, true, true, true, false, false] rfl rfl (by kernel_rfl) (by decide) (fun K hK => ?_)
                  refine Kd.R_lit_step (Kd.int .i64) (w0 := w6) w6.heap.size 3 ?hg (N := 25) ?hd (xs := [xi]) (inner := [.int .i64 xi]) (ok := fun _ => True) (okp := fun _ => True) ?hr ?hp (fun _ hk => hk) trivial (Below.refl _ _) (Nat.le_refl _) (by simp) ?_
                  case hd => rfl
                  case hg => rfl
                  case hr => first | (go_simp; done) | (go_simp; rfl)
                  case hp => exact Reps.one (show Kd.M (Kd.int .i64) _ _ _ xi [.int .i64 xi] from rfl) (Reps.none _ _)
                  intro u w7 hu hb7 hg7 _
                  have hk7 : KeepBut w w7 gl none := hk6.trans (KeepBut.of_below hb7 gl none) (.inl rfl)
                  have hm7 : w7.heap[gl]? = some (.cells #[.int .i64 mi] 3 (0, 0)) := (hb7.block _ (blk_lt hm6)).trans hm6
                  have hv7 := Kd.R_below hv hb7
                  refine hK _ _ ((blk_cell (HE.out.keep hk7).r 0).trans rfl) (fun hHeld => ?_)
                  clear hK K
                  exact norm_ (by show Act.put _ (some 25) _ = _; simp only [putAll, Act.put, List.setIfInBounds_toArray, List.set_cons_zero, List.set_cons_succ, i64_w, i32_w]) (hCont (v, u) _ ⟨⟨w5.heap.size, hk5.1, Nat.le_trans hb.size hb7.size, Kd.R_of_own (Kd.own_of_R hv7) (fun k hk => Nat.le_trans hk5.1 (Kd.R_base hv7 k hk))⟩, ⟨_, hu⟩, hm7, hk7, (hz5.trans (hb.mono (Nat.zero_le _))).trans (hb7.mono (Nat.zero_le _))⟩)
                · refine Kd.R_lit_step (Kd.int .i64) (w0 := w5) w5.heap.size 3 ?hg (N := 25) ?hd (xs := [xi]) (inner := [.int .i64 xi]) (ok := fun _ => True) (okp := fun _ => True) ?hr ?hp (fun _ hk => hk) trivial (Below.refl _ _) (Nat.le_refl _) (by simp) ?_
                  case hd => rfl
                  case hg => rfl
                  case hr => first | (go_simp; done) | (go_simp; rfl)
                  case hp => exact Reps.one (show Kd.M (Kd.int .i64) _ _ _ xi [.int .i64 xi] from rfl) (Reps.none _ _)
                  intro u w6 hu hb6 hg6 _
                  have hk6 : KeepBut w w6 gl none := hk5.trans (KeepBut.of_below hb6 gl none) (.inl rfl)
                  have hm6 : w6.heap[gl]? = some (.cells #[.int .i64 mi] 3 (0, 0)) := (hb6.block _ (blk_lt hm5)).trans hm5
                  refine hK _ _ ((blk_cell (HE.out.keep hk6).r 0).trans rfl) (fun hHeld => ?_)
                  clear hK K
                  refine norm_ (a' := ?_) ?_ ?_
                  rotate_left
                  · show Act.put _ (some 25) _ = _
                    simp only [putAll, Act.put, List.setIfInBounds_toArray, List.set_cons_zero, List.set_cons_succ, i64_w, i32_w]
                    rfl
                  refine one_ (i := 2) (N := some 23) #[true, true, true, true, true, false, false] rfl rfl (by kernel_rfl) (by decide) (fun K hK => ?_)
                  refine goes_ Try.func60 (by kernel_rfl) rfl #[.slice A0 o.length c0] (by rfl) rfl rfl (by (try simp only [List.map_toArray, List.map_cons, List.map_nil]); first | done | rfl | simp [Act.eval]) ?_
                  refine (slices_Clone_int_int.calls A0 c0 o y w6 (HR.out _ hk6) hc0 HY.out).mono ?_
                  rintro e w7 ⟨v, rfl, hv, hb⟩
                  refine ⟨_, rfl, ?_⟩
                  have hk7 : KeepBut w w7 gl none := hk6.trans (KeepBut.of_below hb gl none) (.inl rfl)
                  have hm7 : w7.heap[gl]? = some (.cells #[.int .i64 mi] 3 (0, 0)) := (hb.block _ (blk_lt hm6)).trans hm6
                  have hu7 := Kd.R_below hu hb
                  refine hK _ _ ((blk_cell (HE.out.keep hk7).r 0).trans rfl) (fun hHeld => ?_)
                  clear hK K
                  exact norm_ (by simp only [putAll, Act.put, List.setIfInBounds_toArray, List.set_cons_zero, List.set_cons_succ, i64_w, i32_w]) (hCont (v, u) _ ⟨⟨w6.heap.size, hk6.1, hb.size, Kd.R_of_own (Kd.own_of_R hv) (fun k hk => Nat.le_trans hk6.1 (Kd.R_base hv k hk))⟩, ⟨_, hu7⟩, hm7, hk7, (hz5.trans (hb6.mono (Nat.zero_le _))).trans (hb.mono (Nat.zero_le _))⟩)
          · rw [if_neg c] at H
            obtain rfl := Option.some.inj H
            have hx_ := HX.out
            have c3 : decide (xi < (l.length : Int)) = false := decide_eq_false (by omega)
            clear hx_
            clear c H
            go_wp2
            first | go_end0 | ((try simp only [Exit.inBlock, Exit.then]); refine bodyPost_ret (results_none rfl _ _ _) rfl ?_)
            exact ⟨rfl, HM.out, HK.out, HZ.out⟩
theorem below_keep {w W W' : World} {g : Nat} (hb : Below w.heap.size w W) (hk : KeepBut W W' g none) (hg : w.heap.size ≤ g) (hz : Below 0 W W') : Below w.heap.size w W' :=
  ⟨hz.os.trans hb.os, hz.tape.trans hb.tape, hz.output.trans hb.output, Nat.le_trans hb.size hk.1, fun i hi => (hk.2 i (Nat.lt_of_lt_of_le hi hb.size) (by omega) (by simp)).trans (hb.block i hi)⟩
theorem impl_LeastWay_orders.calls (k : Nat) (A1 : Option Addr) (c1 : Nat) (l : List S31) (hc1 : l.length ≤ c1) (hlen : l.length ≤ 1000) (gl gs : Nat) (hne : gs ≠ gl) (d : Nat) (m r : Int) (w : World)
    (hs : w.heap[gs]? = some (.cells #[.slice A1 l.length c1] 23 (0, 0))) (hm : w.heap[gl]? = some (.cells #[.int .i64 m] 3 (0, 0))) (hc : ∀ W', KeepBut w W' gl none → Kd.C k31 W' A1 l.length l)
    (h : impl_LeastWay.go k l d [] m = some r) :
    Calls Try.prog 48 #[.int .i64 l.length, .func (.func 49) #[] #[.pointer (some ⟨gl, 0, none⟩), .pointer (some ⟨gs, 0, none⟩)]] w fun e w' => e = .returned (.tuple #[]) ∧ w'.heap[gl]? = some (.cells #[.int .i64 r] 3 (0, 0)) ∧ KeepBut w w' gl none ∧ Below 0 w w' := by
  have HS := Aside0.mk hs
  have HM := Aside0.mk hm
  have HC := Aside0.mk hc
  have HH := Aside0.mk h
  have HGL := Aside0.mk (show gl < w.heap.size from blk_lt hm)
  clear hs hm hc h
  go_enter Try.func48, Try.ntmps48
  go_wp2_with (first
    | ((with_reducible refine gate_dst (N := 2) rfl ?_); refine box_event ?hg (N := 2) ?hd (cs := #[.int .i64 l.length]) (t := 3) ?hr ?_; (case hd => rfl); (case hg => rfl); (case hr => first | (go_simp; done) | (go_simp; rfl)); intro g1 hg w1 hbox hb; have B1 := Aside0.mk hbox; have HB1 := Aside0.mk hb; have G1 := Aside0.mk hg; clear hbox hb hg)
    | ((with_reducible refine gate_dst (N := 3) rfl ?_); refine box_event ?hg (N := 3) ?hd (cs := #[.func (.func 49) #[] #[.pointer (some ⟨gl, 0, none⟩), .pointer (some ⟨gs, 0, none⟩)]]) (t := 62) ?hr ?_; (case hd => rfl); (case hg => rfl); (case hr => first | (go_simp; done) | (go_simp; rfl)); intro g2 hg w2 hbox hb; have B2 := Aside0.mk hbox; have HB2 := Aside0.mk hb; have G2 := Aside0.mk hg; clear hbox hb hg)
    | ((with_reducible refine gate_dst (N := 4) rfl ?_); refine box_event ?hg (N := 4) ?hd (cs := #[.nilFunc]) (t := 62) ?hr ?_; (case hd => rfl); (case hg => rfl); (case hr => first | (go_simp; done) | (go_simp; rfl)); intro g3 hg w3 hbox hb; have B3 := Aside0.mk hbox; have HB3 := Aside0.mk hb; have G3 := Aside0.mk hg; clear hbox hb hg; have hc3 : w3.cell? ⟨g3, 0, none⟩ = some .nilFunc := (blk_cell B3.out 0).trans rfl; have hf3 := blk_frozen B3.out 0)
    | ((with_reducible refine gate_store (t := 62) (p := 4) rfl ?_); refine store_event (t := 62) (p := 4) (v := ?vo) (w1 := w3.setCell ⟨g3, 0, none⟩ (.func (.func 59) #[] #[.pointer (some ⟨g1, 0, none⟩), .pointer (some ⟨g2, 0, none⟩), .pointer (some ⟨g3, 0, none⟩)])) ?hg ?ho ?hn ?hr ?_; (case ho => rfl); (case hg => rfl); (case hn => rfl); (case hr => first | (go_simp; done) | (go_simp; rfl)); intro w4 hw; have B4 := Aside0.mk (show w4.heap[g3]? = some (.cells #[.func (.func 59) #[] #[.pointer (some ⟨g1, 0, none⟩), .pointer (some ⟨g2, 0, none⟩), .pointer (some ⟨g3, 0, none⟩)]] 62 (0, 0)) by rw [hw]; exact blk_put (cs := #[.nilFunc]) B3.out 0 _ rfl); have HW4 := Aside0.mk hw; clear hw hc3 hf3; have hc4 : w4.cell? ⟨g3, 0, none⟩ = some (.func (.func 59) #[] #[.pointer (some ⟨g1, 0, none⟩), .pointer (some ⟨g2, 0, none⟩), .pointer (some ⟨g3, 0, none⟩)]) := (blk_cell B4.out 0).trans rfl; have hf4 := blk_frozen B4.out 0))
  have hgl := HGL.out
  have hb3 : Below w.heap.size w w3 := below_step (below_step HB1.out HB2.out) HB3.out
  have hl1 := blk_lt B1.out
  have hl2 := blk_lt B2.out
  have e1 := G1.out
  have e2 := G2.out
  have e3 := G3.out
  have hk3 : KeepBut w w3 gl none := KeepBut.of_below hb3 gl none
  have hk4 : KeepBut w w4 gl none := by rw [HW4.out]; exact keep_far hk3 (p := ⟨g3, 0, none⟩) (by show w.heap.size ≤ g3; omega) _
  have hz4 : Below 0 w w4 := by rw [HW4.out]; exact below0_set (hb3.mono (Nat.zero_le _)) _ _
  have b1 : w4.heap[g1]? = some (.cells #[.int .i64 l.length] 3 (0, 0)) := by
    rw [HW4.out, heap_setCell_other _ _ _ _ (show g1 ≠ g3 by omega)]
    exact (HB3.out.block _ (by omega)).trans ((HB2.out.block _ hl1).trans B1.out)
  have b2 : w4.heap[g2]? = some (.cells #[.func (.func 49) #[] #[.pointer (some ⟨gl, 0, none⟩), .pointer (some ⟨gs, 0, none⟩)]] 62 (0, 0)) := by
    rw [HW4.out, heap_setCell_other _ _ _ _ (show g2 ≠ g3 by omega)]
    exact (HB3.out.block _ hl2).trans B2.out
  have hm4 : w4.heap[gl]? = some (.cells #[.int .i64 m] 3 (0, 0)) := by
    rw [HW4.out, heap_setCell_other _ _ _ _ (show gl ≠ g3 by omega)]
    exact (hb3.block _ hgl).trans HM.out
  have hE : LWEnv l A1 c1 gl gs g1 g2 g3 w4 := ⟨hk4.blk HS.out hne (by simp), b1, b2, B4.out, fun W' h2 => HC.out W' (hk4.trans h2 (.inl rfl)), hne, by omega, by omega, by omega⟩
  refine (impl_LeastWay_try.calls k A1 c1 l hc1 hlen gl gs g1 g2 g3 d none 0 [] m r w4 hE hm4 (fun _ _ => Kd.C_nil _ _) (Nat.le_refl _) HH.out).mono ?_
  rintro e w5 ⟨rfl, hm5, hk5, hz5⟩
  go_wp2
  first | go_end0 | ((try simp only [Exit.inBlock, Exit.then]); refine bodyPost_ret (results_none rfl _ _ _) rfl ?_)
  exact ⟨rfl, hm5, hk4.trans hk5 (.inl rfl), hz4.trans hz5⟩
def impl_LeastWay.f (l0 : List S31) : Option Int := (impl_BothOk.f (l0.length * 100 + 1000) l0).bind fun b => if b = true then (if l0.length ≤ 1000 then ((impl_longestWay.f (l0.length * 100 + 1000) l0).bind fun m => impl_LeastWay.go (l0.length * 100 + 1000) l0 (l0.length + 2) [] m) else none) else some (-1)
theorem impl_LeastWay.calls (A0 : Option Addr) (c0 : Nat) (l0 : List S31) (r : Int) (w : World) (hr0 : Kd.C k31 w A0 l0.length l0) (hc0 : l0.length ≤ c0) (h : impl_LeastWay.f l0 = some r) :
    Calls Try.prog 28 #[.slice A0 l0.length c0] w fun e w' => e = .returned (.int .i64 r) ∧ Below w.heap.size w w' := by
  unfold impl_LeastWay.f at h
  generalize l0.length * 100 + 1000 = k at h
  obtain ⟨b, hb, h⟩ := Option.bind_eq_some_iff.mp h
  have HR := Aside0.mk hr0
  have HC := Aside0.mk hc0
  have HOK := Aside0.mk hb
  clear hr0 hc0 hb
  cases b with
  | false =>
    obtain rfl := Option.some.inj (show some (-1) = some r from h)
    clear h
    go_enter Try.func28, Try.ntmps28
    go_wp2_with (first
      | ((with_reducible refine gate_dst (N := 1) rfl ?_); refine box_event ?hg (N := 1) ?hd (cs := #[.slice A0 l0.length c0]) (t := 23) ?hr ?_; (case hd => rfl); (case hg => rfl); (case hr => first | (go_simp; done) | (go_simp; rfl)); intro g1 hg w1 hbox hb; have B1 := Aside0.mk hbox; have HB1 := Aside0.mk hb; have G1 := Aside0.mk hg; clear hbox hb hg; have hc1 : w1.cell? ⟨g1, 0, none⟩ = some (.slice A0 l0.length c0) := (blk_cell B1.out 0).trans rfl; have hf1 := blk_frozen B1.out 0))
    refine (impl_BothOk.calls k A0 c0 l0 false w1 (Kd.C_below HR.out HB1.out) HC.out HOK.out).mono ?_
    rintro e w2 ⟨rfl, hb2⟩
    go_wp2
    go_ret
    exact ⟨rfl, below_step HB1.out hb2⟩
  | true =>
    replace h : (if l0.length ≤ 1000 then ((impl_longestWay.f k l0).bind fun m => impl_LeastWay.go k l0 (l0.length + 2) [] m) else none) = some r := h
    by_cases hlen : l0.length ≤ 1000
    · rw [if_pos hlen] at h
      obtain ⟨m, hm, h⟩ := Option.bind_eq_some_iff.mp h
      have HLW := Aside0.mk hm
      have HGO := Aside0.mk h
      have HLEN := Aside0.mk hlen
      clear hm h hlen
      go_enter Try.func28, Try.ntmps28
      go_wp2_with (first
        | ((with_reducible refine gate_dst (N := 1) rfl ?_); refine box_event ?hg (N := 1) ?hd (cs := #[.slice A0 l0.length c0]) (t := 23) ?hr ?_; (case hd => rfl); (case hg => rfl); (case hr => first | (go_simp; done) | (go_simp; rfl)); intro g1 hg w1 hbox hb; have B1 := Aside0.mk hbox; have HB1 := Aside0.mk hb; have G1 := Aside0.mk hg; clear hbox hb hg; have hc1 : w1.cell? ⟨g1, 0, none⟩ = some (.slice A0 l0.length c0) := (blk_cell B1.out 0).trans rfl; have hf1 := blk_frozen B1.out 0))
      refine (impl_BothOk.calls k A0 c0 l0 true w1 (Kd.C_below HR.out HB1.out) HC.out HOK.out).mono ?_
      rintro e w2 ⟨rfl, hb2⟩
      clear hc1 hf1
      have HB2 := Aside0.mk (below_step HB1.out hb2)
      have B2 := Aside0.mk ((hb2.block _ (blk_lt B1.out)).trans B1.out)
      clear hb2
      have hc2 : w2.cell? ⟨g1, 0, none⟩ = some (.slice A0 l0.length c0) := (blk_cell B2.out 0).trans rfl
      have hf2 := blk_frozen B2.out 0
      go_wp2_with (fail)
      refine (impl_longestWay.calls k A0 c0 l0 m w2 (Kd.C_below HR.out HB2.out) HC.out HLW.out).mono ?_
      rintro e w3 ⟨rfl, hb3⟩
      clear hc2 hf2
      have HB3 := Aside0.mk (below_step HB2.out hb3)
      have B3 := Aside0.mk ((hb3.block _ (blk_lt B2.out)).trans B2.out)
      clear hb3
      have hc3 : w3.cell? ⟨g1, 0, none⟩ = some (.slice A0 l0.length c0) := (blk_cell B3.out 0).trans rfl
      have hf3 := blk_frozen B3.out 0
      go_wp2_with (first
        | ((with_reducible refine gate_dst (N := 3) rfl ?_); refine box_event ?hg (N := 3) ?hd (cs := #[.int .i64 0]) (t := 3) ?hr ?_; (case hd => rfl); (case hg => rfl); (case hr => first | (go_simp; done) | (go_simp; rfl)); intro g2 hg w4 hbox hb; clear hc3 hf3; have B4 := Aside0.mk ((hb.block _ (blk_lt B3.out)).trans B3.out); have C4 := Aside0.mk hbox; have HB4 := Aside0.mk (below_step HB3.out hb); have G2 := Aside0.mk hg; have NE := Aside0.mk (show g1 ≠ g2 by rw [hg]; exact Nat.ne_of_lt (blk_lt B3.out)); have GW := Aside0.mk (show w.heap.size ≤ g2 by rw [hg]; exact HB3.out.size); clear hbox hb hg; have hc4 : w4.cell? ⟨g2, 0, none⟩ = some (.int .i64 0) := (blk_cell C4.out 0).trans rfl; have hf4 := blk_frozen C4.out 0)
        | ((with_reducible refine gate_store (t := 3) (p := 3) rfl ?_); refine store_event (t := 3) (p := 3) (v := ?vo) (w1 := w4.setCell ⟨g2, 0, none⟩ (.int .i64 m)) ?hg ?ho ?hn ?hr ?_; (case ho => rfl); (case hg => rfl); (case hn => rfl); (case hr => first | (go_simp; done) | (go_simp; rfl)); intro w5 hw; have C5 := Aside0.mk (show w5.heap[g2]? = some (.cells #[.int .i64 m] 3 (0, 0)) by rw [hw]; exact blk_put (cs := #[.int .i64 0]) C4.out 0 _ rfl); have B5 := Aside0.mk (show w5.heap[g1]? = some (.cells #[.slice A0 l0.length c0] 23 (0, 0)) by rw [hw, heap_setCell_other _ _ _ _ NE.out]; exact B4.out); have HB5 := Aside0.mk (show Below w.heap.size w w5 by rw [hw]; exact below_set HB4.out GW.out); clear hw hc4 hf4; have hc5 : w5.cell? ⟨g1, 0, none⟩ = some (.slice A0 l0.length c0) := (blk_cell B5.out 0).trans rfl; have hf5 := blk_frozen B5.out 0))
      refine (impl_LeastWay_orders.calls k A0 c0 l0 HC.out HLEN.out g2 g1 NE.out (l0.length + 2) m r w5 B5.out C5.out (fun W' hk => ?C) HGO.out).mono ?_
      case C =>
        have hb : Below w.heap.size w { W' with os := w.os, tape := w.tape, output := w.output } := ⟨rfl, rfl, rfl, Nat.le_trans HB5.out.size hk.1, fun i hi => (hk.2 i (Nat.lt_of_lt_of_le hi HB5.out.size) (by have := GW.out; omega) (by simp)).trans (HB5.out.block i hi)⟩
        have h3 : Kd.C k31 ({ W' with os := w.os, tape := w.tape, output := w.output } : World) A0 l0.length l0 := Kd.C_below HR.out hb
        exact h3
      rintro e w6 ⟨rfl, hm6, hk6, hz6⟩
      have hc6 : w6.cell? ⟨g2, 0, none⟩ = some (.int .i64 r) := (blk_cell hm6 0).trans rfl
      have hf6 := blk_frozen hm6 0
      go_wp2
      go_ret
      exact ⟨rfl, below_keep HB5.out hk6 GW.out hz6⟩
    · rw [if_neg hlen] at h; cases h

/-! ### spec_l1In: function 57 -/
def spec_l1In.f (a0 : Int) (a1 : Int) (a2 : Int) : Option (Bool) := if a0 ≥ a1 then (some (decide (a0 ≤ a2))) else (some false)
set_option maxHeartbeats 8000000 in
set_option maxRecDepth 100000 in
theorem spec_l1In.calls (a0 : Int) (a1 : Int) (a2 : Int) (r : Bool) (w : World) (h : spec_l1In.f a0 a1 a2 = some r) :
    Calls Try.prog 57 #[.int .i64 a0, .int .i64 a1, .int .i64 a2] w fun e w' => e = .returned (.bool r) ∧ Drawn0 w w' := by
  have H : (if a0 ≥ a1 then (some (decide (a0 ≤ a2))) else (some false)) = some r := h
  clear h
  by_cases c4 : a0 ≥ a1
  · rw [if_pos c4] at H
    have c4b0 : decide (a1 ≤ a0) = true := decide_eq_true c4
    clear c4
    obtain rfl := Option.some.inj H
    go_enter Try.func57, Try.ntmps57
    go_wp2
    go_ret
    exact ⟨by first | rfl | (simp; done) | (simp [*]; done), by repeat (first | exact Drawn0.refl _ | apply Drawn0.step)⟩
  · rw [if_neg c4] at H
    have c4b0 : decide (a1 ≤ a0) = false := decide_eq_false c4
    clear c4
    obtain rfl := Option.some.inj H
    go_enter Try.func57, Try.ntmps57
    go_wp2
    go_ret
    exact ⟨by first | rfl | (simp; done) | (simp [*]; done), by repeat (first | exact Drawn0.refl _ | apply Drawn0.step)⟩

/-! ### spec_BothOk: function 40 -/
def spec_BothOk.l0 : Nat → List (S31) → Int → Option (Bool)
  | 0, _, _ => none
  | k + 1, x0, x3 => if x3 < (x0.length : Int) then (if 0 ≤ x3 then ((spec_l1In.f ((rd_T31 x0 x3).f0) 1 9).bind fun t152 => (if t152 = true then ((spec_l1In.f ((rd_T31 x0 x3).f1) 1 9).bind fun t154 => (if t154 = true then (spec_BothOk.l0 k x0 (wrap64 (x3 + 1))) else (some false))) else (some false))) else (none)) else ((spec_l1In.f (x0.length : Int) 1 6).bind fun t150 => (some t150))
def spec_BothOk.f (k : Nat) (l0 : List (S31)) : Option (Bool) := spec_BothOk.l0 k l0 0
theorem spec_BothOk.mono_l : ∀ k, (∀ y0 y1, LeO (spec_BothOk.l0 k y0 y1) (spec_BothOk.l0 (k + 1) y0 y1))
  | 0 => fun _ _ r h => by simp [spec_BothOk.l0] at h
  | k + 1 => by
    have ih0 := spec_BothOk.mono_l k
    · intro y0 y1
      unfold spec_BothOk.l0
      repeat' first
      | (with_reducible exact ih0 _ _)
      | (with_reducible exact LeO.refl _)
      | (with_reducible exact LeO.none _)
      | (with_reducible refine LeO.ite ?_ ?_)
      | (with_reducible refine LeO.bind ?_ (fun _ => ?_))
      | exact ih0 _ _
      | exact LeO.none _
      | refine LeO.ite ?_ ?_
      | refine LeO.bind ?_ (fun _ => ?_)
theorem spec_BothOk.mono : ∀ a0 k, LeO (spec_BothOk.f k a0) (spec_BothOk.f (k + 1) a0) := by
  intro a0 k
  have ih0 := spec_BothOk.mono_l k
  unfold spec_BothOk.f
  repeat' first
      | (with_reducible exact ih0 _ _)
      | (with_reducible exact LeO.refl _)
      | (with_reducible exact LeO.none _)
      | (with_reducible refine LeO.ite ?_ ?_)
      | (with_reducible refine LeO.bind ?_ (fun _ => ?_))
      | exact ih0 _ _
      | exact LeO.none _
      | refine LeO.ite ?_ ?_
      | refine LeO.bind ?_ (fun _ => ?_)
set_option maxHeartbeats 8000000 in
set_option maxRecDepth 100000 in
theorem spec_BothOk.calls (k : Nat) (A0 : Option Addr) (c0 : Nat) (l0 : List (S31)) (r : Bool) (w : World) (hr0 : Kd.C k31 w A0 l0.length l0) (hc0 : l0.length ≤ c0) (h : spec_BothOk.f k l0 = some r) :
    Calls Try.prog 40 #[.slice A0 l0.length c0] w fun e w' => e = .returned (.bool r) ∧ Drawn0 w w' := by
  have HR0 := Aside0.mk hr0
  have HC0 := Aside0.mk hc0
  clear hr0 hc0
  have H : (spec_BothOk.l0 k l0 0) = some r := h
  clear h
  have H' := Aside0.mk H
  clear H
  go_enter Try.func40, Try.ntmps40
  go_wp2
  go_loopg [3] k (fun kq v3 w' => ∃ (x3_1 : Int), v3 = .int .i64 x3_1 ∧ Aside0 (spec_BothOk.l0 kq l0 x3_1 = some r) ∧ Aside0 (kq ≤ k) ∧ Drawn0 w w')
  case atStart => exact ⟨(0), (by first | rfl | (simp; done) | (simp [*]; done)), H', ⟨Nat.le_refl _⟩, by repeat (first | exact Drawn0.refl _ | apply Drawn0.step)⟩
  case round =>
    clear H'
    obtain ⟨x3_1, rfl, HA, HK1, ⟨m1, rfl⟩⟩ := hrel
    cases gk with
    | zero => exact absurd HA.out (by simp [spec_BothOk.l0])
    | succ k1 =>
      have H := HA.out
      clear HA
      simp only [spec_BothOk.l0] at H
      by_cases c2 : x3_1 < (l0.length : Int)
      · rw [if_pos c2] at H
        have c2b0 : decide (x3_1 < (l0.length : Int)) = true := decide_eq_true c2
        clear c2
        by_cases c3 : 0 ≤ x3_1
        · rw [if_pos c3] at H
          have c3b0 : decide (0 ≤ x3_1) = true := decide_eq_true c3
          clear c3
          replace H := Option.bind_eq_some_iff.mp H
          obtain ⟨t152, A40, H⟩ := H
          replace H : (if t152 = true then ((spec_l1In.f ((rd_T31 l0 x3_1).f1) 1 9).bind fun t154 => (if t154 = true then (spec_BothOk.l0 k1 l0 (wrap64 (x3_1 + 1))) else (some false))) else (some false)) = some r := H
          have A4 := Aside0.mk A40
          clear A40
          by_cases c5 : t152 = true
          · subst c5
            have H1 : ((spec_l1In.f ((rd_T31 l0 x3_1).f1) 1 9).bind fun t154 => (if t154 = true then (spec_BothOk.l0 k1 l0 (wrap64 (x3_1 + 1))) else (some false))) = some r := by rw [if_pos rfl] at H; exact H
            clear H
            have H := H1
            clear H1
            replace H := Option.bind_eq_some_iff.mp H
            obtain ⟨t154, A60, H⟩ := H
            replace H : (if t154 = true then (spec_BothOk.l0 k1 l0 (wrap64 (x3_1 + 1))) else (some false)) = some r := H
            have A6 := Aside0.mk A60
            clear A60
            by_cases c7 : t154 = true
            · subst c7
              have H1 : (spec_BothOk.l0 k1 l0 (wrap64 (x3_1 + 1))) = some r := by rw [if_pos rfl] at H; exact H
              clear H
              have H := H1
              clear H1
              have H' := Aside0.mk H
              clear H
              have p151 : 0 ≤ (x3_1 : Int) := of_decide_eq_true (by first | (with_reducible assumption) | assumption)
              have q151 : x3_1 < (l0.length : Int) := of_decide_eq_true (by first | (with_reducible assumption) | assumption)
              obtain ⟨ad151, e151, hx151_0, hx151_1⟩ := at_T31 HR0.out x3_1 p151 q151
              cases e151
              replace p151 := eq_true p151
              replace q151 := eq_true q151
              go_wp2_with (first | ((with_reducible refine gate_callee (f := 57) rfl ?_); refine goesL_ (some 15) rfl rfl Try.func57 (by kernel_rfl) rfl #[.int .i64 ((rd_T31 l0 x3_1).f0), .int .i64 1, .int .i64 9] rfl (by (try simp only [List.map_toArray, List.map_cons, List.map_nil]); first | done | rfl | (simp only [List.length_drop, List.length_take]; rfl)) ?_; (with_reducible refine (spec_l1In.calls ((rd_T31 l0 x3_1).f0) 1 9 true _ A4.out).mono ?_); rintro e w' ⟨rfl, ⟨nd, rfl⟩⟩; refine ⟨_, rfl, ?_⟩; have p153 : 0 ≤ (x3_1 : Int) := of_decide_eq_true (by first | (with_reducible assumption) | assumption); have q153 : x3_1 < (l0.length : Int) := of_decide_eq_true (by first | (with_reducible assumption) | assumption); obtain ⟨ad153, e153, hx153_0, hx153_1⟩ := at_T31 HR0.out x3_1 p153 q153; obtain rfl : ad151 = ad153 := (by injection e153); replace p153 := eq_true p153; replace q153 := eq_true q153) | (go_at_call 57; (with_reducible refine (spec_l1In.calls ((rd_T31 l0 x3_1).f1) 1 9 true _ A6.out).mono ?_); rintro e w' ⟨rfl, ⟨nd, rfl⟩⟩))
              go_roundg k1
              case measure => have := HK1.out; omega
              case rel => exact ⟨(wrap64 (x3_1 + 1)), (by first | rfl | (simp; done) | (simp [*]; done)), H', ⟨by have := HK1.out; omega⟩, by repeat (first | exact Drawn0.refl _ | apply Drawn0.step)⟩
            · replace c7 := Bool.eq_false_iff.mpr c7
              subst c7
              have H1 : (some false) = some r := by rw [if_neg (show ¬ (false = true) by decide)] at H; exact H
              clear H
              have H := H1
              clear H1
              obtain rfl := Option.some.inj H
              have p151 : 0 ≤ (x3_1 : Int) := of_decide_eq_true (by first | (with_reducible assumption) | assumption)
              have q151 : x3_1 < (l0.length : Int) := of_decide_eq_true (by first | (with_reducible assumption) | assumption)
              obtain ⟨ad151, e151, hx151_0, hx151_1⟩ := at_T31 HR0.out x3_1 p151 q151
              cases e151
              replace p151 := eq_true p151
              replace q151 := eq_true q151
              go_wp2_with (first | ((with_reducible refine gate_callee (f := 57) rfl ?_); refine goesL_ (some 15) rfl rfl Try.func57 (by kernel_rfl) rfl #[.int .i64 ((rd_T31 l0 x3_1).f0), .int .i64 1, .int .i64 9] rfl (by (try simp only [List.map_toArray, List.map_cons, List.map_nil]); first | done | rfl | (simp only [List.length_drop, List.length_take]; rfl)) ?_; (with_reducible refine (spec_l1In.calls ((rd_T31 l0 x3_1).f0) 1 9 true _ A4.out).mono ?_); rintro e w' ⟨rfl, ⟨nd, rfl⟩⟩; refine ⟨_, rfl, ?_⟩; have p153 : 0 ≤ (x3_1 : Int) := of_decide_eq_true (by first | (with_reducible assumption) | assumption); have q153 : x3_1 < (l0.length : Int) := of_decide_eq_true (by first | (with_reducible assumption) | assumption); obtain ⟨ad153, e153, hx153_0, hx153_1⟩ := at_T31 HR0.out x3_1 p153 q153; obtain rfl : ad151 = ad153 := (by injection e153); replace p153 := eq_true p153; replace q153 := eq_true q153) | (go_at_call 57; (with_reducible refine (spec_l1In.calls ((rd_T31 l0 x3_1).f1) 1 9 false _ A6.out).mono ?_); rintro e w' ⟨rfl, ⟨nd, rfl⟩⟩))
              go_ret
              exact ⟨by first | rfl | (simp; done) | (simp [*]; done), by repeat (first | exact Drawn0.refl _ | apply Drawn0.step)⟩
          · replace c5 := Bool.eq_false_iff.mpr c5
            subst c5
            have H1 : (some false) = some r := by rw [if_neg (show ¬ (false = true) by decide)] at H; exact H
            clear H
            have H := H1
            clear H1
            obtain rfl := Option.some.inj H
            have p151 : 0 ≤ (x3_1 : Int) := of_decide_eq_true (by first | (with_reducible assumption) | assumption)
            have q151 : x3_1 < (l0.length : Int) := of_decide_eq_true (by first | (with_reducible assumption) | assumption)
            obtain ⟨ad151, e151, hx151_0, hx151_1⟩ := at_T31 HR0.out x3_1 p151 q151
            cases e151
            replace p151 := eq_true p151
            replace q151 := eq_true q151
            go_wp2_with (first | ((with_reducible refine gate_callee (f := 57) rfl ?_); refine goesL_ (some 15) rfl rfl Try.func57 (by kernel_rfl) rfl #[.int .i64 ((rd_T31 l0 x3_1).f0), .int .i64 1, .int .i64 9] rfl (by (try simp only [List.map_toArray, List.map_cons, List.map_nil]); first | done | rfl | (simp only [List.length_drop, List.length_take]; rfl)) ?_; (with_reducible refine (spec_l1In.calls ((rd_T31 l0 x3_1).f0) 1 9 false _ A4.out).mono ?_); rintro e w' ⟨rfl, ⟨nd, rfl⟩⟩; refine ⟨_, rfl, ?_⟩))
            go_ret
            exact ⟨by first | rfl | (simp; done) | (simp [*]; done), by repeat (first | exact Drawn0.refl _ | apply Drawn0.step)⟩
        · rw [if_neg c3] at H
          exact absurd H (by simp)
      · rw [if_neg c2] at H
        have c2b0 : decide (x3_1 < (l0.length : Int)) = false := decide_eq_false c2
        clear c2
        replace H := Option.bind_eq_some_iff.mp H
        obtain ⟨t150, A80, H⟩ := H
        replace H : (some t150) = some r := H
        have A8 := Aside0.mk A80
        clear A80
        obtain rfl := Option.some.inj H
        go_wp2_with (first | ((with_reducible refine gate_callee (f := 57) rfl ?_); refine goesL_ (some 28) rfl rfl Try.func57 (by kernel_rfl) rfl #[.int .i64 (l0.length : Int), .int .i64 1, .int .i64 6] rfl (by (try simp only [List.map_toArray, List.map_cons, List.map_nil]); first | done | rfl | (simp only [List.length_drop, List.length_take]; rfl)) ?_; (with_reducible refine (spec_l1In.calls (l0.length : Int) 1 6 t150 _ A8.out).mono ?_); rintro e w' ⟨rfl, ⟨nd, rfl⟩⟩; refine ⟨_, rfl, ?_⟩))
        go_ret
        exact ⟨by first | rfl | (simp; done) | (simp [*]; done), by repeat (first | exact Drawn0.refl _ | apply Drawn0.step)⟩

end Go.Proofs.Ytanmcbjlooknoaa.PFnByPairs
