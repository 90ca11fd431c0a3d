-- Printed by this claim's own program; Lean checks it.
import Derived.Test.YtocnifoohecmeaaPFnExactDeskRunx0
namespace Go.Proofs.Ytocnifoohecmeaa.PFnExactDeskRun
open Go.RowKit Go.Proofs.YtocnifoohecmeaaW.PrintWords Go.Proofs.YtocnifoohecmeaaW.PrintLast Go.Proofs.YtocnifoohecmeaaW.PrintMore
attribute [local go_sem] max2_int min2_int max_two min_two max_three min_three max_four min_four   -- for this text's walks alone
set_option linter.unusedVariables false
set_option linter.unusedSimpArgs false

/-! ### laws_markCustomerS: function 27 -/
def laws_markCustomerS.l0 : Nat → List (S50) → Int → Int → Option (Int × (List (S50)))
  | 0, _, _, _ => none
  | k + 1, x0, x1, x5 => if x5 < (x0.length : Int) then (if 0 ≤ x5 then ((some (x0.set (x5 : Int).toNat (⟨x1, (rd_T50 x0 x5).f1⟩ : S50) : List (S50))).bind fun y145 => (laws_markCustomerS.l0 k (y145.set (x5 : Int).toNat (⟨(rd_T50 y145 x5).f0, wrap64 (x1 + 1)⟩ : S50)) (wrap64 ((wrap64 (x1 + 1)) + 1)) (wrap64 (x5 + 1)))) else (none)) else (some (x1, x0))
def laws_markCustomerS.f (k : Nat) (l0 : List (S50)) (a1 : Int) : Option (Int × (List (S50))) := laws_markCustomerS.l0 k l0 a1 0
theorem laws_markCustomerS.mono_l : ∀ k, (∀ y0 y1 y2, LeO (laws_markCustomerS.l0 k y0 y1 y2) (laws_markCustomerS.l0 (k + 1) y0 y1 y2))
  | 0 => fun _ _ _ r h => by simp [laws_markCustomerS.l0] at h
  | k + 1 => by
    have ih0 := laws_markCustomerS.mono_l k
    · intro y0 y1 y2
      unfold laws_markCustomerS.l0
      repeat' first
      | (with_reducible exact ih0 _ _ _)
      | (with_reducible exact LeO.refl _)
      | (with_reducible exact LeO.none _)
      | (with_reducible refine LeO.ite ?_ ?_)
      | (with_reducible refine LeO.bind ?_ (fun _ => ?_))
      | exact ih0 _ _ _
      | exact LeO.none _
      | refine LeO.ite ?_ ?_
      | refine LeO.bind ?_ (fun _ => ?_)
theorem laws_markCustomerS.mono : ∀ a0 a1 k, LeO (laws_markCustomerS.f k a0 a1) (laws_markCustomerS.f (k + 1) a0 a1) := by
  intro a0 a1 k
  have ih0 := laws_markCustomerS.mono_l k
  unfold laws_markCustomerS.f
  repeat' first
      | (with_reducible exact ih0 _ _ _)
      | (with_reducible exact LeO.refl _)
      | (with_reducible exact LeO.none _)
      | (with_reducible refine LeO.ite ?_ ?_)
      | (with_reducible refine LeO.bind ?_ (fun _ => ?_))
      | exact ih0 _ _ _
      | exact LeO.none _
      | refine LeO.ite ?_ ?_
      | refine LeO.bind ?_ (fun _ => ?_)
set_option maxHeartbeats 8000000 in
set_option maxRecDepth 100000 in
theorem laws_markCustomerS.calls (k : Nat) (P0_ : Nat → Prop) (u9000_ : Value) (l0 : List (S50)) (a1 : Int) (r1 : Int) (r2 : List (S50)) (w0 w : World) (hB : Below w0.heap.size w0 w) (ho0 : Kd.R k50 50 w w0.heap.size P0_ u9000_ l0) (h : laws_markCustomerS.f k l0 a1 = some (r1, r2)) :
    Calls Try.prog 27 #[u9000_, .int .i64 a1] w fun e w' => e = .returned (.int .i64 r1) ∧ Kd.R k50 50 w' w0.heap.size (fun k_ => (P0_ k_ ∨ w.heap.size ≤ k_)) u9000_ r2 ∧ Below w0.heap.size w0 w' ∧ Kept w w' (fun k_ => P0_ k_) := by
  have HO0 := Aside0.mk (show Kd.R k50 50 w w0.heap.size (fun k_ => (P0_ k_ ∨ w.heap.size ≤ k_)) u9000_ l0 from Kd.R_mono ho0 (fun k_ hk => (.inl hk)))
  have HK := Aside0.mk (Kept.refl w (fun k_ => P0_ k_))
  have HW0 := Aside0.mk hB.size
  have HB := Aside0.mk hB
  clear hB
  have H : (laws_markCustomerS.l0 k l0 a1 0) = some (r1, r2) := h
  clear h
  have H' := Aside0.mk H
  clear H
  go_enter Try.func27, Try.ntmps27
  go_wp2
  go_loopg [1, 5] k (fun kq v1 v5 w' => ∃ (x0_1 : List (S50)) (x1_1 : Int) (x5_1 : Int), v1 = .int .i64 x1_1 ∧ v5 = .int .i64 x5_1 ∧ Aside0 (laws_markCustomerS.l0 kq x0_1 x1_1 x5_1 = some (r1, r2)) ∧ Aside0 (kq ≤ k) ∧ Aside0 (Kd.R k50 50 w' w0.heap.size (fun k_ => (P0_ k_ ∨ w.heap.size ≤ k_)) u9000_ x0_1) ∧ Aside0 (Kept w w' (fun k_ => P0_ k_)) ∧ Aside0 (Below w0.heap.size w0 w'))
  case atStart => exact ⟨(l0), (a1), (0), (by first | rfl | (simp; done) | (simp [*]; done)), (by first | rfl | (simp; done) | (simp [*]; done)), H', ⟨Nat.le_refl _⟩, ⟨by (with_reducible repeat (first | apply Kd.R_alloc | apply Kd.R_drewN | apply Kd.R_drew)); exact HO0.out⟩, ⟨by repeat (first | (with_reducible first | exact HK.out | apply Kept.alloc | apply Kept.drewN | apply Kept.drew) | exact HK.out)⟩, ⟨by repeat (first | (with_reducible first | exact HB.out | apply below_alloc | apply pw_below_drewN | apply below_drew1) | exact HB.out)⟩⟩
  case round =>
    clear H'
    try clear c2
    try clear p2
    obtain ⟨x0_1, x1_1, x5_1, rfl, rfl, HA, HK1, HO_0, HK, HB⟩ := hrel
    cases gk with
    | zero => exact absurd HA.out (by simp [laws_markCustomerS.l0])
    | succ k1 =>
      have H := HA.out
      clear HA
      simp only [laws_markCustomerS.l0] at H
      by_cases c3 : x5_1 < (x0_1.length : Int)
      · rw [if_pos c3] at H
        have c3b0 : decide (x5_1 < (x0_1.length : Int)) = true := decide_eq_true c3
        clear c3
        by_cases c4 : 0 ≤ x5_1
        · rw [if_pos c4] at H
          have c4b0 : decide (0 ≤ x5_1) = true := decide_eq_true c4
          clear c4
          obtain ⟨y145, hy145⟩ : ∃ y_ : List (S50), y_ = (x0_1.set (x5_1 : Int).toNat (⟨x1_1, (rd_T50 x0_1 x5_1).f1⟩ : S50)) := ⟨_, rfl⟩
          replace H : (laws_markCustomerS.l0 k1 (y145.set (x5_1 : Int).toNat (⟨(rd_T50 y145 x5_1).f0, wrap64 (x1_1 + 1)⟩ : S50)) (wrap64 ((wrap64 (x1_1 + 1)) + 1)) (wrap64 (x5_1 + 1))) = some (r1, r2) := by first | (rw [hy145]; with_reducible exact H) | (have H2_ := (Option.bind_some _ _).symm.trans H; rw [hy145]; with_reducible exact H2_) | (have H2_ := (Option.bind_some _ _).symm.trans H; with_reducible exact H2_) | with_reducible exact H | (rw [hy145]; exact H) | exact H
          have Ny145 := Aside0.mk hy145
          clear hy145
          obtain ⟨y146, hy146⟩ : ∃ y_ : List (S50), y_ = (y145.set (x5_1 : Int).toNat (⟨(rd_T50 y145 x5_1).f0, wrap64 (x1_1 + 1)⟩ : S50)) := ⟨_, rfl⟩
          replace H : (laws_markCustomerS.l0 k1 y146 (wrap64 ((wrap64 (x1_1 + 1)) + 1)) (wrap64 (x5_1 + 1))) = some (r1, r2) := by first | (rw [hy146]; with_reducible exact H) | (have H2_ := (Option.bind_some _ _).symm.trans H; rw [hy146]; with_reducible exact H2_) | (have H2_ := (Option.bind_some _ _).symm.trans H; with_reducible exact H2_) | with_reducible exact H | (rw [hy146]; exact H) | exact H
          have Ny146 := Aside0.mk hy146
          clear hy146
          have H' := Aside0.mk H
          clear H
          obtain ⟨Ao7, co7, eo7⟩ := Kd.R_slice HO_0.out
          subst eo7
          have p5 : 0 ≤ (x5_1 : Int) := of_decide_eq_true (by first | (with_reducible assumption) | assumption)
          have q5 : (x5_1 : Int) < ((x0_1.length : Int) : Int) := of_decide_eq_true (by first | (with_reducible assumption) | assumption)
          obtain ⟨go5, co5, eo5, gb5, gl5, cl5, HG5⟩ := Kd.R_form HO_0.out (by omega)
          (first | cases eo5 | (injection eo5 with ea_ en_ ec_; (first | subst ea_ | (injection ea_ with ea_; subst ea_)); subst ec_; clear en_))
          have GB5 := Aside0.mk gb5
          have GG5 := Aside0.mk HG5
          clear gb5 gl5 HG5
          have HMgo5 := Aside0.mk (show (P0_ go5 ∨ w.heap.size ≤ go5) from (HO_0.out.1 _ rfl))
          obtain ⟨ce5, hcl5, hM5, hcc5, hfr5⟩ := Kd.R_elem HO_0.out z50 (x5_1 : Int) p5 q5
          obtain rfl := k50_openM hM5
          have hx5_0 : wr.cell? ⟨go5, (x5_1 : Int).toNat * 2, none⟩ = some (.int .i64 ((rd_T50 x0_1 x5_1).f0)) := hcc5 0 _ rfl
          have hx5_1 : wr.cell? ⟨go5, (x5_1 : Int).toNat * 2 + 1, none⟩ = some (.int .i64 ((rd_T50 x0_1 x5_1).f1)) := hcc5 1 _ rfl
          have hf5_0 : wr.frozen? ⟨go5, (x5_1 : Int).toNat * 2, none⟩ = false := hfr5 0
          have hf5_1 : wr.frozen? ⟨go5, (x5_1 : Int).toNat * 2 + 1, none⟩ = false := hfr5 1
          (try clear hM5); clear hcl5 hcc5 hfr5
          replace p5 := eq_true p5
          replace q5 := eq_true q5
          have HX8 := Aside0.mk (show Kd.R k50 50 wr w0.heap.size (fun k_ => (P0_ k_ ∨ w.heap.size ≤ k_)) (.slice (some ⟨go5, 0, none⟩) x0_1.length co7) x0_1 from (by (with_reducible repeat (first | apply Kd.R_alloc | apply Kd.R_drewN | apply Kd.R_drew)); exact HO_0.out))
          obtain ⟨ce8, hcl8, hM8, hcc8, hfr8⟩ := Kd.R_elem HX8.out z50 (x5_1 : Int) (of_decide_eq_true (by first | (with_reducible assumption) | assumption)) (by have h_ : (x5_1 : Int) < ((x0_1.length : Int) : Int) := of_decide_eq_true (by first | (with_reducible assumption) | assumption); first | exact h_ | (have e_ := (Kd.R_reads' HO_0.out).1; omega) | simpa using h_)
          obtain rfl := k50_openM hM8
          have HP8 := Kd.R_seg HX8.out (x5_1 : Int) (of_decide_eq_true (by first | (with_reducible assumption) | assumption)) (by have h_ : (x5_1 : Int) < ((x0_1.length : Int) : Int) := of_decide_eq_true (by first | (with_reducible assumption) | assumption); first | exact h_ | (have e_ := (Kd.R_reads' HO_0.out).1; omega) | simpa using h_) (seg := [.int .i64 x1_1]) (j := 0) hcl8 hcc8 (show 1 ≤ 2 from by decide) (x' := (⟨x1_1, (rd_T50 x0_1 x5_1).f1⟩ : S50)) (k50_mkM _ _ _ (⟨x1_1, (rd_T50 x0_1 x5_1).f1⟩ : S50) ) (fun _ hk => hk)
          have hx8_0 := hcc8 0 _ rfl
          (try simp only [show (k50).sz = 2 from rfl, Nat.mul_one, Nat.add_zero] at hx8_0)
          have hf8_0 := hfr8 0
          (try simp only [show (k50).sz = 2 from rfl, Nat.mul_one, Nat.add_zero] at hf8_0)
          (try clear hM8); clear hcl8 hcc8 hfr8
          go_wp2_with (first | ((with_reducible refine gate_store (t := 3) (p := 16) rfl ?_); refine store_event (t := 3) (p := 16) (v := ?vo_w9) (w1 := (wr.setCell ⟨go5, (x5_1 : Int).toNat * 2, none⟩ (.int .i64 x1_1))) ?hg ?ho ?hn ?hr ?_; (case ho => rfl); (case hg => rfl); (case hn => rfl); (case hr => first | (go_simp; done) | (go_simp; rfl)); intro w9 hw; have hg : wr.grownBy w9 (some go5) := (by rw [hw]; exact HP8.2); have hp_ : Kd.R k50 50 w9 w0.heap.size (fun k_ => (P0_ k_ ∨ w.heap.size ≤ k_)) (.slice (some ⟨go5, 0, none⟩) x0_1.length co7) y145 := (by rw [hw, Ny145.out]; exact HP8.1); clear HP8; have n0_ := Aside0.mk (hp_); have n1_ := Aside0.mk ((by rw [hw]; exact below_set (HB.out) GB5.out : Below w0.heap.size w0 w9)); have n2_ := Aside0.mk (Kept.of_grown (S := (fun k_ => P0_ k_)) hg (by repeat (first | (with_reducible first | exact HK.out | apply Kept.alloc | apply Kept.drewN | apply Kept.drew) | exact HK.out)) (fun k_ e_ => (HO_0.out.1 k_ e_))); clear HO_0; clear HB; clear HK; have HO_0 := n0_; have HB := n1_; have HK := n2_; clear n0_ n1_ n2_; clear hg hw hp_; have p6 : 0 ≤ (x5_1 : Int) := of_decide_eq_true (by first | (with_reducible assumption) | assumption); have q6 : (x5_1 : Int) < ((x0_1.length : Int) : Int) := of_decide_eq_true (by first | (with_reducible assumption) | assumption); obtain ⟨ce6, hcl6, hM6, hcc6, hfr6⟩ := Kd.R_elem HO_0.out z50 (x5_1 : Int) p6 q6; obtain rfl := k50_openM hM6; have hx6_0 : w9.cell? ⟨go5, (x5_1 : Int).toNat * 2, none⟩ = some (.int .i64 ((rd_T50 y145 x5_1).f0)) := hcc6 0 _ rfl; have hx6_1 : w9.cell? ⟨go5, (x5_1 : Int).toNat * 2 + 1, none⟩ = some (.int .i64 ((rd_T50 y145 x5_1).f1)) := hcc6 1 _ rfl; have hf6_0 : w9.frozen? ⟨go5, (x5_1 : Int).toNat * 2, none⟩ = false := hfr6 0; have hf6_1 : w9.frozen? ⟨go5, (x5_1 : Int).toNat * 2 + 1, none⟩ = false := hfr6 1; (try clear hM6); clear hcl6 hcc6 hfr6; replace p6 := eq_true p6; replace q6 := eq_true q6; have HX10 := Aside0.mk (show Kd.R k50 50 w9 w0.heap.size (fun k_ => (P0_ k_ ∨ w.heap.size ≤ k_)) (.slice (some ⟨go5, 0, none⟩) x0_1.length co7) y145 from (by (with_reducible repeat (first | apply Kd.R_alloc | apply Kd.R_drewN | apply Kd.R_drew)); exact HO_0.out)); obtain ⟨ce10, hcl10, hM10, hcc10, hfr10⟩ := Kd.R_elem HX10.out z50 (x5_1 : Int) (of_decide_eq_true (by first | (with_reducible assumption) | assumption)) (by have h_ : (x5_1 : Int) < ((x0_1.length : Int) : Int) := of_decide_eq_true (by first | (with_reducible assumption) | assumption); first | exact h_ | (have e_ := (Kd.R_reads' HO_0.out).1; omega) | simpa using h_); obtain rfl := k50_openM hM10; have HP10 := Kd.R_seg HX10.out (x5_1 : Int) (of_decide_eq_true (by first | (with_reducible assumption) | assumption)) (by have h_ : (x5_1 : Int) < ((x0_1.length : Int) : Int) := of_decide_eq_true (by first | (with_reducible assumption) | assumption); first | exact h_ | (have e_ := (Kd.R_reads' HO_0.out).1; omega) | simpa using h_) (seg := [.int .i64 (wrap64 (x1_1 + 1))]) (j := 1) hcl10 hcc10 (show 2 ≤ 2 from by decide) (x' := (⟨(rd_T50 y145 x5_1).f0, wrap64 (x1_1 + 1)⟩ : S50)) (k50_mkM _ _ _ (⟨(rd_T50 y145 x5_1).f0, wrap64 (x1_1 + 1)⟩ : S50) ) (fun _ hk => hk); have hx10_1 := hcc10 1 _ rfl; (try simp only [show (k50).sz = 2 from rfl, Nat.mul_one, Nat.add_zero] at hx10_1); have hf10_1 := hfr10 1; (try simp only [show (k50).sz = 2 from rfl, Nat.mul_one, Nat.add_zero] at hf10_1); (try clear hM10); clear hcl10 hcc10 hfr10) | ((with_reducible refine gate_store (t := 3) (p := 23) rfl ?_); refine store_event (t := 3) (p := 23) (v := ?vo_w11) (w1 := (w9.setCell ⟨go5, (x5_1 : Int).toNat * 2 + 1, none⟩ (.int .i64 (wrap64 (x1_1 + 1))))) ?hg ?ho ?hn ?hr ?_; (case ho => rfl); (case hg => rfl); (case hn => rfl); (case hr => first | (go_simp; done) | (go_simp; rfl)); intro w11 hw; have hg : w9.grownBy w11 (some go5) := (by rw [hw]; exact HP10.2); have hp_ : Kd.R k50 50 w11 w0.heap.size (fun k_ => (P0_ k_ ∨ w.heap.size ≤ k_)) (.slice (some ⟨go5, 0, none⟩) x0_1.length co7) y146 := (by rw [hw, Ny146.out]; exact HP10.1); clear HP10; have n0_ := Aside0.mk (hp_); have n1_ := Aside0.mk ((by rw [hw]; exact below_set (HB.out) GB5.out : Below w0.heap.size w0 w11)); have n2_ := Aside0.mk (Kept.of_grown (S := (fun k_ => P0_ k_)) hg (by repeat (first | (with_reducible first | exact HK.out | apply Kept.alloc | apply Kept.drewN | apply Kept.drew) | exact HK.out)) (fun k_ e_ => (HO_0.out.1 k_ e_))); clear HO_0; clear HB; clear HK; have HO_0 := n0_; have HB := n1_; have HK := n2_; clear n0_ n1_ n2_; clear hg hw hp_))
          go_roundg k1
          case measure => have := HK1.out; omega
          case rel => exact ⟨(y146), (wrap64 ((wrap64 (x1_1 + 1)) + 1)), (wrap64 (x5_1 + 1)), (by first | rfl | (simp; done) | (simp [*]; done)), (by first | rfl | (simp; done) | (simp [*]; done)), H', ⟨by have := HK1.out; omega⟩, ⟨by (with_reducible repeat (first | apply Kd.R_alloc | apply Kd.R_drewN | apply Kd.R_drew)); exact HO_0.out⟩, ⟨by repeat (first | (with_reducible first | exact HK.out | apply Kept.alloc | apply Kept.drewN | apply Kept.drew) | exact HK.out)⟩, ⟨by repeat (first | (with_reducible first | exact HB.out | apply below_alloc | apply pw_below_drewN | apply below_drew1) | exact HB.out)⟩⟩
        · rw [if_neg c4] at H
          exact absurd H (by simp)
      · rw [if_neg c3] at H
        have c3b0 : decide (x5_1 < (x0_1.length : Int)) = false := decide_eq_false c3
        clear c3
        simp only [Option.some.injEq, Prod.mk.injEq] at H
        obtain ⟨rfl, rfl⟩ := H
        obtain ⟨Ao12, co12, eo12⟩ := Kd.R_slice HO_0.out
        subst eo12
        go_wp2
        go_ret
        exact ⟨by first | rfl | (simp [errW_none, errW_some] <;> rfl) | (simp [*, errW_none, errW_some] <;> rfl), by (with_reducible repeat (first | apply Kd.R_alloc | apply Kd.R_drewN | apply Kd.R_drew)); exact HO_0.out, by repeat (first | (with_reducible first | exact HB.out | apply below_alloc | apply pw_below_drewN | apply below_drew1) | exact HB.out), by repeat (first | (with_reducible first | exact HK.out | apply Kept.alloc | apply Kept.drewN | apply Kept.drew) | exact HK.out)⟩

/-! ### laws_markDesk: function 28 (by hand) -/
theorem blk_new (W : World) (o : Obj) : (W.alloc o).heap[W.heap.size]? = some o := by unfold World.alloc; simp
theorem blk_alloc1 {W : World} {g : Nat} {o o' : Obj} (h : W.heap[g]? = some o) : (W.alloc o').heap[g]? = some o := ((below_alloc (Below.refl W.heap.size W) o').block _ (Array.getElem?_eq_some_iff.1 h).1).trans h
theorem size_alloc1 (W : World) (o : Obj) : (W.alloc o).heap.size = W.heap.size + 1 := by unfold World.alloc; simp
theorem res_put {W : World} {g : Nat} {a b x y : Value} {t : TypeId} (h : W.heap[g]? = some (.cells #[a, b] t (0, 0))) : ((W.setCell ⟨g, 0, none⟩ x).setCell ⟨g, 1, none⟩ y).heap[g]? = some (.cells #[x, y] t (0, 0)) := blk_put (cs := #[x, b]) (blk_put (cs := #[a, b]) h 0 _ rfl) 1 _ rfl
/-- Rows of customers, each one's own, apart from each other by the mark f. -/
def ORows (W : World) (base : Nat) (ok : Nat → Prop) (f : Nat → Nat) (vs : List Value) (ls : List (List S50)) : Prop :=
  vs.length = ls.length ∧ ∀ j v l, vs[j]? = some v → ls[j]? = some l → Kd.R k50 50 W base (fun k => ok k ∧ f k = j) v l
/-- The cells of a row of rows. -/
def OCells (W : World) (base : Nat) (ok : Nat → Prop) (A : Option Addr) (vs : List Value) : Prop :=
  ∀ j v, vs[j]? = some v → ∃ ad, A = some ad ∧ W.cell? (ad.add j) = some v ∧ base ≤ ad.block ∧ ok ad.block ∧ ∃ cells, W.heap[ad.block]? = some (.cells cells 23 (0, 0))
/-- A desk whose rows are its own and apart; the row of rows is only read. -/
structure DOwn (W : World) (base : Nat) (ok : Nat → Prop) (A0 : Option Addr) (c0 : Nat) (l0 : List S50) (A1 : Option Addr) (c1 : Nat) (l1 : List (List S50)) (f : Nat → Nat) (vs : List Value) : Prop where
  rows : ORows W base ok f (.slice A0 l0.length c0 :: vs) (l0 :: l1)
  cells : OCells W base ok A1 vs
  le : l1.length ≤ c1
  max : l1.length ≤ 9223372036854775807
theorem ORows.step {W W' : World} {base : Nat} {ok : Nat → Prop} {f : Nat → Nat} {vs : List Value} {ls : List (List S50)} (h : ORows W base ok f vs ls) (hm : ∀ k, ok k → k < W.heap.size → W'.heap[k]? = W.heap[k]?) : ORows W' base ok f vs ls :=
  ⟨h.1, fun j v l hv hl => Kd.R_step (h.2 j v l hv hl) (fun k hk hlt => hm k hk.1 hlt)⟩
theorem OCells.step {W W' : World} {base : Nat} {ok : Nat → Prop} {A : Option Addr} {vs : List Value} (h : OCells W base ok A vs) (hm : ∀ k, ok k → k < W.heap.size → W'.heap[k]? = W.heap[k]?) : OCells W' base ok A vs := by
  intro j v hv
  obtain ⟨ad, rfl, hc, hb, ho, cells, hh⟩ := h j v hv
  have e := hm _ ho (blk_lt hh)
  refine ⟨ad, rfl, ?_, hb, ho, cells, e.trans hh⟩
  have hbk : (ad.add j).block = ad.block := by unfold Addr.add; split <;> rfl
  rw [← hc]
  unfold World.cell?
  rw [hbk, e]
theorem DOwn.step {W W' : World} {base : Nat} {ok : Nat → Prop} {A0 : Option Addr} {c0 : Nat} {l0 : List S50} {A1 : Option Addr} {c1 : Nat} {l1 : List (List S50)} {f : Nat → Nat} {vs : List Value} (h : DOwn W base ok A0 c0 l0 A1 c1 l1 f vs) (hm : ∀ k, ok k → k < W.heap.size → W'.heap[k]? = W.heap[k]?) : DOwn W' base ok A0 c0 l0 A1 c1 l1 f vs :=
  ⟨h.rows.step hm, h.cells.step hm, h.le, h.max⟩
theorem DOwn.below {W W' : World} {base : Nat} {ok : Nat → Prop} {A0 : Option Addr} {c0 : Nat} {l0 : List S50} {A1 : Option Addr} {c1 : Nat} {l1 : List (List S50)} {f : Nat → Nat} {vs : List Value} (h : DOwn W base ok A0 c0 l0 A1 c1 l1 f vs) (hb : Below W.heap.size W W') : DOwn W' base ok A0 c0 l0 A1 c1 l1 f vs := h.step (fun k _ hk => hb.block k hk)
theorem DOwn.mono {W : World} {base base' : Nat} {ok ok' : Nat → Prop} {A0 : Option Addr} {c0 : Nat} {l0 : List S50} {A1 : Option Addr} {c1 : Nat} {l1 : List (List S50)} {f : Nat → Nat} {vs : List Value} (h : DOwn W base ok A0 c0 l0 A1 c1 l1 f vs) (hok : ∀ k, base ≤ k → k < W.heap.size → ok k → ok' k) (hb : base' ≤ base) : DOwn W base' ok' A0 c0 l0 A1 c1 l1 f vs :=
  ⟨⟨h.rows.1, fun j v l hv hl => Kd.R_lower (Kd.R_mono (Kd.R_bound (h.rows.2 j v l hv hl)) (fun k hk => ⟨hok k hk.2.1 hk.2.2.1 hk.1.1, hk.1.2⟩)) hb⟩, fun j v hv => by
    obtain ⟨ad, e, hc, hbb, ho, cells, hh⟩ := h.cells j v hv
    exact ⟨ad, e, hc, Nat.le_trans hb hbb, hok _ hbb (blk_lt hh) ho, cells, hh⟩, h.le, h.max⟩
theorem DOwn.r0 {W : World} {base : Nat} {ok : Nat → Prop} {A0 : Option Addr} {c0 : Nat} {l0 : List S50} {A1 : Option Addr} {c1 : Nat} {l1 : List (List S50)} {f : Nat → Nat} {vs : List Value} (h : DOwn W base ok A0 c0 l0 A1 c1 l1 f vs) : Kd.C k50 W A0 l0.length l0 := (Kd.R_reads' (h.rows.2 0 _ _ rfl rfl)).2.2
theorem DOwn.h0 {W : World} {base : Nat} {ok : Nat → Prop} {A0 : Option Addr} {c0 : Nat} {l0 : List S50} {A1 : Option Addr} {c1 : Nat} {l1 : List (List S50)} {f : Nat → Nat} {vs : List Value} (h : DOwn W base ok A0 c0 l0 A1 c1 l1 f vs) : l0.length ≤ c0 := (Kd.R_reads' (h.rows.2 0 _ _ rfl rfl)).2.1
theorem DOwn.r1 {W : World} {base : Nat} {ok : Nat → Prop} {A0 : Option Addr} {c0 : Nat} {l0 : List S50} {A1 : Option Addr} {c1 : Nat} {l1 : List (List S50)} {f : Nat → Nat} {vs : List Value} (h : DOwn W base ok A0 c0 l0 A1 c1 l1 f vs) : Kd.C (Kd.slice 50 k50) W A1 l1.length l1 := by
  have hlen : vs.length = l1.length := by have := h.rows.1; simpa using this
  refine ⟨rfl, h.max, fun hp => ?_⟩
  obtain ⟨ad, hA, _⟩ := h.cells 0 (vs[0]'(by omega)) (List.getElem?_eq_getElem (by omega))
  refine ⟨ad, hA, fun j p hj => ?_⟩
  have hjl : j < l1.length := (List.getElem?_eq_some_iff.1 hj).1
  have hv : vs[j]? = some (vs[j]'(by omega)) := List.getElem?_eq_getElem (by omega)
  obtain ⟨ad', hA', hc, _⟩ := h.cells j _ hv
  rw [hA] at hA'
  obtain rfl := Option.some.inj hA'
  have hR := h.rows.2 (j + 1) _ p (show vs[j]? = some (vs[j]'(by omega)) from hv) (show l1[j]? = some p from hj)
  refine ⟨[vs[j]'(by omega)], rfl, ?_, fun i u hi => ?_⟩
  · obtain ⟨A, c, e⟩ := Kd.R_slice hR
    rw [e] at hR ⊢
    exact ⟨A, c, rfl, (Kd.R_reads' hR).2.1, (Kd.R_reads' hR).2.2⟩
  · cases i with
    | zero =>
      obtain rfl := Option.some.inj (show some _ = some u from hi)
      rw [show (Kd.slice 50 k50).sz = 1 from rfl, Nat.mul_one, Nat.add_zero]
      exact hc
    | succ i => simp at hi
/-- What is made at one go: a row and a row of rows. -/
theorem DOwn.of_S {W : World} {base : Nat} {ok : Nat → Prop} {A0 : Option Addr} {c0 : Nat} {l0 : List S50} {A1 : Option Addr} {c1 : Nat} {l1 : List (List S50)} (h0 : Kd.R k50 50 W base ok (.slice A0 l0.length c0) l0) (h1 : Kd.S (Kd.slice 50 k50) 23 W base (fun k => ok k ∧ some k ≠ (Value.slice A0 l0.length c0).ownBlock) (.slice A1 l1.length c1) l1) : ∃ f vs, DOwn W base ok A0 c0 l0 A1 c1 l1 f vs := by
  have hrd := Kd.S_reads' h1
  obtain ⟨f, hk1, inner, ho, hr⟩ := h1
  rw [List.length_zipIdx] at ho
  have hlen : inner.length = l1.length := by
    have := hr.1
    rw [List.length_zipIdx, show (Kd.tag f (Kd.slice 50 k50)).sz = 1 from rfl, Nat.mul_one] at this
    exact this
  have hrow : ∀ j v l, inner[j]? = some v → l1[j]? = some l → Kd.R k50 50 W base (fun k => (ok k ∧ some k ≠ (Value.slice A0 l0.length c0).ownBlock) ∧ f k = j) v l := by
    intro j v l hv hl
    obtain ⟨u, hu, hR⟩ := hr.2 j (l, j) (Kd.zip_at hl)
    rw [show (Kd.tag f (Kd.slice 50 k50)).sz = 1 from rfl, Nat.mul_one] at hu
    have hd : (inner.drop j).take 1 = [v] := by
      have hj := (List.getElem?_eq_some_iff.1 hv).1
      rw [List.drop_eq_getElem_cons hj, (List.getElem?_eq_some_iff.1 hv).2]
      simp
    rw [hd] at hu
    obtain rfl := (List.cons.inj hu).1
    exact Kd.R_mono hR (fun k hk => ⟨hk.1.1, hk.2⟩)
  refine ⟨fun k => if some k = (Value.slice A0 l0.length c0).ownBlock then 0 else f k + 1, inner, ⟨by simp [hlen], fun j v l hv hl => ?_⟩, fun j v hv => ?_, hrd.2.1, Kd.C_max hrd.2.2⟩
  · cases j with
    | zero =>
      obtain rfl := Option.some.inj (show some _ = some v from hv)
      obtain rfl := Option.some.inj (show some _ = some l from hl)
      exact Kd.R_flat (fun h => by rw [k50_openM h]; exact k50_mkM _ _ _ _) h0 (fun k hk ho => ⟨ho, if_pos hk.symm⟩)
    | succ j =>
      refine Kd.R_mono (hrow j v l (by simpa using hv) (by simpa using hl)) (fun k hk => ⟨hk.1.1, ?_⟩)
      show (if some k = (Value.slice A0 l0.length c0).ownBlock then 0 else f k + 1) = j + 1
      rw [if_neg hk.1.2, hk.2]
  · have hj := (List.getElem?_eq_some_iff.1 hv).1
    obtain ⟨g, cap, e, hb, hlt⟩ := ho.form (by omega)
    injection e with e1 e2 e3
    subst e1 e3
    obtain ⟨cells, hcells⟩ := own_typed ho g rfl
    refine ⟨⟨g, 0, none⟩, rfl, ?_, hb, (hk1 g rfl).1, cells, hcells⟩
    have := ho.cells (g := g) rfl j v hv
    exact this
/-- No row at all. -/
theorem DOwn.none (W : World) (base : Nat) (ok : Nat → Prop) : DOwn W base ok none 0 [] none 0 [] (fun _ => 0) [] :=
  ⟨⟨rfl, fun j v l hv hl => by
    cases j with
    | zero =>
      obtain rfl := Option.some.inj (show some _ = some v from hv)
      obtain rfl := Option.some.inj (show some _ = some l from hl)
      exact Kd.R_nil _ _ _ _ _
    | succ j => simp at hl⟩, fun j v hv => by simp at hv, Nat.le_refl _, by simp⟩
/-- The last row of before is put in the place of the first row. -/
theorem DOwn.back {W : World} {base : Nat} {ok : Nat → Prop} {A0 : Option Addr} {c0 : Nat} {l0 : List S50} {A1 : Option Addr} {c1 : Nat} {l1 : List (List S50)} {f : Nat → Nat} {vs : List Value} (h : DOwn W base ok A0 c0 l0 A1 c1 l1 f vs) {n : Nat} (hn : n + 1 = l1.length) {Ae : Option Addr} {ce : Nat} {l : List S50} (hl : l1[n]? = some l) (hv : vs[n]? = some (.slice Ae l.length ce)) (c2 : Nat) (hc2 : n ≤ c2) : ∃ f', DOwn W base ok Ae ce l A1 c2 (l1.take n) f' (vs.take n) := by
  have hlen : vs.length = l1.length := by have := h.rows.1; simpa using this
  refine ⟨fun k => if f k = n + 1 then 0 else f k, ⟨by simp [hlen], fun j v x hv' hx => ?_⟩, fun j v hv' => ?_, by rw [List.length_take]; omega, by rw [List.length_take]; have := h.max; omega⟩
  · cases j with
    | zero =>
      obtain rfl := Option.some.inj (show some _ = some v from hv')
      obtain rfl := Option.some.inj (show some _ = some x from hx)
      exact Kd.R_mono (h.rows.2 (n + 1) _ l (by simpa using hv) (by simpa using hl)) (fun k hk => ⟨hk.1, if_pos hk.2⟩)
    | succ j =>
      simp only [List.getElem?_cons_succ, List.getElem?_take] at hv' hx
      split at hv'
      · rename_i hj
        rw [if_pos hj] at hx
        refine Kd.R_mono (h.rows.2 (j + 1) v x (by simpa using hv') (by simpa using hx)) (fun k hk => ⟨hk.1, ?_⟩)
        show (if f k = n + 1 then 0 else f k) = j + 1
        rw [if_neg (by omega), hk.2]
      · cases hv'
  · rw [List.getElem?_take] at hv'
    split at hv'
    · exact h.cells j v hv'
    · cases hv'
theorem ORows.put {W W' : World} {base : Nat} {ok ok' : Nat → Prop} {f : Nat → Nat} {vs : List Value} {ls : List (List S50)} {j : Nat} {u : Value} {y : List S50} (h : ORows W base ok f vs ls) (hv : vs[j]? = some u) (hy : Kd.R k50 50 W' base ok' u y) (hk : Kept W W' (fun k => some k = u.ownBlock)) : ORows W' base ok f vs (ls.set j y) := by
  have hjl : j < ls.length := by have := (List.getElem?_eq_some_iff.1 hv).1; have := h.1; omega
  have hj := h.2 j u _ hv (List.getElem?_eq_getElem hjl)
  refine ⟨by rw [h.1]; simp, fun i v l hvi hli => ?_⟩
  by_cases hij : i = j
  · subst hij
    rw [hv] at hvi
    obtain rfl := Option.some.inj hvi
    rw [List.getElem?_set_self hjl] at hli
    obtain rfl := Option.some.inj hli
    exact Kd.R_flat (fun h => by rw [k50_openM h]; exact k50_mkM _ _ _ _) hy (fun k hk _ => hj.1 k hk)
  · rw [List.getElem?_set_ne (fun e => hij e.symm)] at hli
    refine Kd.R_step (h.2 i v l hvi hli) (fun k hok hlt => hk.2 k hlt (fun e => hij ?_))
    exact hok.2.symm.trans (hj.1 k e.symm).2
theorem OCells.put {W W' : World} {base : Nat} {ok : Nat → Prop} {A : Option Addr} {vs : List Value} {b : Nat} {okp : Nat → Prop} {u : Value} {x : List S50} (h : OCells W base ok A vs) (hu : Kd.R k50 50 W b okp u x) (hk : Kept W W' (fun k => some k = u.ownBlock)) : OCells W' base ok A vs := by
  intro j v hv
  obtain ⟨ad, rfl, hc, hb, ho, cells, hh⟩ := h j v hv
  have e := hk.2 _ (blk_lt hh) (fun e => by
    obtain ⟨cs, hcs⟩ := Kd.R_typed hu _ e.symm
    rw [hh] at hcs
    injection hcs with hcs
    injection hcs with _ ht
    exact absurd ht (by decide))
  refine ⟨ad, rfl, ?_, hb, ho, cells, e.trans hh⟩
  have hbk : (ad.add j).block = ad.block := by unfold Addr.add; split <;> rfl
  rw [← hc]
  unfold World.cell?
  rw [hbk, e]
def laws_markRows.f (k : Nat) : List (List S50) → Int → Option (Int × List (List S50))
  | [], m => some (m, [])
  | x :: xs, m => (laws_markCustomerS.f k x m).bind fun R => (laws_markRows.f k xs R.1).bind fun Q => some (Q.1, R.2 :: Q.2)
theorem laws_markRows.mono : ∀ a0 a1 k, LeO (laws_markRows.f k a0 a1) (laws_markRows.f (k + 1) a0 a1)
  | [], m, k => LeO.refl _
  | x :: xs, m, k => LeO.bind (laws_markCustomerS.mono _ _ _) (fun R => LeO.bind (laws_markRows.mono xs R.1 k) (fun _ => LeO.refl _))
def laws_markDesk.f (k : Nat) (l0 : List S50) (l1 : List (List S50)) (m : Int) : Option (Int × List S50 × List (List S50)) :=
  (laws_markCustomerS.f k l0 m).bind fun R => (laws_markRows.f k l1 R.1).bind fun Q => some (Q.1, R.2, Q.2)
theorem laws_markDesk.mono : ∀ a0 a1 a2 k, LeO (laws_markDesk.f k a0 a1 a2) (laws_markDesk.f (k + 1) a0 a1 a2) := fun a0 a1 a2 k =>
  LeO.bind (laws_markCustomerS.mono _ _ _) (fun R => LeO.bind (laws_markRows.mono a1 R.1 k) (fun _ => LeO.refl _))
/-- One row of a desk is marked. -/
theorem DOwn.put1 {W W' : World} {base : Nat} {ok ok' : Nat → Prop} {A0 : Option Addr} {c0 : Nat} {l0 : List S50} {A1 : Option Addr} {c1 : Nat} {l1 : List (List S50)} {f : Nat → Nat} {vs : List Value} {j : Nat} {u : Value} {x y : List S50} (h : DOwn W base ok A0 c0 l0 A1 c1 l1 f vs) (hv : vs[j]? = some u) (hx : l1[j]? = some x) (hy : Kd.R k50 50 W' base ok' u y) (hk : Kept W W' (fun k => some k = u.ownBlock)) : DOwn W' base ok A0 c0 l0 A1 c1 (l1.set j y) f vs :=
  ⟨ORows.put (j := j + 1) h.rows hv hy hk, h.cells.put (h.rows.2 (j + 1) u x hv hx) hk, by rw [List.length_set]; exact h.le, by rw [List.length_set]; exact h.max⟩
theorem DOwn.put0 {W W' : World} {base : Nat} {ok ok' : Nat → Prop} {A0 : Option Addr} {c0 : Nat} {l0 : List S50} {A1 : Option Addr} {c1 : Nat} {l1 : List (List S50)} {f : Nat → Nat} {vs : List Value} {y : List S50} (h : DOwn W base ok A0 c0 l0 A1 c1 l1 f vs) (hy : Kd.R k50 50 W' base ok' (.slice A0 l0.length c0) y) (hk : Kept W W' (fun k => some k = (Value.slice A0 l0.length c0).ownBlock)) : DOwn W' base ok A0 c0 y A1 c1 l1 f vs := by
  have hl : l0.length = y.length := (Kd.R_reads' hy).1
  have hr := ORows.put (j := 0) h.rows rfl hy hk
  exact ⟨by rw [← hl]; exact hr, h.cells.put (h.rows.2 0 _ _ rfl rfl) hk, h.le, h.max⟩
set_option maxHeartbeats 4000000 in
set_option maxRecDepth 100000 in
theorem laws_markCustomerSS.calls (k : Nat) (A0 : Option Addr) (c0 : Nat) (l0 : List S50) (A1 : Option Addr) (c1 : Nat) (l1 : List (List S50)) (f : Nat → Nat) (vs : List Value) (ok : Nat → Prop) (a1 r1 : Int) (r2 : List (List S50)) (w0 w : World) (hB : Below w0.heap.size w0 w) (hD : DOwn w w0.heap.size ok A0 c0 l0 A1 c1 l1 f vs) (h : laws_markRows.f k l1 a1 = some (r1, r2)) :
    Calls Try.prog 52 #[.slice A1 l1.length c1, .int .i64 a1] w fun e w' => e = .returned (.int .i64 r1) ∧ DOwn w' w0.heap.size ok A0 c0 l0 A1 c1 r2 f vs ∧ Below w0.heap.size w0 w' ∧ Kept w w' ok := by
  have HD := Aside0.mk hD
  have HB := Aside0.mk hB
  have H' := Aside0.mk h
  have HM := Aside0.mk hD.max
  have HV := Aside0.mk (show vs.length = l1.length from by have := hD.rows.1; simpa using this)
  clear hD hB h
  go_enter Try.func52, Try.ntmps52
  go_wp2
  go_loopg [1, 5] (l1.length + 1) (fun kq v1 v5 w' => ∃ (done rest ys : List (List S50)) (m xi : Int), v1 = .int .i64 m ∧ v5 = .int .i64 xi ∧ Aside0 (xi = (done.length : Int)) ∧ Aside0 (laws_markRows.f k rest m = some (r1, ys)) ∧ Aside0 (r2 = done ++ ys) ∧ Aside0 (done.length + rest.length = l1.length) ∧ Aside0 (rest.length < kq) ∧ Aside0 (DOwn w' w0.heap.size ok A0 c0 l0 A1 c1 (done ++ rest) f vs) ∧ Aside0 (Below w0.heap.size w0 w') ∧ Aside0 (Kept w w' ok))
  case atStart => exact ⟨[], l1, r2, a1, 0, rfl, rfl, ⟨rfl⟩, H', ⟨rfl⟩, ⟨by simp⟩, ⟨by omega⟩, HD, HB, ⟨Kept.refl _ _⟩⟩
  case round =>
    clear H' HD HB
    obtain ⟨done, rest, ys, m, xi, rfl, rfl, HX, HA, HY, HL, HK, HD, HB, HKP⟩ := hrel
    cases rest with
    | nil =>
      obtain ⟨rfl, rfl⟩ : m = r1 ∧ ([] : List (List S50)) = ys := by have := HA.out; simp [laws_markRows.f] at this; exact ⟨this.1, this.2.symm⟩
      have c3 : decide (xi < (l1.length : Int)) = false := decide_eq_false (by have := HX.out; have := HL.out; simp at this; omega)
      go_wp2
      go_ret
      exact ⟨rfl, by rw [HY.out]; exact HD.out, HB.out, HKP.out⟩
    | cons x xs =>
      have hx := HX.out
      have hl := HL.out
      have hm := HM.out
      have hvl := HV.out
      simp only [List.length_cons] at hl
      obtain ⟨⟨m2, y⟩, hM, h2⟩ := Option.bind_eq_some_iff.mp (show ((laws_markCustomerS.f k x m).bind fun R => (laws_markRows.f k xs R.1).bind fun Q => some (Q.1, R.2 :: Q.2)) = some (r1, ys) from HA.out)
      obtain ⟨⟨m3, zs⟩, hR, h3⟩ := Option.bind_eq_some_iff.mp h2
      simp only [Option.some.injEq, Prod.mk.injEq] at h3
      obtain ⟨rfl, rfl⟩ := h3
      dsimp only at hR
      obtain ⟨u, hu⟩ : ∃ u, vs[done.length]? = some u := ⟨_, List.getElem?_eq_getElem (by omega)⟩
      have hxj : (done ++ x :: xs)[done.length]? = some x := by simp
      have hRow := HD.out.rows.2 (done.length + 1) u x (show vs[done.length]? = some u from hu) (show (done ++ x :: xs)[done.length]? = some x from hxj)
      obtain ⟨ad, rfl, hc, -, -, -⟩ := HD.out.cells _ u hu
      obtain ⟨Au, cu, rfl⟩ := Kd.R_slice hRow
      have e1 : xi.toNat = done.length := by omega
      rw [← e1] at hc
      have c3 : decide (xi < (l1.length : Int)) = true := decide_eq_true (by omega)
      have P1 := eq_true (show 0 ≤ xi by omega)
      have Q1 := eq_true (show xi < (l1.length : Int) by omega)
      have pw : IntKind.i64.wrap (xi + 1) = xi + 1 := by rw [IntKind.wrap_i64]; omega
      have HU := Aside0.mk hu
      have HXJ := Aside0.mk hxj
      have HROW := Aside0.mk hRow
      have HMC := Aside0.mk hM
      have HR := Aside0.mk hR
      have HPW := Aside0.mk pw
      clear hx hl hm hvl hu hxj hRow hM hR e1 HA h2 pw
      go_wp2_with (fail)
      refine (laws_markCustomerS.calls k (fun k => some k = (Value.slice Au x.length cu).ownBlock) (.slice Au x.length cu) x m m2 y w0 _ HB.out (Kd.R_tight rfl HROW.out) HMC.out).mono ?_
      rintro e w2 ⟨rfl, hy, hb, hkp⟩
      have HD2 := Aside0.mk (HD.out.put1 HU.out HXJ.out hy hkp)
      have HB2 := Aside0.mk hb
      have HK2 := Aside0.mk (Kept.then_ HKP.out hkp (fun k hk => .inl (HROW.out.1 k hk.symm).1))
      clear hy hb hkp hc P1 Q1 c3
      have pw := HPW.out
      go_wp2_with (fail)
      go_roundg (xs.length + 1)
      case measure => have := HK.out; simp at this; omega
      case rel => exact ⟨done ++ [y], xs, zs, m2, xi + 1, rfl, by simp [pw], ⟨by have := HX.out; simp; omega⟩, HR, ⟨by rw [HY.out]; simp⟩, ⟨by have := HL.out; simp at this ⊢; omega⟩, ⟨Nat.lt_succ_self _⟩, ⟨by have := HD2.out; rw [List.set_append_right _ _ (Nat.le_refl _)] at this; simpa using this⟩, HB2, HK2⟩
set_option maxHeartbeats 4000000 in
set_option maxRecDepth 100000 in
theorem laws_markDesk.calls (k : Nat) (A0 : Option Addr) (c0 : Nat) (l0 : List S50) (A1 : Option Addr) (c1 : Nat) (l1 : List (List S50)) (f : Nat → Nat) (vs : List Value) (ok : Nat → Prop) (a1 r1 : Int) (r2 : List S50) (r3 : List (List S50)) (w0 w : World) (hB : Below w0.heap.size w0 w) (hD : DOwn w w0.heap.size ok A0 c0 l0 A1 c1 l1 f vs) (h : laws_markDesk.f k l0 l1 a1 = some (r1, r2, r3)) :
    Calls Try.prog 28 #[.agg #[.slice A0 l0.length c0, .slice A1 l1.length c1], .int .i64 a1] w fun e w' => e = .returned (.int .i64 r1) ∧ DOwn w' w0.heap.size ok A0 c0 r2 A1 c1 r3 f vs ∧ Below w0.heap.size w0 w' ∧ Kept w w' ok ∧ l0.length = r2.length := by
  have hu27 := Try.underlying27
  obtain ⟨⟨m2, y⟩, hM, h2⟩ := Option.bind_eq_some_iff.mp h
  obtain ⟨⟨m3, zs⟩, hR, h3⟩ := Option.bind_eq_some_iff.mp h2
  simp only [Option.some.injEq, Prod.mk.injEq] at h3
  obtain ⟨rfl, rfl, rfl⟩ := h3
  dsimp only at hR
  have HM := Aside0.mk hM
  have HR := Aside0.mk hR
  have HB := Aside0.mk hB
  have HD := Aside0.mk hD
  clear hM hR hB hD h h2
  go_enter Try.func28, Try.ntmps28
  go_wp2_with (fail)
  have B0 := Aside0.mk (below_alloc HB.out (.cells #[.slice A0 l0.length c0, .slice A1 l1.length c1] 27))
  have D0 := Aside0.mk (HD.out.below (below_alloc (Below.refl w.heap.size w) (.cells #[.slice A0 l0.length c0, .slice A1 l1.length c1] 27)))
  have X0 := Aside0.mk (blk_new w (.cells #[.slice A0 l0.length c0, .slice A1 l1.length c1] 27))
  have K0 := Aside0.mk (Kept.of_below (below_alloc (Below.refl w.heap.size w) (.cells #[.slice A0 l0.length c0, .slice A1 l1.length c1] 27)) ok)
  have N0 := Aside0.mk (show ∀ k, k = w.heap.size → ¬ ∃ cells, (w.alloc (.cells #[.slice A0 l0.length c0, .slice A1 l1.length c1] 27)).heap[k]? = some (.cells cells 50 (0, 0)) from fun k hk ⟨cells, hc⟩ => by
    rw [hk, blk_new] at hc
    injection hc with hc
    injection hc with _ ht
    exact absurd ht (by decide))
  refine (laws_markCustomerS.calls k (fun k => some k = (Value.slice A0 l0.length c0).ownBlock) (.slice A0 l0.length c0) l0 a1 m2 y w0 _ B0.out (Kd.R_tight rfl (D0.out.rows.2 0 _ _ rfl rfl)) HM.out).mono ?_
  rintro e w2 ⟨rfl, hy, hb, hkp⟩
  have HLE := Aside0.mk (Kd.R_reads' hy).1
  have HD2 := Aside0.mk (D0.out.put0 hy hkp)
  have HB2 := Aside0.mk hb
  have HK2 := Aside0.mk (Kept.then_ K0.out hkp (fun k hk => .inl ((D0.out.rows.2 0 _ _ rfl rfl).1 k hk.symm).1))
  have X2 := Aside0.mk ((hkp.2 _ (blk_lt X0.out) (fun e => N0.out _ rfl (Kd.R_typed (D0.out.rows.2 0 _ _ rfl rfl) _ e.symm))).trans X0.out)
  clear hy hb hkp
  have hc1 : w2.cell? ⟨w.heap.size, 1, none⟩ = some (.slice A1 l1.length c1) := (blk_cell X2.out 1).trans rfl
  go_wp2_with (fail)
  refine (laws_markCustomerSS.calls k A0 c0 y A1 c1 l1 f vs ok m2 m3 zs w0 _ HB2.out HD2.out HR.out).mono ?_
  rintro e w3 ⟨rfl, hd, hb, hkp⟩
  have HD3 := Aside0.mk hd
  have HB3 := Aside0.mk hb
  have HK3 := Aside0.mk (Kept.then_ HK2.out hkp (fun k hk => .inl hk))
  clear hd hb hkp hc1
  go_wp2
  go_ret
  exact ⟨rfl, HD3.out, HB3.out, HK3.out, HLE.out⟩

/-! ### laws_heldCustomerS: function 53 -/
def laws_heldCustomerS.l0 : Nat → List (S50) → Int → Int → Option (Int)
  | 0, _, _, _ => none
  | k + 1, x0, x1, x5 => if x5 < (x0.length : Int) then (if 0 ≤ x5 then (if ((rd_T50 x0 x5).f0) = x1 then (if ((rd_T50 x0 x5).f1) = (wrap64 (x1 + 1)) then (laws_heldCustomerS.l0 k x0 (wrap64 ((wrap64 (x1 + 1)) + 1)) (wrap64 (x5 + 1))) else (some (-1))) else (some (-1))) else (none)) else (some x1)
def laws_heldCustomerS.f (k : Nat) (l0 : List (S50)) (a1 : Int) : Option (Int) := laws_heldCustomerS.l0 k l0 a1 0
theorem laws_heldCustomerS.mono_l : ∀ k, (∀ y0 y1 y2, LeO (laws_heldCustomerS.l0 k y0 y1 y2) (laws_heldCustomerS.l0 (k + 1) y0 y1 y2))
  | 0 => fun _ _ _ r h => by simp [laws_heldCustomerS.l0] at h
  | k + 1 => by
    have ih0 := laws_heldCustomerS.mono_l k
    · intro y0 y1 y2
      unfold laws_heldCustomerS.l0
      repeat' first
      | (with_reducible exact ih0 _ _ _)
      | (with_reducible exact LeO.refl _)
      | (with_reducible exact LeO.none _)
      | (with_reducible refine LeO.ite ?_ ?_)
      | (with_reducible refine LeO.bind ?_ (fun _ => ?_))
      | exact ih0 _ _ _
      | exact LeO.none _
      | refine LeO.ite ?_ ?_
      | refine LeO.bind ?_ (fun _ => ?_)
theorem laws_heldCustomerS.mono : ∀ a0 a1 k, LeO (laws_heldCustomerS.f k a0 a1) (laws_heldCustomerS.f (k + 1) a0 a1) := by
  intro a0 a1 k
  have ih0 := laws_heldCustomerS.mono_l k
  unfold laws_heldCustomerS.f
  repeat' first
      | (with_reducible exact ih0 _ _ _)
      | (with_reducible exact LeO.refl _)
      | (with_reducible exact LeO.none _)
      | (with_reducible refine LeO.ite ?_ ?_)
      | (with_reducible refine LeO.bind ?_ (fun _ => ?_))
      | exact ih0 _ _ _
      | exact LeO.none _
      | refine LeO.ite ?_ ?_
      | refine LeO.bind ?_ (fun _ => ?_)
set_option maxHeartbeats 8000000 in
set_option maxRecDepth 100000 in
theorem laws_heldCustomerS.calls (k : Nat) (A0 : Option Addr) (c0 : Nat) (l0 : List (S50)) (a1 : Int) (r : Int) (w : World) (hr0 : Kd.C k50 w A0 l0.length l0) (hc0 : l0.length ≤ c0) (h : laws_heldCustomerS.f k l0 a1 = some r) :
    Calls Try.prog 53 #[.slice A0 l0.length c0, .int .i64 a1] w fun e w' => e = .returned (.int .i64 r) ∧ Drawn0 w w' := by
  have HR0 := Aside0.mk hr0
  have HC0 := Aside0.mk hc0
  clear hr0 hc0
  have H : (laws_heldCustomerS.l0 k l0 a1 0) = some r := h
  clear h
  have H' := Aside0.mk H
  clear H
  go_enter Try.func53, Try.ntmps53
  go_wp2
  go_loopg [1, 5] k (fun kq v1 v5 w' => ∃ (x1_1 : Int) (x5_1 : Int), v1 = .int .i64 x1_1 ∧ v5 = .int .i64 x5_1 ∧ Aside0 (laws_heldCustomerS.l0 kq l0 x1_1 x5_1 = some r) ∧ Aside0 (kq ≤ k) ∧ Drawn0 w w')
  case atStart => exact ⟨(a1), (0), (by first | rfl | (simp; done) | (simp [*]; done)), (by first | rfl | (simp; done) | (simp [*]; done)), H', ⟨Nat.le_refl _⟩, by repeat (first | exact Drawn0.refl _ | apply Drawn0.step)⟩
  case round =>
    clear H'
    try clear p2
    obtain ⟨x1_1, x5_1, rfl, rfl, HA, HK1, ⟨m1, rfl⟩⟩ := hrel
    cases gk with
    | zero => exact absurd HA.out (by simp [laws_heldCustomerS.l0])
    | succ k1 =>
      have H := HA.out
      clear HA
      simp only [laws_heldCustomerS.l0] at H
      by_cases c3 : x5_1 < (l0.length : Int)
      · rw [if_pos c3] at H
        have c3b0 : decide (x5_1 < (l0.length : Int)) = true := decide_eq_true c3
        clear c3
        by_cases c4 : 0 ≤ x5_1
        · rw [if_pos c4] at H
          have c4b0 : decide (0 ≤ x5_1) = true := decide_eq_true c4
          clear c4
          by_cases c5 : ((rd_T50 l0 x5_1).f0) = x1_1
          · rw [if_pos c5] at H
            have c5b0 : (((rd_T50 l0 x5_1).f0) == x1_1) = true := beq_iff_eq.mpr c5
            have c5b1 : (((rd_T50 l0 x5_1).f0) != x1_1) = false := bne_eq_false_iff_eq.mpr c5
            clear c5
            by_cases c6 : ((rd_T50 l0 x5_1).f1) = (wrap64 (x1_1 + 1))
            · rw [if_pos c6] at H
              have c6b0 : (((rd_T50 l0 x5_1).f1) == (wrap64 (x1_1 + 1))) = true := beq_iff_eq.mpr c6
              have c6b1 : (((rd_T50 l0 x5_1).f1) != (wrap64 (x1_1 + 1))) = false := bne_eq_false_iff_eq.mpr c6
              clear c6
              have H' := Aside0.mk H
              clear H
              have p147 : 0 ≤ (x5_1 : Int) := of_decide_eq_true (by first | (with_reducible assumption) | assumption)
              have q147 : x5_1 < (l0.length : Int) := of_decide_eq_true (by first | (with_reducible assumption) | assumption)
              obtain ⟨ad147, e147, hx147_0, hx147_1⟩ := at_T50 HR0.out x5_1 p147 q147
              cases e147
              replace p147 := eq_true p147
              replace q147 := eq_true q147
              have p148 : 0 ≤ (x5_1 : Int) := of_decide_eq_true (by first | (with_reducible assumption) | assumption)
              have q148 : x5_1 < (l0.length : Int) := of_decide_eq_true (by first | (with_reducible assumption) | assumption)
              obtain ⟨ad148, e148, hx148_0, hx148_1⟩ := at_T50 HR0.out x5_1 p148 q148
              obtain rfl : ad147 = ad148 := (by injection e148)
              replace p148 := eq_true p148
              replace q148 := eq_true q148
              go_wp2
              go_roundg k1
              case measure => have := HK1.out; omega
              case rel => exact ⟨(wrap64 ((wrap64 (x1_1 + 1)) + 1)), (wrap64 (x5_1 + 1)), (by first | rfl | (simp; done) | (simp [*]; done)), (by first | rfl | (simp; done) | (simp [*]; done)), H', ⟨by have := HK1.out; omega⟩, by repeat (first | exact Drawn0.refl _ | apply Drawn0.step)⟩
            · rw [if_neg c6] at H
              have c6b0 : (((rd_T50 l0 x5_1).f1) == (wrap64 (x1_1 + 1))) = false := beq_eq_false_iff_ne.mpr c6
              have c6b1 : (((rd_T50 l0 x5_1).f1) != (wrap64 (x1_1 + 1))) = true := bne_iff_ne.mpr c6
              obtain rfl := Option.some.inj H
              have p147 : 0 ≤ (x5_1 : Int) := of_decide_eq_true (by first | (with_reducible assumption) | assumption)
              have q147 : x5_1 < (l0.length : Int) := of_decide_eq_true (by first | (with_reducible assumption) | assumption)
              obtain ⟨ad147, e147, hx147_0, hx147_1⟩ := at_T50 HR0.out x5_1 p147 q147
              cases e147
              replace p147 := eq_true p147
              replace q147 := eq_true q147
              have p148 : 0 ≤ (x5_1 : Int) := of_decide_eq_true (by first | (with_reducible assumption) | assumption)
              have q148 : x5_1 < (l0.length : Int) := of_decide_eq_true (by first | (with_reducible assumption) | assumption)
              obtain ⟨ad148, e148, hx148_0, hx148_1⟩ := at_T50 HR0.out x5_1 p148 q148
              obtain rfl : ad147 = ad148 := (by injection e148)
              replace p148 := eq_true p148
              replace q148 := eq_true q148
              go_wp2
              go_ret
              exact ⟨by first | rfl | (simp; done) | (simp [*]; done), by repeat (first | exact Drawn0.refl _ | apply Drawn0.step)⟩
          · rw [if_neg c5] at H
            have c5b0 : (((rd_T50 l0 x5_1).f0) == x1_1) = false := beq_eq_false_iff_ne.mpr c5
            have c5b1 : (((rd_T50 l0 x5_1).f0) != x1_1) = true := bne_iff_ne.mpr c5
            obtain rfl := Option.some.inj H
            have p147 : 0 ≤ (x5_1 : Int) := of_decide_eq_true (by first | (with_reducible assumption) | assumption)
            have q147 : x5_1 < (l0.length : Int) := of_decide_eq_true (by first | (with_reducible assumption) | assumption)
            obtain ⟨ad147, e147, hx147_0, hx147_1⟩ := at_T50 HR0.out x5_1 p147 q147
            cases e147
            replace p147 := eq_true p147
            replace q147 := eq_true q147
            go_wp2
            go_ret
            exact ⟨by first | rfl | (simp; done) | (simp [*]; done), by repeat (first | exact Drawn0.refl _ | apply Drawn0.step)⟩
        · rw [if_neg c4] at H
          exact absurd H (by simp)
      · rw [if_neg c3] at H
        have c3b0 : decide (x5_1 < (l0.length : Int)) = false := decide_eq_false c3
        clear c3
        obtain rfl := Option.some.inj H
        go_wp2
        go_ret
        exact ⟨by first | rfl | (simp; done) | (simp [*]; done), by repeat (first | exact Drawn0.refl _ | apply Drawn0.step)⟩

/-! ### laws_heldCustomerSS: function 54 -/
def laws_heldCustomerSS.l0 : Nat → List (List (S50)) → Int → Int → Option (Int)
  | 0, _, _, _ => none
  | k + 1, x0, x1, x5 => if x5 < (x0.length : Int) then (if 0 ≤ x5 then ((laws_heldCustomerS.f k (rd_L4 x0 x5) x1).bind fun t150 => (if t150 < 0 then (some (-1)) else (laws_heldCustomerSS.l0 k x0 t150 (wrap64 (x5 + 1))))) else (none)) else (some x1)
def laws_heldCustomerSS.f (k : Nat) (l0 : List (List (S50))) (a1 : Int) : Option (Int) := laws_heldCustomerSS.l0 k l0 a1 0
theorem laws_heldCustomerSS.mono_l : ∀ k, (∀ y0 y1 y2, LeO (laws_heldCustomerSS.l0 k y0 y1 y2) (laws_heldCustomerSS.l0 (k + 1) y0 y1 y2))
  | 0 => fun _ _ _ r h => by simp [laws_heldCustomerSS.l0] at h
  | k + 1 => by
    have ih0 := laws_heldCustomerSS.mono_l k
    · intro y0 y1 y2
      unfold laws_heldCustomerSS.l0
      repeat' first
      | (with_reducible exact ih0 _ _ _)
      | (with_reducible exact laws_heldCustomerS.mono _ _ _)
      | (with_reducible exact LeO.refl _)
      | (with_reducible exact LeO.none _)
      | (with_reducible refine LeO.ite ?_ ?_)
      | (with_reducible refine LeO.bind ?_ (fun _ => ?_))
      | exact ih0 _ _ _
      | exact laws_heldCustomerS.mono _ _ _
      | exact LeO.none _
      | refine LeO.ite ?_ ?_
      | refine LeO.bind ?_ (fun _ => ?_)
theorem laws_heldCustomerSS.mono : ∀ a0 a1 k, LeO (laws_heldCustomerSS.f k a0 a1) (laws_heldCustomerSS.f (k + 1) a0 a1) := by
  intro a0 a1 k
  have ih0 := laws_heldCustomerSS.mono_l k
  unfold laws_heldCustomerSS.f
  repeat' first
      | (with_reducible exact ih0 _ _ _)
      | (with_reducible exact laws_heldCustomerS.mono _ _ _)
      | (with_reducible exact LeO.refl _)
      | (with_reducible exact LeO.none _)
      | (with_reducible refine LeO.ite ?_ ?_)
      | (with_reducible refine LeO.bind ?_ (fun _ => ?_))
      | exact ih0 _ _ _
      | exact laws_heldCustomerS.mono _ _ _
      | exact LeO.none _
      | refine LeO.ite ?_ ?_
      | refine LeO.bind ?_ (fun _ => ?_)
set_option maxHeartbeats 8000000 in
set_option maxRecDepth 100000 in
theorem laws_heldCustomerSS.calls (k : Nat) (A0 : Option Addr) (c0 : Nat) (l0 : List (List (S50))) (a1 : Int) (r : Int) (w : World) (hr0 : Kd.C (Kd.slice 50 k50) w A0 l0.length l0) (hc0 : l0.length ≤ c0) (h : laws_heldCustomerSS.f k l0 a1 = some r) :
    Calls Try.prog 54 #[.slice A0 l0.length c0, .int .i64 a1] w fun e w' => e = .returned (.int .i64 r) ∧ Drawn0 w w' := by
  have HR0 := Aside0.mk hr0
  have HC0 := Aside0.mk hc0
  clear hr0 hc0
  have H : (laws_heldCustomerSS.l0 k l0 a1 0) = some r := h
  clear h
  have H' := Aside0.mk H
  clear H
  go_enter Try.func54, Try.ntmps54
  go_wp2
  go_loopg [1, 5] k (fun kq v1 v5 w' => ∃ (x1_1 : Int) (x5_1 : Int), v1 = .int .i64 x1_1 ∧ v5 = .int .i64 x5_1 ∧ Aside0 (laws_heldCustomerSS.l0 kq l0 x1_1 x5_1 = some r) ∧ Aside0 (kq ≤ k) ∧ Drawn0 w w')
  case atStart => exact ⟨(a1), (0), (by first | rfl | (simp; done) | (simp [*]; done)), (by first | rfl | (simp; done) | (simp [*]; done)), H', ⟨Nat.le_refl _⟩, by repeat (first | exact Drawn0.refl _ | apply Drawn0.step)⟩
  case round =>
    clear H'
    try clear p2
    obtain ⟨x1_1, x5_1, rfl, rfl, HA, HK1, ⟨m1, rfl⟩⟩ := hrel
    cases gk with
    | zero => exact absurd HA.out (by simp [laws_heldCustomerSS.l0])
    | succ k1 =>
      have H := HA.out
      clear HA
      simp only [laws_heldCustomerSS.l0] at H
      by_cases c3 : x5_1 < (l0.length : Int)
      · rw [if_pos c3] at H
        have c3b0 : decide (x5_1 < (l0.length : Int)) = true := decide_eq_true c3
        clear c3
        by_cases c4 : 0 ≤ x5_1
        · rw [if_pos c4] at H
          have c4b0 : decide (0 ≤ x5_1) = true := decide_eq_true c4
          clear c4
          replace H := Option.bind_eq_some_iff.mp H
          obtain ⟨t150, A50, H⟩ := H
          replace H : (if t150 < 0 then (some (-1)) else (laws_heldCustomerSS.l0 k1 l0 t150 (wrap64 (x5_1 + 1)))) = some r := H
          have A5 := Aside0.mk A50
          clear A50
          by_cases c6 : t150 < 0
          · rw [if_pos c6] at H
            have c6b0 : decide (t150 < 0) = true := decide_eq_true c6
            clear c6
            obtain rfl := Option.some.inj H
            have p149 : 0 ≤ (x5_1 : Int) := of_decide_eq_true (by first | (with_reducible assumption) | assumption)
            have q149 : x5_1 < (l0.length : Int) := of_decide_eq_true (by first | (with_reducible assumption) | assumption)
            obtain ⟨ad149, A149_0, c149_0, e149, hx149_0, hl149_0, hi149_0⟩ := at_L4 HR0.out x5_1 p149 q149
            cases e149
            have HR149_0 := Aside0.mk hi149_0
            have HC149_0 := Aside0.mk hl149_0
            clear hi149_0 hl149_0
            replace p149 := eq_true p149
            replace q149 := eq_true q149
            go_wp2_with (first | ((with_reducible refine gate_callee (f := 53) rfl ?_); refine goesL_ (some 17) rfl rfl Try.func53 (by kernel_rfl) rfl #[.slice A149_0 (rd_L4 l0 x5_1).length c149_0, .int .i64 x1_1] rfl (by (try simp only [List.map_toArray, List.map_cons, List.map_nil]); first | done | rfl | (simp only [List.length_drop, List.length_take]; rfl)) ?_; (with_reducible refine (laws_heldCustomerS.calls k1 _ _ (rd_L4 l0 x5_1) x1_1 t150 _ ?side1 ?side2 A5.out).mono ?_); (case side1 => repeat (first | exact HR149_0.out | (with_reducible refine Kd.C_alloc ?_ _) | (with_reducible refine Kd.C_drewN ?_ _) | (with_reducible refine Kd.C_drew ?_))); (case side2 => exact HC149_0.out); rintro e w' ⟨rfl, ⟨nd, rfl⟩⟩; refine ⟨_, rfl, ?_⟩))
            go_ret
            exact ⟨by first | rfl | (simp; done) | (simp [*]; done), by repeat (first | exact Drawn0.refl _ | apply Drawn0.step)⟩
          · rw [if_neg c6] at H
            have c6b0 : decide (t150 < 0) = false := decide_eq_false c6
            clear c6
            have H' := Aside0.mk H
            clear H
            have p149 : 0 ≤ (x5_1 : Int) := of_decide_eq_true (by first | (with_reducible assumption) | assumption)
            have q149 : x5_1 < (l0.length : Int) := of_decide_eq_true (by first | (with_reducible assumption) | assumption)
            obtain ⟨ad149, A149_0, c149_0, e149, hx149_0, hl149_0, hi149_0⟩ := at_L4 HR0.out x5_1 p149 q149
            cases e149
            have HR149_0 := Aside0.mk hi149_0
            have HC149_0 := Aside0.mk hl149_0
            clear hi149_0 hl149_0
            replace p149 := eq_true p149
            replace q149 := eq_true q149
            go_wp2_with (first | ((with_reducible refine gate_callee (f := 53) rfl ?_); refine goesL_ (some 17) rfl rfl Try.func53 (by kernel_rfl) rfl #[.slice A149_0 (rd_L4 l0 x5_1).length c149_0, .int .i64 x1_1] rfl (by (try simp only [List.map_toArray, List.map_cons, List.map_nil]); first | done | rfl | (simp only [List.length_drop, List.length_take]; rfl)) ?_; (with_reducible refine (laws_heldCustomerS.calls k1 _ _ (rd_L4 l0 x5_1) x1_1 t150 _ ?side1 ?side2 A5.out).mono ?_); (case side1 => repeat (first | exact HR149_0.out | (with_reducible refine Kd.C_alloc ?_ _) | (with_reducible refine Kd.C_drewN ?_ _) | (with_reducible refine Kd.C_drew ?_))); (case side2 => exact HC149_0.out); rintro e w' ⟨rfl, ⟨nd, rfl⟩⟩; refine ⟨_, rfl, ?_⟩))
            go_roundg k1
            case measure => have := HK1.out; omega
            case rel => exact ⟨(t150), (wrap64 (x5_1 + 1)), (by first | rfl | (simp; done) | (simp [*]; done)), (by first | rfl | (simp; done) | (simp [*]; done)), H', ⟨by have := HK1.out; omega⟩, by repeat (first | exact Drawn0.refl _ | apply Drawn0.step)⟩
        · rw [if_neg c4] at H
          exact absurd H (by simp)
      · rw [if_neg c3] at H
        have c3b0 : decide (x5_1 < (l0.length : Int)) = false := decide_eq_false c3
        clear c3
        obtain rfl := Option.some.inj H
        go_wp2
        go_ret
        exact ⟨by first | rfl | (simp; done) | (simp [*]; done), by repeat (first | exact Drawn0.refl _ | apply Drawn0.step)⟩

/-! ### laws_heldDesk: function 29 -/
def laws_heldDesk.f (k : Nat) (l0_0 : List (S50)) (l0_1 : List (List (S50))) (a1 : Int) : Option (Int) := (laws_heldCustomerS.f k l0_0 a1).bind fun t152 => (if t152 < 0 then (some (-1)) else ((laws_heldCustomerSS.f k l0_1 t152).bind fun t153 => (if t153 < 0 then (some (-1)) else (some t153))))
theorem laws_heldDesk.mono : ∀ a0 a1 a2 k, LeO (laws_heldDesk.f k a0 a1 a2) (laws_heldDesk.f (k + 1) a0 a1 a2) := by
  intro a0 a1 a2 k
  unfold laws_heldDesk.f
  repeat' first
      | (with_reducible exact laws_heldCustomerS.mono _ _ _)
      | (with_reducible exact laws_heldCustomerSS.mono _ _ _)
      | (with_reducible exact LeO.refl _)
      | (with_reducible exact LeO.none _)
      | (with_reducible refine LeO.ite ?_ ?_)
      | (with_reducible refine LeO.bind ?_ (fun _ => ?_))
      | exact laws_heldCustomerS.mono _ _ _
      | exact laws_heldCustomerSS.mono _ _ _
      | exact LeO.none _
      | refine LeO.ite ?_ ?_
      | refine LeO.bind ?_ (fun _ => ?_)
set_option maxHeartbeats 8000000 in
set_option maxRecDepth 100000 in
theorem laws_heldDesk.calls (k : Nat) (A0_0 : Option Addr) (c0_0 : Nat) (l0_0 : List (S50)) (A0_1 : Option Addr) (c0_1 : Nat) (l0_1 : List (List (S50))) (a1 : Int) (r : Int) (w : World) (hr0_0 : Kd.C k50 w A0_0 l0_0.length l0_0) (hc0_0 : l0_0.length ≤ c0_0) (hr0_1 : Kd.C (Kd.slice 50 k50) w A0_1 l0_1.length l0_1) (hc0_1 : l0_1.length ≤ c0_1) (h : laws_heldDesk.f k l0_0 l0_1 a1 = some r) :
    Calls Try.prog 29 #[.agg #[.slice A0_0 l0_0.length c0_0, .slice A0_1 l0_1.length c0_1], .int .i64 a1] w fun e w' => e = .returned (.int .i64 r) ∧ Below w.heap.size w w' := by
  have hu27 := Try.underlying27
  have HR0_0 := Aside0.mk hr0_0
  have HC0_0 := Aside0.mk hc0_0
  clear hr0_0 hc0_0
  have HR0_1 := Aside0.mk hr0_1
  have HC0_1 := Aside0.mk hc0_1
  clear hr0_1 hc0_1
  have HB := Aside0.mk (Below.refl w.heap.size w)
  have H : ((laws_heldCustomerS.f k l0_0 a1).bind fun t152 => (if t152 < 0 then (some (-1)) else ((laws_heldCustomerSS.f k l0_1 t152).bind fun t153 => (if t153 < 0 then (some (-1)) else (some t153))))) = some r := h
  clear h
  replace H := Option.bind_eq_some_iff.mp H
  obtain ⟨t152, A30, H⟩ := H
  replace H : (if t152 < 0 then (some (-1)) else ((laws_heldCustomerSS.f k l0_1 t152).bind fun t153 => (if t153 < 0 then (some (-1)) else (some t153)))) = some r := H
  have A3 := Aside0.mk A30
  clear A30
  by_cases c4 : t152 < 0
  · rw [if_pos c4] at H
    have c4b0 : decide (t152 < 0) = true := decide_eq_true c4
    clear c4
    obtain rfl := Option.some.inj H
    go_enter Try.func29, Try.ntmps29
    go_wp2_with (first | ((with_reducible refine gate_dst (N := 2) rfl ?_); refine box_event ?hg (N := 2) ?hd (cs := #[.slice A0_0 l0_0.length c0_0, .slice A0_1 l0_1.length c0_1]) (t := 27) ?hr ?_; (case hd => rfl); (case hg => rfl); (case hr => first | (go_simp; done) | (go_simp; rfl)); intro gb151 hg w5 hbox hb; have n0_ := Aside0.mk (below_step (by repeat (first | (with_reducible first | exact HB.out | apply below_alloc | apply pw_below_drewN | apply below_drew1) | exact HB.out)) hb); have n1_ := Aside0.mk (hbox); have n2_ := Aside0.mk ((by rw [hg]; exact (below_size (by repeat (first | (with_reducible first | exact HB.out | apply below_alloc | apply pw_below_drewN | apply below_drew1) | exact HB.out))) : w.heap.size ≤ gb151)); have n3_ := Aside0.mk ((by rw [hg]; exact (below_size (by repeat (first | (with_reducible first | exact HB.out | apply below_alloc | apply pw_below_drewN | apply below_drew1) | exact HB.out))) : w.heap.size ≤ gb151)); clear HB; have HB := n0_; have BK151 := n1_; have GW151 := n2_; have GE151 := n3_; clear n0_ n1_ n2_ n3_; clear hb hbox hg; have hcz6_0 : w5.cell? ⟨gb151, 0, none⟩ = some (.slice A0_0 l0_0.length c0_0) := (blk_cell BK151.out 0).trans rfl; have hcz6_1 : w5.cell? ⟨gb151, 1, none⟩ = some (.slice A0_1 l0_1.length c0_1) := (blk_cell BK151.out 1).trans rfl; have hfz6_0 := blk_frozen BK151.out 0; have hfz6_1 := blk_frozen BK151.out 1) | ((with_reducible refine gate_callee (f := 53) rfl ?_); refine goesL_ (some 8) rfl rfl Try.func53 (by kernel_rfl) rfl #[.slice A0_0 l0_0.length c0_0, .int .i64 a1] rfl (by (try simp only [List.map_toArray, List.map_cons, List.map_nil]); first | done | rfl | (simp only [List.length_drop, List.length_take]; rfl)) ?_; (with_reducible refine (laws_heldCustomerS.calls k _ _ l0_0 a1 t152 _ ?side1 ?side2 A3.out).mono ?_); (case side1 => repeat (first | exact (Kd.C_below HR0_0.out HB.out) | (with_reducible refine Kd.C_alloc ?_ _) | (with_reducible refine Kd.C_drewN ?_ _) | (with_reducible refine Kd.C_drew ?_))); (case side2 => exact HC0_0.out); rintro e w' ⟨rfl, ⟨nd, rfl⟩⟩; refine ⟨_, rfl, ?_⟩))
    go_ret
    exact ⟨by first | rfl | (simp [errW_none, errW_some] <;> rfl) | (simp [*, errW_none, errW_some] <;> rfl), by repeat (first | (with_reducible first | exact HB.out | apply below_alloc | apply pw_below_drewN | apply below_drew1 | refine below_set ?_ GE151.out) | exact HB.out)⟩
  · rw [if_neg c4] at H
    have c4b0 : decide (t152 < 0) = false := decide_eq_false c4
    clear c4
    replace H := Option.bind_eq_some_iff.mp H
    obtain ⟨t153, A70, H⟩ := H
    replace H : (if t153 < 0 then (some (-1)) else (some t153)) = some r := H
    have A7 := Aside0.mk A70
    clear A70
    by_cases c8 : t153 < 0
    · rw [if_pos c8] at H
      have c8b0 : decide (t153 < 0) = true := decide_eq_true c8
      clear c8
      obtain rfl := Option.some.inj H
      go_enter Try.func29, Try.ntmps29
      go_wp2_with (first | ((with_reducible refine gate_dst (N := 2) rfl ?_); refine box_event ?hg (N := 2) ?hd (cs := #[.slice A0_0 l0_0.length c0_0, .slice A0_1 l0_1.length c0_1]) (t := 27) ?hr ?_; (case hd => rfl); (case hg => rfl); (case hr => first | (go_simp; done) | (go_simp; rfl)); intro gb151 hg w9 hbox hb; have n0_ := Aside0.mk (below_step (by repeat (first | (with_reducible first | exact HB.out | apply below_alloc | apply pw_below_drewN | apply below_drew1) | exact HB.out)) hb); have n1_ := Aside0.mk (hbox); have n2_ := Aside0.mk ((by rw [hg]; exact (below_size (by repeat (first | (with_reducible first | exact HB.out | apply below_alloc | apply pw_below_drewN | apply below_drew1) | exact HB.out))) : w.heap.size ≤ gb151)); have n3_ := Aside0.mk ((by rw [hg]; exact (below_size (by repeat (first | (with_reducible first | exact HB.out | apply below_alloc | apply pw_below_drewN | apply below_drew1) | exact HB.out))) : w.heap.size ≤ gb151)); clear HB; have HB := n0_; have BK151 := n1_; have GW151 := n2_; have GE151 := n3_; clear n0_ n1_ n2_ n3_; clear hb hbox hg; have hcz10_0 : w9.cell? ⟨gb151, 0, none⟩ = some (.slice A0_0 l0_0.length c0_0) := (blk_cell BK151.out 0).trans rfl; have hcz10_1 : w9.cell? ⟨gb151, 1, none⟩ = some (.slice A0_1 l0_1.length c0_1) := (blk_cell BK151.out 1).trans rfl; have hfz10_0 := blk_frozen BK151.out 0; have hfz10_1 := blk_frozen BK151.out 1) | ((with_reducible refine gate_callee (f := 53) rfl ?_); refine goesL_ (some 8) rfl rfl Try.func53 (by kernel_rfl) rfl #[.slice A0_0 l0_0.length c0_0, .int .i64 a1] rfl (by (try simp only [List.map_toArray, List.map_cons, List.map_nil]); first | done | rfl | (simp only [List.length_drop, List.length_take]; rfl)) ?_; (with_reducible refine (laws_heldCustomerS.calls k _ _ l0_0 a1 t152 _ ?side1 ?side2 A3.out).mono ?_); (case side1 => repeat (first | exact (Kd.C_below HR0_0.out HB.out) | (with_reducible refine Kd.C_alloc ?_ _) | (with_reducible refine Kd.C_drewN ?_ _) | (with_reducible refine Kd.C_drew ?_))); (case side2 => exact HC0_0.out); rintro e w' ⟨rfl, ⟨nd, rfl⟩⟩; refine ⟨_, rfl, ?_⟩) | ((with_reducible refine gate_callee (f := 54) rfl ?_); refine goesL_ (some 14) rfl rfl Try.func54 (by kernel_rfl) rfl #[.slice A0_1 l0_1.length c0_1, .int .i64 t152] rfl (by (try simp only [List.map_toArray, List.map_cons, List.map_nil]); first | done | rfl | (simp only [List.length_drop, List.length_take]; rfl)) ?_; (with_reducible refine (laws_heldCustomerSS.calls k _ _ l0_1 t152 t153 _ ?side1 ?side2 A7.out).mono ?_); (case side1 => repeat (first | exact (Kd.C_below HR0_1.out (by repeat (first | (with_reducible first | exact HB.out | apply below_alloc | apply pw_below_drewN | apply below_drew1 | refine below_set ?_ GE151.out) | exact HB.out))) | (with_reducible refine Kd.C_alloc ?_ _) | (with_reducible refine Kd.C_drewN ?_ _) | (with_reducible refine Kd.C_drew ?_))); (case side2 => exact HC0_1.out); rintro e w' ⟨rfl, ⟨nd, rfl⟩⟩; refine ⟨_, rfl, ?_⟩))
      go_ret
      exact ⟨by first | rfl | (simp [errW_none, errW_some] <;> rfl) | (simp [*, errW_none, errW_some] <;> rfl), by repeat (first | (with_reducible first | exact HB.out | apply below_alloc | apply pw_below_drewN | apply below_drew1 | refine below_set ?_ GE151.out) | exact HB.out)⟩
    · rw [if_neg c8] at H
      have c8b0 : decide (t153 < 0) = false := decide_eq_false c8
      clear c8
      obtain rfl := Option.some.inj H
      go_enter Try.func29, Try.ntmps29
      go_wp2_with (first | ((with_reducible refine gate_dst (N := 2) rfl ?_); refine box_event ?hg (N := 2) ?hd (cs := #[.slice A0_0 l0_0.length c0_0, .slice A0_1 l0_1.length c0_1]) (t := 27) ?hr ?_; (case hd => rfl); (case hg => rfl); (case hr => first | (go_simp; done) | (go_simp; rfl)); intro gb151 hg w11 hbox hb; have n0_ := Aside0.mk (below_step (by repeat (first | (with_reducible first | exact HB.out | apply below_alloc | apply pw_below_drewN | apply below_drew1) | exact HB.out)) hb); have n1_ := Aside0.mk (hbox); have n2_ := Aside0.mk ((by rw [hg]; exact (below_size (by repeat (first | (with_reducible first | exact HB.out | apply below_alloc | apply pw_below_drewN | apply below_drew1) | exact HB.out))) : w.heap.size ≤ gb151)); have n3_ := Aside0.mk ((by rw [hg]; exact (below_size (by repeat (first | (with_reducible first | exact HB.out | apply below_alloc | apply pw_below_drewN | apply below_drew1) | exact HB.out))) : w.heap.size ≤ gb151)); clear HB; have HB := n0_; have BK151 := n1_; have GW151 := n2_; have GE151 := n3_; clear n0_ n1_ n2_ n3_; clear hb hbox hg; have hcz12_0 : w11.cell? ⟨gb151, 0, none⟩ = some (.slice A0_0 l0_0.length c0_0) := (blk_cell BK151.out 0).trans rfl; have hcz12_1 : w11.cell? ⟨gb151, 1, none⟩ = some (.slice A0_1 l0_1.length c0_1) := (blk_cell BK151.out 1).trans rfl; have hfz12_0 := blk_frozen BK151.out 0; have hfz12_1 := blk_frozen BK151.out 1) | ((with_reducible refine gate_callee (f := 53) rfl ?_); refine goesL_ (some 8) rfl rfl Try.func53 (by kernel_rfl) rfl #[.slice A0_0 l0_0.length c0_0, .int .i64 a1] rfl (by (try simp only [List.map_toArray, List.map_cons, List.map_nil]); first | done | rfl | (simp only [List.length_drop, List.length_take]; rfl)) ?_; (with_reducible refine (laws_heldCustomerS.calls k _ _ l0_0 a1 t152 _ ?side1 ?side2 A3.out).mono ?_); (case side1 => repeat (first | exact (Kd.C_below HR0_0.out HB.out) | (with_reducible refine Kd.C_alloc ?_ _) | (with_reducible refine Kd.C_drewN ?_ _) | (with_reducible refine Kd.C_drew ?_))); (case side2 => exact HC0_0.out); rintro e w' ⟨rfl, ⟨nd, rfl⟩⟩; refine ⟨_, rfl, ?_⟩) | ((with_reducible refine gate_callee (f := 54) rfl ?_); refine goesL_ (some 14) rfl rfl Try.func54 (by kernel_rfl) rfl #[.slice A0_1 l0_1.length c0_1, .int .i64 t152] rfl (by (try simp only [List.map_toArray, List.map_cons, List.map_nil]); first | done | rfl | (simp only [List.length_drop, List.length_take]; rfl)) ?_; (with_reducible refine (laws_heldCustomerSS.calls k _ _ l0_1 t152 t153 _ ?side1 ?side2 A7.out).mono ?_); (case side1 => repeat (first | exact (Kd.C_below HR0_1.out (by repeat (first | (with_reducible first | exact HB.out | apply below_alloc | apply pw_below_drewN | apply below_drew1 | refine below_set ?_ GE151.out) | exact HB.out))) | (with_reducible refine Kd.C_alloc ?_ _) | (with_reducible refine Kd.C_drewN ?_ _) | (with_reducible refine Kd.C_drew ?_))); (case side2 => exact HC0_1.out); rintro e w' ⟨rfl, ⟨nd, rfl⟩⟩; refine ⟨_, rfl, ?_⟩))
      go_ret
      exact ⟨by first | rfl | (simp [errW_none, errW_some] <;> rfl) | (simp [*, errW_none, errW_some] <;> rfl), by repeat (first | (with_reducible first | exact HB.out | apply below_alloc | apply pw_below_drewN | apply below_drew1 | refine below_set ?_ GE151.out) | exact HB.out)⟩

end Go.Proofs.Ytocnifoohecmeaa.PFnExactDeskRun
