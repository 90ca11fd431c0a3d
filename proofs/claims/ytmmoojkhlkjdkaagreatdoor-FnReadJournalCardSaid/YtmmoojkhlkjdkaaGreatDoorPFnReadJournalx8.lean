-- Printed by this claim's own program; Lean checks it.
import Derived.Test.YtmmoojkhlkjdkaaGreatDoorShelfFnReadJournal
import Derived.Test.YtmmoojkhlkjdkaaGreatDoorPFnReadJournalx0
import Derived.Test.YtmmoojkhlkjdkaaGreatDoorPFnReadJournalx3
import Derived.Test.YtmmoojkhlkjdkaaGreatDoorPFnReadJournalx5
import Derived.Test.YtmmoojkhlkjdkaaGreatDoorPFnReadJournalx7
namespace Go.Proofs.YtmmoojkhlkjdkaaGreatDoor.PFnReadJournal
open Go.RowKit Go.Proofs.YtmmoojkhlkjdkaaGreatDoorW.PrintWords Go.Proofs.YtmmoojkhlkjdkaaGreatDoorW.PrintLast Go.Proofs.YtmmoojkhlkjdkaaGreatDoorW.PrintMore
attribute [local go_sem] max2_int min2_int max_two min_two max_three min_three max_four min_four   -- for this text's walks alone
set_option linter.unusedVariables false
set_option linter.unusedSimpArgs false

/-! ### spec_l20Spoil: function 42 -/
def spec_l20Spoil.f (k : Nat) (s0_0 : List Int) (s0_1 : Int) (a1 : ByteArray) : Option (ByteArray × Int) := if (a1.size : Int) = 0 then (some ((⟨#[10]⟩ : ByteArray), s0_1)) else ((spec_l20Rd_pick.f k s0_0 s0_1 (a1.size : Int)).bind fun bt230 => (if 0 ≤ bt230.1 then (if bt230.1 ≤ (a1.size : Int) then ((some (([(⟨#[]⟩ : ByteArray), (⟨#[48]⟩ : ByteArray), (⟨#[32]⟩ : ByteArray), (⟨#[10]⟩ : ByteArray), (⟨#[45]⟩ : ByteArray), (⟨#[98, 97, 99, 107]⟩ : ByteArray)] : List ByteArray) : List ByteArray)).bind fun y232 => ((spec_l20Rd_pick.f k s0_0 bt230.2 6).bind fun bt235 => (if 0 ≤ bt235.1 then (if bt235.1 < (y232.length : Int) then (if (a1.extract 0 (bt230.1 : Int).toNat).size + (rdOf ByteArray.empty y232 bt235.1).size ≤ 9223372036854775807 then (if 0 ≤ (wrap64 (bt230.1 + 1)) then (if (wrap64 (bt230.1 + 1)) ≤ (a1.size : Int) then (if ((a1.extract 0 (bt230.1 : Int).toNat) ++ (rdOf ByteArray.empty y232 bt235.1)).size + (a1.extract ((wrap64 (bt230.1 + 1)) : Int).toNat a1.size).size ≤ 9223372036854775807 then (some (((a1.extract 0 (bt230.1 : Int).toNat) ++ (rdOf ByteArray.empty y232 bt235.1)) ++ (a1.extract ((wrap64 (bt230.1 + 1)) : Int).toNat a1.size), bt235.2)) else (none)) else (none)) else (none)) else (none)) else (none)) else (none)))) else (none)) else (none)))
def spec_l20Spoil.T4 : Bool × List (List Nat × List Nat) := (true, [([], []), ([], []), ([0, 1], [0, 1]), ([], []), ([], []), ([4], [4]), ([3, 5], [3, 5]), ([6], [6]), ([2, 7], [2, 7]), ([], []), ([], []), ([10], [10]), ([9, 11], [9, 11]), ([8, 12], [8, 12]), ([13, 5, 0, 1, 2, 3, 4, 5, 6, 7, 8, 9, 10, 11, 12, 13], [13])])
def spec_l20Spoil.B4 : List Nat := [0, 0, 3, 0, 0, 16, 56, 120, 255, 0, 0, 1024, 3584, 8191, 16383]
theorem spec_l20Spoil.tab4 : rtab .any (opsOf Tryz.f42 4) = spec_l20Spoil.T4 := by kernel_rfl
theorem spec_l20Spoil.bits4 : waitsOk spec_l20Spoil.T4.2 spec_l20Spoil.B4 = true := by kernel_rfl
set_option maxHeartbeats 8000000 in
set_option maxRecDepth 100000 in
theorem spec_l20Spoil.calls (k : Nat) (g : Nat) (s0_0 : List Int) (s0_1 : Int) (a1 : ByteArray) (r1 : ByteArray) (r2 : Int) (w0 w : World) (hI : IsS104 w0 w g s0_0 s0_1) (hB : Below w0.heap.size w0 w) (h : spec_l20Spoil.f k s0_0 s0_1 a1 = some (r1, r2)) :
 Calls Tryz.prog 42 #[.pointer (some ⟨g, 0, none⟩), .string a1] w fun e w' => e = .returned (.string r1) ∧ IsS104 w0 w' g s0_0 r2 ∧ Below w0.heap.size w0 w' ∧ KeepBut w w' g none := by
 have HI0 := Aside0.mk hI
 have HK := Aside0.mk (KeepBut.refl w g none)
 have HL := Aside0.mk hB.size
 clear hI
 have HW0 := Aside0.mk hB.size
 have HB := Aside0.mk hB
 clear hB
 have H : (if (a1.size : Int) = 0 then (some ((⟨#[10]⟩ : ByteArray), s0_1)) else ((spec_l20Rd_pick.f k s0_0 s0_1 (a1.size : Int)).bind fun bt230 => (if 0 ≤ bt230.1 then (if bt230.1 ≤ (a1.size : Int) then ((some (([(⟨#[]⟩ : ByteArray), (⟨#[48]⟩ : ByteArray), (⟨#[32]⟩ : ByteArray), (⟨#[10]⟩ : ByteArray), (⟨#[45]⟩ : ByteArray), (⟨#[98, 97, 99, 107]⟩ : ByteArray)] : List ByteArray) : List ByteArray)).bind fun y232 => ((spec_l20Rd_pick.f k s0_0 bt230.2 6).bind fun bt235 => (if 0 ≤ bt235.1 then (if bt235.1 < (y232.length : Int) then (if (a1.extract 0 (bt230.1 : Int).toNat).size + (rdOf ByteArray.empty y232 bt235.1).size ≤ 9223372036854775807 then (if 0 ≤ (wrap64 (bt230.1 + 1)) then (if (wrap64 (bt230.1 + 1)) ≤ (a1.size : Int) then (if ((a1.extract 0 (bt230.1 : Int).toNat) ++ (rdOf ByteArray.empty y232 bt235.1)).size + (a1.extract ((wrap64 (bt230.1 + 1)) : Int).toNat a1.size).size ≤ 9223372036854775807 then (some (((a1.extract 0 (bt230.1 : Int).toNat) ++ (rdOf ByteArray.empty y232 bt235.1)) ++ (a1.extract ((wrap64 (bt230.1 + 1)) : Int).toNat a1.size), bt235.2)) else (none)) else (none)) else (none)) else (none)) else (none)) else (none)))) else (none)) else (none)))) = some (r1, r2) := h
 clear h
 by_cases c3 : (a1.size : Int) = 0
 ·rw [if_pos c3] at H
  have c3b0 : ((a1.size : Int) == 0) = true := beq_iff_eq.mpr c3
  have c3b1 : ((a1.size : Int) != 0) = false := bne_eq_false_iff_eq.mpr c3
  clear c3
  simp only [Option.some.injEq, Prod.mk.injEq] at H
  obtain ⟨rfl, rfl⟩ := H
  go_enter Tryz.func42, Tryz.ntmps42
  go_wp2
  go_ret
  exact ⟨Z11, Z6 HI0, Z7 HB HI0, Z8 HK⟩
 ·rw [if_neg c3] at H
  have c3b0 : ((a1.size : Int) == 0) = false := beq_eq_false_iff_ne.mpr c3
  have c3b1 : ((a1.size : Int) != 0) = true := bne_iff_ne.mpr c3
  replace H := Option.bind_eq_some_iff.mp H
  obtain ⟨⟨t230, t231⟩, A40, H⟩ := H
  replace H : (if 0 ≤ t230 then (if t230 ≤ (a1.size : Int) then ((some (([(⟨#[]⟩ : ByteArray), (⟨#[48]⟩ : ByteArray), (⟨#[32]⟩ : ByteArray), (⟨#[10]⟩ : ByteArray), (⟨#[45]⟩ : ByteArray), (⟨#[98, 97, 99, 107]⟩ : ByteArray)] : List ByteArray) : List ByteArray)).bind fun y232 => ((spec_l20Rd_pick.f k s0_0 t231 6).bind fun bt235 => (if 0 ≤ bt235.1 then (if bt235.1 < (y232.length : Int) then (if (a1.extract 0 (t230 : Int).toNat).size + (rdOf ByteArray.empty y232 bt235.1).size ≤ 9223372036854775807 then (if 0 ≤ (wrap64 (t230 + 1)) then (if (wrap64 (t230 + 1)) ≤ (a1.size : Int) then (if ((a1.extract 0 (t230 : Int).toNat) ++ (rdOf ByteArray.empty y232 bt235.1)).size + (a1.extract ((wrap64 (t230 + 1)) : Int).toNat a1.size).size ≤ 9223372036854775807 then (some (((a1.extract 0 (t230 : Int).toNat) ++ (rdOf ByteArray.empty y232 bt235.1)) ++ (a1.extract ((wrap64 (t230 + 1)) : Int).toNat a1.size), bt235.2)) else (none)) else (none)) else (none)) else (none)) else (none)) else (none)))) else (none)) else (none)) = some (r1, r2) := H
  have A4 := Aside0.mk A40
  clear A40
  by_cases c5 : 0 ≤ t230
  ·rw [if_pos c5] at H
   have c5b0 := eq_true c5
   have c5b1 : decide (0 ≤ t230) = true := decide_eq_true c5
   clear c5
   by_cases c6 : t230 ≤ (a1.size : Int)
   ·rw [if_pos c6] at H
    have c6b0 := eq_true c6
    have c6b1 : decide (t230 ≤ (a1.size : Int)) = true := decide_eq_true c6
    clear c6
    obtain ⟨y232, hy232⟩ : ∃ y_ : List ByteArray, y_ = (([(⟨#[]⟩ : ByteArray), (⟨#[48]⟩ : ByteArray), (⟨#[32]⟩ : ByteArray), (⟨#[10]⟩ : ByteArray), (⟨#[45]⟩ : ByteArray), (⟨#[98, 97, 99, 107]⟩ : ByteArray)] : List ByteArray)) := ⟨_, rfl⟩
    replace H : ((spec_l20Rd_pick.f k s0_0 t231 6).bind fun bt235 => (if 0 ≤ bt235.1 then (if bt235.1 < (y232.length : Int) then (if (a1.extract 0 (t230 : Int).toNat).size + (rdOf ByteArray.empty y232 bt235.1).size ≤ 9223372036854775807 then (if 0 ≤ (wrap64 (t230 + 1)) then (if (wrap64 (t230 + 1)) ≤ (a1.size : Int) then (if ((a1.extract 0 (t230 : Int).toNat) ++ (rdOf ByteArray.empty y232 bt235.1)).size + (a1.extract ((wrap64 (t230 + 1)) : Int).toNat a1.size).size ≤ 9223372036854775807 then (some (((a1.extract 0 (t230 : Int).toNat) ++ (rdOf ByteArray.empty y232 bt235.1)) ++ (a1.extract ((wrap64 (t230 + 1)) : Int).toNat a1.size), bt235.2)) else (none)) else (none)) else (none)) else (none)) else (none)) else (none))) = some (r1, r2) := Z5 hy232
    have Ny232 := Aside0.mk hy232
    clear hy232
    replace H := Option.bind_eq_some_iff.mp H
    obtain ⟨⟨t235, t236⟩, A70, H⟩ := H
    replace H : (if 0 ≤ t235 then (if t235 < (y232.length : Int) then (if (a1.extract 0 (t230 : Int).toNat).size + (rdOf ByteArray.empty y232 t235).size ≤ 9223372036854775807 then (if 0 ≤ (wrap64 (t230 + 1)) then (if (wrap64 (t230 + 1)) ≤ (a1.size : Int) then (if ((a1.extract 0 (t230 : Int).toNat) ++ (rdOf ByteArray.empty y232 t235)).size + (a1.extract ((wrap64 (t230 + 1)) : Int).toNat a1.size).size ≤ 9223372036854775807 then (some (((a1.extract 0 (t230 : Int).toNat) ++ (rdOf ByteArray.empty y232 t235)) ++ (a1.extract ((wrap64 (t230 + 1)) : Int).toNat a1.size), t236)) else (none)) else (none)) else (none)) else (none)) else (none)) else (none)) = some (r1, r2) := H
    have A7 := Aside0.mk A70
    clear A70
    by_cases c8 : 0 ≤ t235
    ·rw [if_pos c8] at H
     have c8b0 : decide (0 ≤ t235) = true := decide_eq_true c8
     clear c8
     by_cases c9 : t235 < (y232.length : Int)
     ·rw [if_pos c9] at H
      have c9b0 : decide (t235 < (y232.length : Int)) = true := decide_eq_true c9
      clear c9
      by_cases c10 : (a1.extract 0 (t230 : Int).toNat).size + (rdOf ByteArray.empty y232 t235).size ≤ 9223372036854775807
      ·rw [if_pos c10] at H
       have c10b0 := eq_true c10
       have c10b1 : decide ((a1.extract 0 (t230 : Int).toNat).size + (rdOf ByteArray.empty y232 t235).size ≤ 9223372036854775807) = true := decide_eq_true c10
       try have c10b2 : (9223372036854775807 < (a1.extract 0 (t230 : Int).toNat).size + (rdOf ByteArray.empty y232 t235).size) = False := eq_false (Nat.not_lt.2 c10)
       obtain ⟨ji11, hji11⟩ : ∃ j_ : Int, (wrap64 (t230 + 1)) = j_ := ⟨_, rfl⟩
       replace H : (if 0 ≤ (ji11) then (if (ji11) ≤ (a1.size : Int) then (if ((a1.extract 0 (t230 : Int).toNat) ++ (rdOf ByteArray.empty y232 t235)).size + (a1.extract ((ji11) : Int).toNat a1.size).size ≤ 9223372036854775807 then (some (((a1.extract 0 (t230 : Int).toNat) ++ (rdOf ByteArray.empty y232 t235)) ++ (a1.extract ((ji11) : Int).toNat a1.size), t236)) else (none)) else (none)) else (none)) = some (r1, r2) := Z54 hji11
       (try rw [hji11] at A4)
       (try rw [hji11] at A7)
       have hji11w : (IntKind.i64.wrap (t230 + 1)) = ji11 := (i64_w _).trans hji11
       by_cases c12 : 0 ≤ (ji11)
       ·rw [if_pos c12] at H
        have c12b0 := eq_true c12
        have c12b1 : decide (0 ≤ (ji11)) = true := decide_eq_true c12
        clear c12
        by_cases c13 : (ji11) ≤ (a1.size : Int)
        ·rw [if_pos c13] at H
         have c13b0 := eq_true c13
         have c13b1 : decide ((ji11) ≤ (a1.size : Int)) = true := decide_eq_true c13
         clear c13
         by_cases c14 : ((a1.extract 0 (t230 : Int).toNat) ++ (rdOf ByteArray.empty y232 t235)).size + (a1.extract ((ji11) : Int).toNat a1.size).size ≤ 9223372036854775807
         ·rw [if_pos c14] at H
          have c14b0 := eq_true c14
          have c14b1 : decide (((a1.extract 0 (t230 : Int).toNat) ++ (rdOf ByteArray.empty y232 t235)).size + (a1.extract ((ji11) : Int).toNat a1.size).size ≤ 9223372036854775807) = true := decide_eq_true c14
          try have c14b2 : (9223372036854775807 < ((a1.extract 0 (t230 : Int).toNat) ++ (rdOf ByteArray.empty y232 t235)).size + (a1.extract ((ji11) : Int).toNat a1.size).size) = False := eq_false (Nat.not_lt.2 c14)
          try have c14b3 : (9223372036854775807 < a1.size) = False := eq_false (Nat.not_lt.2 (by have h_ := c14; simp only [ByteArray.size_append] at h_; exact h_))
          simp only [Option.some.injEq, Prod.mk.injEq] at H
          obtain ⟨rfl, rfl⟩ := H
          go_enter Tryz.func42, Tryz.ntmps42
          try go_wp2_with (first | ((with_reducible refine gate_callee (f := 41) rfl ?_); refine gL_ 12 Tryz.func41 #[.pointer (some ⟨g, 0, none⟩), .int .i64 (a1.size : Int)] ?_; (with_reducible refine (spec_l20Rd_pick.calls k g s0_0 s0_1 (a1.size : Int) t230 t231 w0 _ ?side1 ?side2 A4.out).mono ?_); (case side1 => exact Z6 HI0); (case side2 => exact Z96); rintro e w15 ⟨rfl, hi, hb, hk⟩; refine ⟨_, rfl, ?_⟩; replace HK := Aside0.mk (KeepBut.trans (Z8 HK) hk (.inl rfl)); replace HB := Aside0.mk (hb); replace HI0 := Aside0.mk (hi); (try clear hb); (try clear hk); (try clear hi)))
          have pi237 : (0 ≤ (t235 : Int)) = True := eq_true (of_decide_eq_true Z10)
          have qi237 : (t235 < (y232.length : Int)) = True := eq_true (of_decide_eq_true Z10)
          replace HI0 := Aside0.mk (IsS104.drew HI0.out)
          replace HK := Aside0.mk (keep_drew HK.out)
          replace HB := Aside0.mk (below_drew1 HB.out)
          refine start_ (n := 15) (S := fun w' => True) (ds := []) (bB 15 0) Z15 rfl Z15 trivial (fun hHeld => ?_); refine with_tabW spec_l20Spoil.tab4 spec_l20Spoil.bits4 (fun HT_ HW_ => ?_)
          generalize w15.drew = w16 at HI0 HK HB hHeld ⊢
          refine pu_ 0 (some 13) (bB 15 1) ?_
          refine pu_ 1 (some 14) (bB 15 3) ?_
          refine pu_ 4 (some 17) (bB 15 19) ?_
          refine pu_ 9 (some 22) (bB 15 531) ?_
          refine pu_ 10 (some 23) (bB 15 1555) ?_
          refine inv_at [2, 3, 5, 6, 7, 8, 11, 12, 13, 14] (fun a0_ b a w' => ∃ (v233 : Value) (adz_v233 : Addr) (m6_ : Value), a = putSel a0_ b [(2, 15, .string (a1.extract 0 (t230 : Int).toNat)), (3, 16, v233), (5, 18, .int .i64 t235), (6, 19, m6_), (7, 20, .string (rdOf ByteArray.empty y232 t235)), (8, 21, .string ((a1.extract 0 (t230 : Int).toNat) ++ (rdOf ByteArray.empty y232 t235))), (11, 24, .int .i64 ji11), (12, 25, .string (a1.extract ((ji11) : Int).toNat a1.size)), (13, 26, .string (((a1.extract 0 (t230 : Int).toNat) ++ (rdOf ByteArray.empty y232 t235)) ++ (a1.extract ((ji11) : Int).toNat a1.size))), (14, 4, .string (((a1.extract 0 (t230 : Int).toNat) ++ (rdOf ByteArray.empty y232 t235)) ++ (a1.extract ((ji11) : Int).toNat a1.size)))] ∧ (b 5 = false → IsS104 w0 w' g s0_0 t231) ∧ (KeepBut w w' g none) ∧ (Below w0.heap.size w0 w') ∧ (b 3 = true → Kd.R Kd.string 9 w' w.heap.size (fun _ => True) v233 y232) ∧ (b 3 = true → ∃ c_, (v233 : Value) = .slice (some adz_v233) y232.length c_) ∧ (b 5 = true → IsS104 w0 w' g s0_0 t236) ∧ (b 6 = true → (m6_ : Value) = .pointer (some (adz_v233.add (t235).toNat)))) HT_.out HW_.out Z15 Z15 ?_ ?_ ?_
          ·exact ⟨.bool false, ⟨0, 0, none⟩, .bool false, by simp only [putSel, Bool.false_eq_true, if_false], fun _ => HI0.out, HK.out, HB.out, fun h_ => absurd h_ Z28, fun h_ => absurd h_ Z28, fun h_ => absurd h_ Z28, fun h_ => absurd h_ Z28⟩
          ·skip
           clear HB HI0 HK
           refine steps_cons ?_ ?_
           ·rintro b a w' ⟨v233, adz_v233, m6_, ha, Q_HI0, Q_HK, Q_HB, Q_HO234, Q_HA_HO234, Q_HI0_e5, Q_X6_⟩ hb_ hon hoff
            refine ⟨_, rfl, fun K hK => ?_⟩
            have e13 : a.tmps[13]? = some (.string a1) := Z76
            have e14 : a.tmps[14]? = some (.int .i64 t230) := Z76
            replace ha := Aside0.mk ha
            have HK := Aside0.mk Q_HK
            have HB := Aside0.mk Q_HB
            refine value_ (w1 := w') (v := .string (a1.extract 0 (t230 : Int).toNat)) Z90 rfl ?_ ?_
            ·go_simp
             (try simp only [i64_w])
             try rfl
             (try (have h1_ := of_eq_true c6b0; first | (have h2_ := c10; rw [ByteArray.size_extract] at h2_; omega) | (have h2_ := c14; rw [ByteArray.size_append, ByteArray.size_extract, ByteArray.size_extract] at h2_; omega)))
            refine hK.out _ _ ⟨v233, adz_v233, m6_, (by rw [ha.out]; exact putSel_upk 0 hb_ rfl rfl rfl), Q_HI0, Q_HK, Q_HB, Q_HO234, Q_HA_HO234, Q_HI0_e5, Q_X6_⟩
           refine steps_cons ?_ ?_
           ·rintro b a w' ⟨v233, adz_v233, m6_, ha, Q_HI0, Q_HK, Q_HB, Q_HO234, Q_HA_HO234, Q_HI0_e5, Q_X6_⟩ hb_ hon hoff
            refine ⟨_, rfl, fun K hK => ?_⟩
            replace ha := Aside0.mk ha
            have HK := Aside0.mk Q_HK
            have HB := Aside0.mk Q_HB
            refine Kd.R_lit_step Kd.string _ 9 ?hg (N := 16) ?hd (xs := ([(⟨#[]⟩ : ByteArray), (⟨#[48]⟩ : ByteArray), (⟨#[32]⟩ : ByteArray), (⟨#[10]⟩ : ByteArray), (⟨#[45]⟩ : ByteArray), (⟨#[98, 97, 99, 107]⟩ : ByteArray)] : List ByteArray)) (inner := [.string (⟨#[]⟩ : ByteArray), .string (⟨#[48]⟩ : ByteArray), .string (⟨#[32]⟩ : ByteArray), .string (⟨#[10]⟩ : ByteArray), .string (⟨#[45]⟩ : ByteArray), .string (⟨#[98, 97, 99, 107]⟩ : ByteArray)]) (ok := fun _ => True) (okp := fun _ => True) ?hr ?hp (fun _ hk => hk) trivial (Below.refl _ _) (Nat.le_refl _) Z33 ?_; (case hd => exact Z90); (case hg => exact Z90); (case hr => exact Z29); (case hp => exact (Reps.one (show Kd.M Kd.string _ _ _ (⟨#[]⟩ : ByteArray) [.string (⟨#[]⟩ : ByteArray)] from rfl) (Reps.one (show Kd.M Kd.string _ _ _ (⟨#[48]⟩ : ByteArray) [.string (⟨#[48]⟩ : ByteArray)] from rfl) (Reps.one (show Kd.M Kd.string _ _ _ (⟨#[32]⟩ : ByteArray) [.string (⟨#[32]⟩ : ByteArray)] from rfl) (Reps.one (show Kd.M Kd.string _ _ _ (⟨#[10]⟩ : ByteArray) [.string (⟨#[10]⟩ : ByteArray)] from rfl) (Reps.one (show Kd.M Kd.string _ _ _ (⟨#[45]⟩ : ByteArray) [.string (⟨#[45]⟩ : ByteArray)] from rfl) (Reps.one (show Kd.M Kd.string _ _ _ (⟨#[98, 97, 99, 107]⟩ : ByteArray) [.string (⟨#[98, 97, 99, 107]⟩ : ByteArray)] from rfl) (Reps.none _ _))))))))
            intro v233 w17 ho18 hb hg_ hnew_
            clear hg_ hnew_
            (first | rw [← Ny232.out] at ho18 | (simp only [Int.reduceToNat] at ho18; rw [← Ny232.out] at ho18))
            have n0_ := Aside0.mk (Kd.R_lower ho18 (keep_size (w := w) (g := g) (row := none) (Z8 HK)))
            have n2_ := Aside0.mk (KeepBut.trans (Z8 HK) (KeepBut.of_below hb g none) (.inl rfl))
            have n3_ := Aside0.mk (below_step (Z0 HB) hb)
            have z_HI0 := fun (h0_ : b 5 = false) => (show IsS104 w0 w17 g s0_0 t231 from by first | exact (IsS104.below (by repeat (first | (with_reducible first | exact (Q_HI0 h0_) | apply IsS104.alloc | apply IsS104.drewN | apply IsS104.drew | apply IsS104.set_1) | exact (Q_HI0 h0_))) hb))
            have z_HI0_e5 := fun (h0_ : b 5 = true) => (show IsS104 w0 w17 g s0_0 t236 from by first | exact (IsS104.below (by repeat (first | (with_reducible first | exact (Q_HI0_e5 h0_) | apply IsS104.alloc | apply IsS104.drewN | apply IsS104.drew | apply IsS104.set_1) | exact (Q_HI0_e5 h0_))) hb))
            clear HK
            clear HB
            have HO234 := n0_
            have HK := n2_
            have HB := n3_
            clear n0_ n2_ n3_
            clear hb ho18
            obtain ⟨Ao19, co19, eo19⟩ := Kd.R_slice HO234.out
            subst eo19
            obtain ⟨ado19, fo19, _⟩ := Kd.at_string (Kd.R_reads' HO234.out).2.2 0 Z28 (by rw [Ny232.out]; simp)
            cases fo19
            refine hK.out _ _ ⟨.slice (some ado19) y232.length co19, ado19, m6_, (by rw [ha.out]; exact putSel_upk 1 hb_ rfl rfl rfl), z_HI0, (Z8 HK), (Z0 HB), fun _ => (Z4 HO234), fun _ => ⟨_, rfl⟩, z_HI0_e5, fun h0_ => absurd ((hoff 6 Z15).symm.trans h0_) Z28⟩
           refine steps_cons ?_ ?_
           ·rintro b a w' ⟨v233, adz_v233, m6_, ha, Q_HI0, Q_HK, Q_HB, Q_HO234, Q_HA_HO234, Q_HI0_e5, Q_X6_⟩ hb_ hon hoff
            refine ⟨_, rfl, fun K hK => ?_⟩
            have e17 : a.tmps[17]? = some (.pointer (some ⟨g, 0, none⟩)) := Z76
            replace ha := Aside0.mk ha
            have HI0 := Aside0.mk (Q_HI0 hb_)
            have HK := Aside0.mk Q_HK
            have HB := Aside0.mk Q_HB
            refine goes_ Tryz.func41 Z15 rfl #[.pointer (some ⟨g, 0, none⟩), .int .i64 6] Z90 rfl rfl (by first | (simp only [List.map_toArray, List.map_cons, List.map_nil, Act.eval, Array.getD_eq_getD_getElem?, Option.getD_some, e17]; done) | (simp only [List.map_toArray, List.map_cons, List.map_nil, Act.eval, Array.getD_eq_getD_getElem?, Option.getD_some, e17]; rfl)) ?_
            with_reducible refine (spec_l20Rd_pick.calls k g s0_0 t231 6 t235 t236 w0 _ ?side1 ?side2 A7.out).mono ?_
            (case side1 => exact Z6 HI0)
            (case side2 => exact Z96)
            rintro e w17 ⟨rfl, hi, hb, hk⟩
            refine ⟨_, rfl, ?_⟩
            have n0_ := Aside0.mk (KeepBut.trans (Z8 HK) hk (.inl rfl))
            have n1_ := Aside0.mk (hb)
            have n2_ := Aside0.mk (hi)
            have z_HO234 := fun (h0_ : b 3 = true) => (show Kd.R Kd.string 9 w17 w.heap.size (fun _ => True) v233 y232 from by first | exact (Kd.R_mono (Kd.R_keep (IsS104.apart (show IsS104 w0 _ g s0_0 t231 from Z6 HI0) (by (with_reducible repeat (first | apply Kd.R_alloc | apply Kd.R_drewN | apply Kd.R_drew)); exact (Q_HO234 h0_)) Z28) hk (fun _ h => h.2)) (fun _ h => h.1)) | exact Kd.R_mono (Kd.R_mono (Kd.R_keep (IsS104.apart (show IsS104 w0 _ g s0_0 t231 from Z6 HI0) (by (with_reducible repeat (first | apply Kd.R_alloc | apply Kd.R_drewN | apply Kd.R_drew)); exact (Q_HO234 h0_)) Z28) hk (fun _ h => h.2)) (fun _ h => h.1)) (fun _ h_ => by first | trivial | exact h_ | exact h_.1))
            clear HK
            clear HB
            clear HI0
            have HK := n0_
            have HB := n1_
            have HI0 := n2_
            clear n0_ n1_ n2_
            (try clear hb)
            (try clear hb2)
            (try clear hk)
            (try clear hi)
            refine hK.out _ _ ⟨v233, adz_v233, m6_, (by rw [ha.out]; exact putSel_upk 2 hb_ rfl rfl rfl), fun h0_ => absurd ((up_self b 5).symm.trans h0_) Z28, (Z8 HK), (Z7 HB HI0), z_HO234, Q_HA_HO234, fun _ => (Z6 HI0), fun h0_ => absurd ((hoff 6 Z15).symm.trans h0_) Z28⟩
           refine steps_cons ?_ ?_
           ·rintro b a w' ⟨v233, adz_v233, m6_, ha, Q_HI0, Q_HK, Q_HB, Q_HO234, Q_HA_HO234, Q_HI0_e5, Q_X6_⟩ hb_ hon hoff
            refine ⟨_, rfl, fun K hK => ?_⟩
            have e16 : a.tmps[16]? = some (v233) := by rw [ha]; exact putSel_on (e := (3, 16, v233)) 1 rfl rfl (hon 3 Z15) rfl
            have e18 : a.tmps[18]? = some (.int .i64 t235) := by rw [ha]; exact putSel_on (e := (5, 18, .int .i64 t235)) 2 rfl rfl (hon 5 Z15) rfl
            replace ha := Aside0.mk ha
            have HK := Aside0.mk Q_HK
            have HB := Aside0.mk Q_HB
            have HO234 := Aside0.mk (Q_HO234 (hon 3 Z15))
            have HA_HO234 := Aside0.mk (Q_HA_HO234 (hon 3 Z15))
            have HI0 := Aside0.mk (Q_HI0_e5 (hon 5 Z15))
            obtain ⟨c_, hv_⟩ := HA_HO234.out
            rw [hv_] at e16
            refine value_ (w1 := w') (v := .pointer (some (adz_v233.add (t235).toNat))) Z90 rfl ?_ ?_
            ·go_simp
             (try simp only [i64_w])
             try rfl
             (try (have h1_ := of_eq_true c6b0; first | (have h2_ := c10; rw [ByteArray.size_extract] at h2_; omega) | (have h2_ := c14; rw [ByteArray.size_append, ByteArray.size_extract, ByteArray.size_extract] at h2_; omega)))
            refine hK.out _ _ ⟨v233, adz_v233, (.pointer (some (adz_v233.add (t235).toNat))), (by rw [ha.out]; exact putSel_upk 3 hb_ rfl rfl rfl), fun h0_ => absurd ((hon 5 Z15).symm.trans h0_) Z28, Q_HK, Q_HB, Q_HO234, Q_HA_HO234, Q_HI0_e5, fun _ => rfl⟩
           refine steps_cons ?_ ?_
           ·rintro b a w' ⟨v233, adz_v233, m6_, ha, Q_HI0, Q_HK, Q_HB, Q_HO234, Q_HA_HO234, Q_HI0_e5, Q_X6_⟩ hb_ hon hoff
            refine ⟨_, rfl, fun K hK => ?_⟩
            have e19 : a.tmps[19]? = some (m6_) := by rw [ha]; exact putSel_on (e := (6, 19, m6_)) 3 rfl rfl (hon 6 Z15) rfl
            rw [Q_X6_ (hon 6 Z15)] at e19
            replace ha := Aside0.mk ha
            have HK := Aside0.mk Q_HK
            have HB := Aside0.mk Q_HB
            have HO234 := Aside0.mk (Q_HO234 (hon 3 Z15))
            have HA_HO234 := Aside0.mk (Q_HA_HO234 (hon 3 Z15))
            have HI0 := Aside0.mk (Q_HI0_e5 (hon 5 Z15))
            obtain ⟨c_, hv_⟩ := HA_HO234.out
            have hF_ := HO234.out
            rw [hv_] at hF_
            obtain ⟨ad_, ea_, hx_⟩ := Kd.at_string (Kd.R_reads' hF_).2.2 t235 (of_eq_true pi237) (of_eq_true qi237)
            cases ea_
            refine value_ (w1 := w') (v := .string (rdOf ByteArray.empty y232 t235)) Z90 rfl ?_ ?_
            ·go_simp
             (try simp only [i64_w])
             try rfl
             (try (have h1_ := of_eq_true c6b0; first | (have h2_ := c10; rw [ByteArray.size_extract] at h2_; omega) | (have h2_ := c14; rw [ByteArray.size_append, ByteArray.size_extract, ByteArray.size_extract] at h2_; omega)))
            refine hK.out _ _ ⟨v233, adz_v233, m6_, (by rw [ha.out]; exact putSel_upk 4 hb_ rfl rfl rfl), fun h0_ => absurd ((hon 5 Z15).symm.trans h0_) Z28, Q_HK, Q_HB, Q_HO234, Q_HA_HO234, Q_HI0_e5, Q_X6_⟩
           refine steps_cons ?_ ?_
           ·rintro b a w' ⟨v233, adz_v233, m6_, ha, Q_HI0, Q_HK, Q_HB, Q_HO234, Q_HA_HO234, Q_HI0_e5, Q_X6_⟩ hb_ hon hoff
            refine ⟨_, rfl, fun K hK => ?_⟩
            have e15 : a.tmps[15]? = some (.string (a1.extract 0 (t230 : Int).toNat)) := by rw [ha]; exact putSel_on (e := (2, 15, .string (a1.extract 0 (t230 : Int).toNat))) 0 rfl rfl (hon 2 Z15) rfl
            have e20 : a.tmps[20]? = some (.string (rdOf ByteArray.empty y232 t235)) := by rw [ha]; exact putSel_on (e := (7, 20, .string (rdOf ByteArray.empty y232 t235))) 4 rfl rfl (hon 7 Z15) rfl
            replace ha := Aside0.mk ha
            have HK := Aside0.mk Q_HK
            have HB := Aside0.mk Q_HB
            have HO234 := Aside0.mk (Q_HO234 (hon 3 Z15))
            have HA_HO234 := Aside0.mk (Q_HA_HO234 (hon 3 Z15))
            have HI0 := Aside0.mk (Q_HI0_e5 (hon 5 Z15))
            refine value_ (w1 := w') (v := .string ((a1.extract 0 (t230 : Int).toNat) ++ (rdOf ByteArray.empty y232 t235))) Z90 rfl ?_ ?_
            ·go_simp
             (try simp only [i64_w])
             try rfl
             (try (have h1_ := of_eq_true c6b0; first | (have h2_ := c10; rw [ByteArray.size_extract] at h2_; omega) | (have h2_ := c14; rw [ByteArray.size_append, ByteArray.size_extract, ByteArray.size_extract] at h2_; omega)))
            refine hK.out _ _ ⟨v233, adz_v233, m6_, (by rw [ha.out]; exact putSel_upk 5 hb_ rfl rfl rfl), fun h0_ => absurd ((hon 5 Z15).symm.trans h0_) Z28, Q_HK, Q_HB, Q_HO234, Q_HA_HO234, Q_HI0_e5, Q_X6_⟩
           refine steps_cons ?_ ?_
           ·rintro b a w' ⟨v233, adz_v233, m6_, ha, Q_HI0, Q_HK, Q_HB, Q_HO234, Q_HA_HO234, Q_HI0_e5, Q_X6_⟩ hb_ hon hoff
            refine ⟨_, rfl, fun K hK => ?_⟩
            have e23 : a.tmps[23]? = some (.int .i64 t230) := Z76
            replace ha := Aside0.mk ha
            have HK := Aside0.mk Q_HK
            have HB := Aside0.mk Q_HB
            refine value_ (w1 := w') (v := .int .i64 ji11) Z90 rfl ?_ ?_
            ·go_simp
             (try simp only [i64_w])
             try rfl
             (try (have h1_ := of_eq_true c6b0; first | (have h2_ := c10; rw [ByteArray.size_extract] at h2_; omega) | (have h2_ := c14; rw [ByteArray.size_append, ByteArray.size_extract, ByteArray.size_extract] at h2_; omega)))
            refine hK.out _ _ ⟨v233, adz_v233, m6_, (by rw [ha.out]; exact putSel_upk 6 hb_ rfl rfl rfl), Q_HI0, Q_HK, Q_HB, Q_HO234, Q_HA_HO234, Q_HI0_e5, Q_X6_⟩
           refine steps_cons ?_ ?_
           ·rintro b a w' ⟨v233, adz_v233, m6_, ha, Q_HI0, Q_HK, Q_HB, Q_HO234, Q_HA_HO234, Q_HI0_e5, Q_X6_⟩ hb_ hon hoff
            refine ⟨_, rfl, fun K hK => ?_⟩
            have e22 : a.tmps[22]? = some (.string a1) := Z76
            have e24 : a.tmps[24]? = some (.int .i64 ji11) := by rw [ha]; exact putSel_on (e := (11, 24, .int .i64 ji11)) 6 rfl rfl (hon 11 Z15) rfl
            replace ha := Aside0.mk ha
            have HK := Aside0.mk Q_HK
            have HB := Aside0.mk Q_HB
            refine value_ (w1 := w') (v := .string (a1.extract ((ji11) : Int).toNat a1.size)) Z90 rfl ?_ ?_
            ·go_simp
             (try simp only [i64_w])
             try rfl
             (try (have h1_ := of_eq_true c6b0; first | (have h2_ := c10; rw [ByteArray.size_extract] at h2_; omega) | (have h2_ := c14; rw [ByteArray.size_append, ByteArray.size_extract, ByteArray.size_extract] at h2_; omega)))
            refine hK.out _ _ ⟨v233, adz_v233, m6_, (by rw [ha.out]; exact putSel_upk 7 hb_ rfl rfl rfl), Q_HI0, Q_HK, Q_HB, Q_HO234, Q_HA_HO234, Q_HI0_e5, Q_X6_⟩
           refine steps_cons ?_ ?_
           ·rintro b a w' ⟨v233, adz_v233, m6_, ha, Q_HI0, Q_HK, Q_HB, Q_HO234, Q_HA_HO234, Q_HI0_e5, Q_X6_⟩ hb_ hon hoff
            refine ⟨_, rfl, fun K hK => ?_⟩
            have e21 : a.tmps[21]? = some (.string ((a1.extract 0 (t230 : Int).toNat) ++ (rdOf ByteArray.empty y232 t235))) := by rw [ha]; exact putSel_on (e := (8, 21, .string ((a1.extract 0 (t230 : Int).toNat) ++ (rdOf ByteArray.empty y232 t235)))) 5 rfl rfl (hon 8 Z15) rfl
            have e25 : a.tmps[25]? = some (.string (a1.extract ((ji11) : Int).toNat a1.size)) := by rw [ha]; exact putSel_on (e := (12, 25, .string (a1.extract ((ji11) : Int).toNat a1.size))) 7 rfl rfl (hon 12 Z15) rfl
            replace ha := Aside0.mk ha
            have HK := Aside0.mk Q_HK
            have HB := Aside0.mk Q_HB
            have HO234 := Aside0.mk (Q_HO234 (hon 3 Z15))
            have HA_HO234 := Aside0.mk (Q_HA_HO234 (hon 3 Z15))
            have HI0 := Aside0.mk (Q_HI0_e5 (hon 5 Z15))
            refine value_ (w1 := w') (v := .string (((a1.extract 0 (t230 : Int).toNat) ++ (rdOf ByteArray.empty y232 t235)) ++ (a1.extract ((ji11) : Int).toNat a1.size))) Z90 rfl ?_ ?_
            ·go_simp
             (try simp only [i64_w])
             try rfl
             (try (have h1_ := of_eq_true c6b0; first | (have h2_ := c10; rw [ByteArray.size_extract] at h2_; omega) | (have h2_ := c14; rw [ByteArray.size_append, ByteArray.size_extract, ByteArray.size_extract] at h2_; omega)))
            refine hK.out _ _ ⟨v233, adz_v233, m6_, (by rw [ha.out]; exact putSel_upk 8 hb_ rfl rfl rfl), fun h0_ => absurd ((hon 5 Z15).symm.trans h0_) Z28, Q_HK, Q_HB, Q_HO234, Q_HA_HO234, Q_HI0_e5, Q_X6_⟩
           refine steps_cons ?_ ?_
           ·rintro b a w' ⟨v233, adz_v233, m6_, ha, Q_HI0, Q_HK, Q_HB, Q_HO234, Q_HA_HO234, Q_HI0_e5, Q_X6_⟩ hb_ hon hoff
            refine ⟨_, rfl, fun K hK => ?_⟩
            have e26 : a.tmps[26]? = some (.string (((a1.extract 0 (t230 : Int).toNat) ++ (rdOf ByteArray.empty y232 t235)) ++ (a1.extract ((ji11) : Int).toNat a1.size))) := by rw [ha]; exact putSel_on (e := (13, 26, .string (((a1.extract 0 (t230 : Int).toNat) ++ (rdOf ByteArray.empty y232 t235)) ++ (a1.extract ((ji11) : Int).toNat a1.size)))) 8 rfl rfl (hon 13 Z15) rfl
            replace ha := Aside0.mk ha
            have HK := Aside0.mk Q_HK
            have HB := Aside0.mk Q_HB
            have HO234 := Aside0.mk (Q_HO234 (hon 3 Z15))
            have HA_HO234 := Aside0.mk (Q_HA_HO234 (hon 3 Z15))
            have HI0 := Aside0.mk (Q_HI0_e5 (hon 5 Z15))
            refine value_ (w1 := w') (v := .string (((a1.extract 0 (t230 : Int).toNat) ++ (rdOf ByteArray.empty y232 t235)) ++ (a1.extract ((ji11) : Int).toNat a1.size))) Z90 rfl ?_ ?_
            ·go_simp
             (try simp only [i64_w])
             try rfl
             (try (have h1_ := of_eq_true c6b0; first | (have h2_ := c10; rw [ByteArray.size_extract] at h2_; omega) | (have h2_ := c14; rw [ByteArray.size_append, ByteArray.size_extract, ByteArray.size_extract] at h2_; omega)))
            refine hK.out _ _ ⟨v233, adz_v233, m6_, (by rw [ha.out]; exact putSel_upk 9 hb_ rfl rfl rfl), fun h0_ => absurd ((hon 5 Z15).symm.trans h0_) Z28, Q_HK, Q_HB, Q_HO234, Q_HA_HO234, Q_HI0_e5, Q_X6_⟩
           exact steps_nil
          rintro b a w21 hall ⟨v233, adz_v233, m6_, ha, Q_HI0, Q_HK, Q_HB, Q_HO234, Q_HA_HO234, Q_HI0_e5, Q_X6_⟩
          clear HB HI0 HK
          have hb2_ := hall 2 Z15
          have hb3_ := hall 3 Z15
          have hb5_ := hall 5 Z15
          have hb6_ := hall 6 Z15
          have hb7_ := hall 7 Z15
          have hb8_ := hall 8 Z15
          have hb11_ := hall 11 Z15
          have hb12_ := hall 12 Z15
          have hb13_ := hall 13 Z15
          have hb14_ := hall 14 Z15
          subst ha
          obtain rfl := Q_X6_ hb6_
          simp only [putSel, hb2_, hb3_, hb5_, hb6_, hb7_, hb8_, hb11_, hb12_, hb13_, hb14_, if_true, Act.put, List.setIfInBounds_toArray, List.set_cons_zero, List.set_cons_succ]
          clear Q_HI0
          have HK := Aside0.mk Q_HK
          clear Q_HK
          have HB := Aside0.mk Q_HB
          clear Q_HB
          have HO234 := Aside0.mk (Q_HO234 hb3_)
          clear Q_HO234
          have HA_HO234 := Aside0.mk (Q_HA_HO234 hb3_)
          clear Q_HA_HO234
          have HI0 := Aside0.mk (Q_HI0_e5 hb5_)
          clear Q_HI0_e5
          clear hall hb2_ hb3_ hb5_ hb6_ hb7_ hb8_ hb11_ hb12_ hb13_ hb14_
          obtain ⟨co22, eo22⟩ := HA_HO234.out
          clear HA_HO234
          subst eo22
          try go_wp2
          go_ret
          exact ⟨Z57 hji11, Z6 HI0, Z7 HB HI0, Z8 HK⟩
         ·rw [if_neg c14] at H
          exact absurd H Z33
        ·rw [if_neg c13] at H
         exact absurd H Z33
       ·rw [if_neg c12] at H
        exact absurd H Z33
      ·rw [if_neg c10] at H
       exact absurd H Z33
     ·rw [if_neg c9] at H
      exact absurd H Z33
    ·rw [if_neg c8] at H
     exact absurd H Z33
   ·rw [if_neg c6] at H
    exact absurd H Z33
  ·rw [if_neg c5] at H
   exact absurd H Z33

/-! ### spec_DrawReadJournal: function 8 -/
def spec_DrawReadJournal.f (k : Nat) (l0 : List Int) : Option (ByteArray) := (spec_l20Open.f l0).bind fun bt238 => ((spec_l20Written.f k bt238.1 bt238.2).bind fun bt241 => ((spec_JournalText.f k bt241.1).bind fun t245 => ((spec_l20Rd_pick.f k bt238.1 bt241.2 3).bind fun bt246 => (if bt246.1 = 0 then ((spec_l20Spoil.f k bt238.1 bt246.2 t245).bind fun bt248 => (some bt248.1)) else (if bt246.1 = 1 then ((spec_l20Rd_pick.f k bt238.1 bt246.2 (wrap64 ((t245.size : Int) + 1))).bind fun bt250 => (if 0 ≤ bt250.1 then (if bt250.1 ≤ (t245.size : Int) then (some (t245.extract 0 (bt250.1 : Int).toNat)) else (none)) else (none))) else (some t245))))))
set_option maxHeartbeats 8000000 in
set_option maxRecDepth 100000 in
theorem spec_DrawReadJournal.calls (k : Nat) (A0 : Option Addr) (c0 : Nat) (l0 : List Int) (r : ByteArray) (w : World) (hr0 : Kd.C (Kd.int .u8) w A0 l0.length l0) (hc0 : l0.length ≤ c0) (h : spec_DrawReadJournal.f k l0 = some r) :
 Calls Tryz.prog 8 #[.slice A0 l0.length c0] w fun e w' => e = .returned (.string r) ∧ Below w.heap.size w w' := by
 have HR0 := Aside0.mk hr0
 have HC0 := Aside0.mk hc0
 clear hr0 hc0
 have HB := Aside0.mk (Below.refl w.heap.size w)
 have H : ((spec_l20Open.f l0).bind fun bt238 => ((spec_l20Written.f k bt238.1 bt238.2).bind fun bt241 => ((spec_JournalText.f k bt241.1).bind fun t245 => ((spec_l20Rd_pick.f k bt238.1 bt241.2 3).bind fun bt246 => (if bt246.1 = 0 then ((spec_l20Spoil.f k bt238.1 bt246.2 t245).bind fun bt248 => (some bt248.1)) else (if bt246.1 = 1 then ((spec_l20Rd_pick.f k bt238.1 bt246.2 (wrap64 ((t245.size : Int) + 1))).bind fun bt250 => (if 0 ≤ bt250.1 then (if bt250.1 ≤ (t245.size : Int) then (some (t245.extract 0 (bt250.1 : Int).toNat)) else (none)) else (none))) else (some t245))))))) = some r := h
 clear h
 replace H := Option.bind_eq_some_iff.mp H
 obtain ⟨⟨t238, t239⟩, A20, H⟩ := H
 replace H : ((spec_l20Written.f k t238 t239).bind fun bt241 => ((spec_JournalText.f k bt241.1).bind fun t245 => ((spec_l20Rd_pick.f k t238 bt241.2 3).bind fun bt246 => (if bt246.1 = 0 then ((spec_l20Spoil.f k t238 bt246.2 t245).bind fun bt248 => (some bt248.1)) else (if bt246.1 = 1 then ((spec_l20Rd_pick.f k t238 bt246.2 (wrap64 ((t245.size : Int) + 1))).bind fun bt250 => (if 0 ≤ bt250.1 then (if bt250.1 ≤ (t245.size : Int) then (some (t245.extract 0 (bt250.1 : Int).toNat)) else (none)) else (none))) else (some t245)))))) = some r := H
 have A2 := Aside0.mk A20
 clear A20
 replace H := Option.bind_eq_some_iff.mp H
 obtain ⟨⟨t241, t244⟩, A30, H⟩ := H
 replace H : ((spec_JournalText.f k t241).bind fun t245 => ((spec_l20Rd_pick.f k t238 t244 3).bind fun bt246 => (if bt246.1 = 0 then ((spec_l20Spoil.f k t238 bt246.2 t245).bind fun bt248 => (some bt248.1)) else (if bt246.1 = 1 then ((spec_l20Rd_pick.f k t238 bt246.2 (wrap64 ((t245.size : Int) + 1))).bind fun bt250 => (if 0 ≤ bt250.1 then (if bt250.1 ≤ (t245.size : Int) then (some (t245.extract 0 (bt250.1 : Int).toNat)) else (none)) else (none))) else (some t245))))) = some r := H
 have A3 := Aside0.mk A30
 clear A30
 replace H := Option.bind_eq_some_iff.mp H
 obtain ⟨t245, A40, H⟩ := H
 replace H : ((spec_l20Rd_pick.f k t238 t244 3).bind fun bt246 => (if bt246.1 = 0 then ((spec_l20Spoil.f k t238 bt246.2 t245).bind fun bt248 => (some bt248.1)) else (if bt246.1 = 1 then ((spec_l20Rd_pick.f k t238 bt246.2 (wrap64 ((t245.size : Int) + 1))).bind fun bt250 => (if 0 ≤ bt250.1 then (if bt250.1 ≤ (t245.size : Int) then (some (t245.extract 0 (bt250.1 : Int).toNat)) else (none)) else (none))) else (some t245)))) = some r := H
 have A4 := Aside0.mk A40
 clear A40
 replace H := Option.bind_eq_some_iff.mp H
 obtain ⟨⟨t246, t247⟩, A50, H⟩ := H
 replace H : (if t246 = 0 then ((spec_l20Spoil.f k t238 t247 t245).bind fun bt248 => (some bt248.1)) else (if t246 = 1 then ((spec_l20Rd_pick.f k t238 t247 (wrap64 ((t245.size : Int) + 1))).bind fun bt250 => (if 0 ≤ bt250.1 then (if bt250.1 ≤ (t245.size : Int) then (some (t245.extract 0 (bt250.1 : Int).toNat)) else (none)) else (none))) else (some t245))) = some r := H
 have A5 := Aside0.mk A50
 clear A50
 by_cases c6 : t246 = 0
 ·rw [if_pos c6] at H
  have c6b0 : (t246 == 0) = true := beq_iff_eq.mpr c6
  have c6b1 : (t246 != 0) = false := bne_eq_false_iff_eq.mpr c6
  clear c6
  replace H := Option.bind_eq_some_iff.mp H
  obtain ⟨⟨t248, t249⟩, A70, H⟩ := H
  replace H : (some t248) = some r := H
  have A7 := Aside0.mk A70
  clear A70
  obtain rfl := Option.some.inj H
  go_enter Tryz.func8, Tryz.ntmps8
  go_wp2_with (first | ((with_reducible refine gate_callee (f := 38) rfl ?_); refine gL_ 6 Tryz.func38 #[.slice A0 l0.length c0] ?_; (with_reducible refine (spec_l20Open.calls _ _ l0 t238 t239 w _ ?side1 ?side2 ?side3 A2.out).mono ?_); (case side1 => exact Z0 HB); (case side2 => exact HR0.out); (case side3 => exact HC0.out); rintro e w8 ⟨g240, rfl, hi, hb, hb2⟩; refine ⟨_, rfl, ?_⟩; replace HB := Aside0.mk (hb); have HI240 := Aside0.mk (hi); (try clear hb); (try clear hb2); (try clear hi)) | ((with_reducible refine gate_callee (f := 40) rfl ?_); refine gL_ 8 Tryz.func40 #[.pointer (some ⟨g240, 0, none⟩)] ?_; (with_reducible refine (spec_l20Written.calls k g240 t238 t239 t241 t244 w _ ?side1 ?side2 A3.out).mono ?_); (case side1 => exact Z6 HI240); (case side2 => exact Z7 HB HI240); rintro e w9 ⟨v242, rfl, ho0, hi, hb, hk⟩; refine ⟨_, rfl, ?_⟩; have HO243 := Aside0.mk (Kd.R_lower ho0 (below_size (Z7 HB HI240))); replace HB := Aside0.mk (hb); replace HI240 := Aside0.mk (hi); (try clear hb); (try clear hb2); (try clear hk); (try clear hi); (try clear ho0); obtain ⟨Ao10, co10, eo10⟩ := Kd.R_slice HO243.out; subst eo10) | ((with_reducible refine gate_callee (f := 39) rfl ?_); refine gL_ 9 Tryz.func39 #[.slice Ao10 t241.length co10] ?_; (with_reducible refine (spec_JournalText.calls k _ _ t241 t245 _ ?side1 ?side2 A4.out).mono ?_); (case side1 => exact Z26 HO243); (case side2 => exact Z74 HO243); rintro e w11 ⟨rfl, hb⟩; refine ⟨_, rfl, ?_⟩; replace HO243 := Aside0.mk (Kd.R_below (Z4 HO243) hb); replace HB := Aside0.mk (below_step (Z7 HB HI240) hb); replace HI240 := Aside0.mk (IsS104.below (Z6 HI240) hb); (try clear hb)) | ((with_reducible refine gate_callee (f := 41) rfl ?_); refine gL_ 11 Tryz.func41 #[.pointer (some ⟨g240, 0, none⟩), .int .i64 3] ?_; (with_reducible refine (spec_l20Rd_pick.calls k g240 t238 t244 3 t246 t247 w _ ?side1 ?side2 A5.out).mono ?_); (case side1 => exact Z6 HI240); (case side2 => exact Z7 HB HI240); rintro e w12 ⟨rfl, hi, hb, hk⟩; refine ⟨_, rfl, ?_⟩; replace HO243 := Aside0.mk (Kd.R_mono (Kd.R_keep (IsS104.apart (show IsS104 w _ g240 t238 t244 from Z6 HI240) (Z4 HO243) Z28) hk (fun _ h => h.2)) (fun _ h => h.1)); replace HB := Aside0.mk (hb); replace HI240 := Aside0.mk (hi); (try clear hb); (try clear hk); (try clear hi)) | ((with_reducible refine gate_callee (f := 42) rfl ?_); refine gL_ 16 Tryz.func42 #[.pointer (some ⟨g240, 0, none⟩), .string t245] ?_; (with_reducible refine (spec_l20Spoil.calls k g240 t238 t247 t245 t248 t249 w _ ?side1 ?side2 A7.out).mono ?_); (case side1 => exact Z6 HI240); (case side2 => exact Z7 HB HI240); rintro e w13 ⟨rfl, hi, hb, hk⟩; refine ⟨_, rfl, ?_⟩; replace HO243 := Aside0.mk (Kd.R_mono (Kd.R_keep (IsS104.apart (show IsS104 w _ g240 t238 t247 from Z6 HI240) (Z4 HO243) Z28) hk (fun _ h => h.2)) (fun _ h => h.1)); replace HB := Aside0.mk (hb); replace HI240 := Aside0.mk (hi); (try clear hb); (try clear hk); (try clear hi)))
  go_ret
  exact ⟨Z11, Z7 HB HI240⟩
 ·rw [if_neg c6] at H
  have c6b0 : (t246 == 0) = false := beq_eq_false_iff_ne.mpr c6
  have c6b1 : (t246 != 0) = true := bne_iff_ne.mpr c6
  by_cases c14 : t246 = 1
  ·rw [if_pos c14] at H
   have c14b0 : (t246 == 1) = true := beq_iff_eq.mpr c14
   have c14b1 : (t246 != 1) = false := bne_eq_false_iff_eq.mpr c14
   clear c14
   replace H := Option.bind_eq_some_iff.mp H
   obtain ⟨⟨t250, t251⟩, A150, H⟩ := H
   replace H : (if 0 ≤ t250 then (if t250 ≤ (t245.size : Int) then (some (t245.extract 0 (t250 : Int).toNat)) else (none)) else (none)) = some r := H
   have A15 := Aside0.mk A150
   clear A150
   by_cases c16 : 0 ≤ t250
   ·rw [if_pos c16] at H
    have c16b0 := eq_true c16
    have c16b1 : decide (0 ≤ t250) = true := decide_eq_true c16
    clear c16
    by_cases c17 : t250 ≤ (t245.size : Int)
    ·rw [if_pos c17] at H
     have c17b0 := eq_true c17
     have c17b1 : decide (t250 ≤ (t245.size : Int)) = true := decide_eq_true c17
     clear c17
     obtain rfl := Option.some.inj H
     go_enter Tryz.func8, Tryz.ntmps8
     go_wp2_with (first | ((with_reducible refine gate_callee (f := 38) rfl ?_); refine gL_ 6 Tryz.func38 #[.slice A0 l0.length c0] ?_; (with_reducible refine (spec_l20Open.calls _ _ l0 t238 t239 w _ ?side1 ?side2 ?side3 A2.out).mono ?_); (case side1 => exact Z0 HB); (case side2 => exact HR0.out); (case side3 => exact HC0.out); rintro e w18 ⟨g240, rfl, hi, hb, hb2⟩; refine ⟨_, rfl, ?_⟩; replace HB := Aside0.mk (hb); have HI240 := Aside0.mk (hi); (try clear hb); (try clear hb2); (try clear hi)) | ((with_reducible refine gate_callee (f := 40) rfl ?_); refine gL_ 8 Tryz.func40 #[.pointer (some ⟨g240, 0, none⟩)] ?_; (with_reducible refine (spec_l20Written.calls k g240 t238 t239 t241 t244 w _ ?side1 ?side2 A3.out).mono ?_); (case side1 => exact Z6 HI240); (case side2 => exact Z7 HB HI240); rintro e w19 ⟨v242, rfl, ho0, hi, hb, hk⟩; refine ⟨_, rfl, ?_⟩; have HO243 := Aside0.mk (Kd.R_lower ho0 (below_size (Z7 HB HI240))); replace HB := Aside0.mk (hb); replace HI240 := Aside0.mk (hi); (try clear hb); (try clear hb2); (try clear hk); (try clear hi); (try clear ho0); obtain ⟨Ao20, co20, eo20⟩ := Kd.R_slice HO243.out; subst eo20) | ((with_reducible refine gate_callee (f := 39) rfl ?_); refine gL_ 9 Tryz.func39 #[.slice Ao20 t241.length co20] ?_; (with_reducible refine (spec_JournalText.calls k _ _ t241 t245 _ ?side1 ?side2 A4.out).mono ?_); (case side1 => exact Z26 HO243); (case side2 => exact Z74 HO243); rintro e w21 ⟨rfl, hb⟩; refine ⟨_, rfl, ?_⟩; replace HO243 := Aside0.mk (Kd.R_below (Z4 HO243) hb); replace HB := Aside0.mk (below_step (Z7 HB HI240) hb); replace HI240 := Aside0.mk (IsS104.below (Z6 HI240) hb); (try clear hb)) | ((with_reducible refine gate_callee (f := 41) rfl ?_); refine gL_ 11 Tryz.func41 #[.pointer (some ⟨g240, 0, none⟩), .int .i64 3] ?_; (with_reducible refine (spec_l20Rd_pick.calls k g240 t238 t244 3 t246 t247 w _ ?side1 ?side2 A5.out).mono ?_); (case side1 => exact Z6 HI240); (case side2 => exact Z7 HB HI240); rintro e w22 ⟨rfl, hi, hb, hk⟩; refine ⟨_, rfl, ?_⟩; replace HO243 := Aside0.mk (Kd.R_mono (Kd.R_keep (IsS104.apart (show IsS104 w _ g240 t238 t244 from Z6 HI240) (Z4 HO243) Z28) hk (fun _ h => h.2)) (fun _ h => h.1)); replace HB := Aside0.mk (hb); replace HI240 := Aside0.mk (hi); (try clear hb); (try clear hk); (try clear hi)) | ((with_reducible refine gate_callee (f := 41) rfl ?_); refine gL_ 24 Tryz.func41 #[.pointer (some ⟨g240, 0, none⟩), .int .i64 (wrap64 ((t245.size : Int) + 1))] ?_; (with_reducible refine (spec_l20Rd_pick.calls k g240 t238 t247 (wrap64 ((t245.size : Int) + 1)) t250 t251 w _ ?side1 ?side2 A15.out).mono ?_); (case side1 => exact Z6 HI240); (case side2 => exact Z7 HB HI240); rintro e w23 ⟨rfl, hi, hb, hk⟩; refine ⟨_, rfl, ?_⟩; replace HO243 := Aside0.mk (Kd.R_mono (Kd.R_keep (IsS104.apart (show IsS104 w _ g240 t238 t247 from Z6 HI240) (Z4 HO243) Z28) hk (fun _ h => h.2)) (fun _ h => h.1)); replace HB := Aside0.mk (hb); replace HI240 := Aside0.mk (hi); (try clear hb); (try clear hk); (try clear hi)))
     go_ret
     exact ⟨Z11, Z7 HB HI240⟩
    ·rw [if_neg c17] at H
     exact absurd H Z33
   ·rw [if_neg c16] at H
    exact absurd H Z33
  ·rw [if_neg c14] at H
   have c14b0 : (t246 == 1) = false := beq_eq_false_iff_ne.mpr c14
   have c14b1 : (t246 != 1) = true := bne_iff_ne.mpr c14
   obtain rfl := Option.some.inj H
   go_enter Tryz.func8, Tryz.ntmps8
   go_wp2_with (first | ((with_reducible refine gate_callee (f := 38) rfl ?_); refine gL_ 6 Tryz.func38 #[.slice A0 l0.length c0] ?_; (with_reducible refine (spec_l20Open.calls _ _ l0 t238 t239 w _ ?side1 ?side2 ?side3 A2.out).mono ?_); (case side1 => exact Z0 HB); (case side2 => exact HR0.out); (case side3 => exact HC0.out); rintro e w24 ⟨g240, rfl, hi, hb, hb2⟩; refine ⟨_, rfl, ?_⟩; replace HB := Aside0.mk (hb); have HI240 := Aside0.mk (hi); (try clear hb); (try clear hb2); (try clear hi)) | ((with_reducible refine gate_callee (f := 40) rfl ?_); refine gL_ 8 Tryz.func40 #[.pointer (some ⟨g240, 0, none⟩)] ?_; (with_reducible refine (spec_l20Written.calls k g240 t238 t239 t241 t244 w _ ?side1 ?side2 A3.out).mono ?_); (case side1 => exact Z6 HI240); (case side2 => exact Z7 HB HI240); rintro e w25 ⟨v242, rfl, ho0, hi, hb, hk⟩; refine ⟨_, rfl, ?_⟩; have HO243 := Aside0.mk (Kd.R_lower ho0 (below_size (Z7 HB HI240))); replace HB := Aside0.mk (hb); replace HI240 := Aside0.mk (hi); (try clear hb); (try clear hb2); (try clear hk); (try clear hi); (try clear ho0); obtain ⟨Ao26, co26, eo26⟩ := Kd.R_slice HO243.out; subst eo26) | ((with_reducible refine gate_callee (f := 39) rfl ?_); refine gL_ 9 Tryz.func39 #[.slice Ao26 t241.length co26] ?_; (with_reducible refine (spec_JournalText.calls k _ _ t241 t245 _ ?side1 ?side2 A4.out).mono ?_); (case side1 => exact Z26 HO243); (case side2 => exact Z74 HO243); rintro e w27 ⟨rfl, hb⟩; refine ⟨_, rfl, ?_⟩; replace HO243 := Aside0.mk (Kd.R_below (Z4 HO243) hb); replace HB := Aside0.mk (below_step (Z7 HB HI240) hb); replace HI240 := Aside0.mk (IsS104.below (Z6 HI240) hb); (try clear hb)) | ((with_reducible refine gate_callee (f := 41) rfl ?_); refine gL_ 11 Tryz.func41 #[.pointer (some ⟨g240, 0, none⟩), .int .i64 3] ?_; (with_reducible refine (spec_l20Rd_pick.calls k g240 t238 t244 3 t246 t247 w _ ?side1 ?side2 A5.out).mono ?_); (case side1 => exact Z6 HI240); (case side2 => exact Z7 HB HI240); rintro e w28 ⟨rfl, hi, hb, hk⟩; refine ⟨_, rfl, ?_⟩; replace HO243 := Aside0.mk (Kd.R_mono (Kd.R_keep (IsS104.apart (show IsS104 w _ g240 t238 t244 from Z6 HI240) (Z4 HO243) Z28) hk (fun _ h => h.2)) (fun _ h => h.1)); replace HB := Aside0.mk (hb); replace HI240 := Aside0.mk (hi); (try clear hb); (try clear hk); (try clear hi)))
   go_ret
   exact ⟨Z11, Z7 HB HI240⟩

/-! ### strings_Cut: function 43 (by hand) -/
-- SHELF
/-- The library's own variables hold what their types say. -/
def EnvOk (w : World) : Prop := (∃ m, w.cell? ⟨0, 0, none⟩ = some (.int .i64 m)) ∧ (∃ tp p, w.cell? ⟨1, 0, none⟩ = some (.iface tp p)) ∧ (∃ tp p, w.cell? ⟨2, 0, none⟩ = some (.iface tp p))
theorem EnvOk.below {w W : World} (h : EnvOk w) (hb : Below w.heap.size w W) : EnvOk W := by
  obtain ⟨⟨m, h1⟩, ⟨t2, p2, h2⟩, t3, p3, h3⟩ := h
  exact ⟨⟨m, pw_cell_below hb h1⟩, ⟨t2, p2, pw_cell_below hb h2⟩, t3, p3, pw_cell_below hb h3⟩
theorem EnvOk.drewN {W : World} (h : EnvOk W) (n : Nat) : EnvOk (W.drewN n) := h
theorem EnvOk.alloc {W : World} (h : EnvOk W) (o : Obj) : EnvOk (W.alloc o) := h.below (below_alloc (Below.refl _ _) o)
def strings_Cut.f (a0 : ByteArray) (a1 : ByteArray) : Option (ByteArray × ByteArray × Bool) := if a0.size < 4294967281 then some (⟨(Lib.cut a0.data.toList a1.data.toList).1.toArray⟩, ⟨(Lib.cut a0.data.toList a1.data.toList).2.1.toArray⟩, (Lib.cut a0.data.toList a1.data.toList).2.2) else none
theorem strings_Cut.calls (a0 : ByteArray) (a1 : ByteArray) (r1 : ByteArray) (r2 : ByteArray) (r3 : Bool) (w : World) (hE : EnvOk w) (h : strings_Cut.f a0 a1 = some (r1, r2, r3)) :
 Calls Tryz.prog 43 #[.string a0, .string a1] w fun e w' => e = .returned (.tuple #[.string r1, .string r2, .bool r3]) ∧ Drawn0 w w' := by
 unfold strings_Cut.f at h
 by_cases h0 : a0.size < 4294967281
 ·rw [if_pos h0] at h
  simp only [Option.some.injEq, Prod.mk.injEq] at h
  obtain ⟨rfl, rfl, rfl⟩ := h
  obtain ⟨m, hm⟩ := hE.1
  refine (Tryz.strings_Cut a0 a1 m w h0 hm).mono ?_
  rintro e w' ⟨rfl, hw⟩
  exact ⟨rfl, ⟨hw⟩⟩
 ·rw [if_neg h0] at h; cases h

/-! ### strconv_Itoa_53: function 53 (by hand) -/
-- SHELF
def strconv_Itoa_53.f (a0 : Int) : Option ByteArray := if 0 ≤ a0 then (if a0 < 100 then some (⟨(Lib.decDigits a0.toNat).toArray⟩ : ByteArray) else none) else none
theorem strconv_Itoa_53.calls (a0 : Int) (r : ByteArray) (w : World) (h : strconv_Itoa_53.f a0 = some r) :
 Calls Tryz.prog 53 #[.int .i64 a0] w fun e w' => e = .returned (.string r) ∧ ∃ nd, w' = w.drewN nd := by
 unfold strconv_Itoa_53.f at h
 by_cases h0 : 0 ≤ a0
 ·by_cases h1 : a0 < 100
  ·rw [if_pos h0, if_pos h1] at h
   obtain rfl := Option.some.inj h
   have hc := Tryz.strconv_Itoa_small a0.toNat Z32 w
   rw [show ((a0.toNat : Nat) : Int) = a0 from Z32] at hc
   refine hc.mono ?_
   rintro e w' ⟨rfl, rfl⟩
   exact ⟨rfl, 0, rfl⟩
  ·rw [if_pos h0, if_neg h1] at h; cases h
 ·rw [if_neg h0] at h; cases h

end Go.Proofs.YtmmoojkhlkjdkaaGreatDoor.PFnReadJournal
