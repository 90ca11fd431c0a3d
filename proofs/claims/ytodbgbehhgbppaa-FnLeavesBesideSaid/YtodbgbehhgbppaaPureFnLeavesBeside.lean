/- The pure part of the proof of FnLeavesBeside: the printed functions answer true, for every drawn or given argument within the row's own bounds; no further condition. -/
import Derived.Test.YtodbgbehhgbppaaPFnLeavesBesidex9
import Derived.Laws.BitsLemmas
namespace Go.Proofs.Ytodbgbehhgbppaa.Pure
open Go.RowKit Go.Proofs.Ytodbgbehhgbppaa.PFnLeavesBeside Go.Proofs.YtodbgbehhgbppaaW.PrintWords Go.Proofs.YtodbgbehhgbppaaW.PrintLast Go.Proofs.YtodbgbehhgbppaaW.PrintMore
set_option linter.unusedVariables false
set_option linter.unusedSimpArgs false
/-! base -/
theorem w64 {x : Int} (h0 : -9223372036854775808 ≤ x) (h1 : x ≤ 9223372036854775807) : wrap64 x = x := by
  unfold wrap64
  omega
theorem w64s (n : Nat) (h : n ≤ 4611686018427387904) : wrap64 ((n : Int) + 1) = ((n + 1 : Nat) : Int) := by
  unfold wrap64
  omega
theorem drop_split {α : Type} {l : List α} {i : Nat} {x : α} {xs : List α} (h : l.drop i = x :: xs) : i < l.length ∧ l.drop (i + 1) = xs ∧ ∀ d, l.getD i d = x := by
  have hi : i < l.length := by
    have h2 : 0 < (l.drop i).length := by rw [h]; simp
    rw [List.length_drop] at h2
    omega
  rw [List.drop_eq_getElem_cons hi] at h
  injection h with h1 h2
  exact ⟨hi, h2, fun d => by rw [List.getD_eq_getElem?_getD, List.getElem?_eq_getElem hi, h1]; rfl⟩
theorem drop_nil {α : Type} {l : List α} {i : Nat} (h : l.drop i = []) : l.length ≤ i := List.drop_eq_nil_iff.1 h
theorem getD_lt {α : Type} {l : List α} {i : Nat} (h : i < l.length) (d : α) : l.getD i d = l[i] := by
  rw [List.getD_eq_getElem?_getD, List.getElem?_eq_getElem h]; rfl
theorem rd_nat (l : List Int) (i : Nat) : rd l (i : Int) = l.getD i 0 := by
  unfold rd
  rw [Int.toNat_natCast]
theorem getD_mem {α : Type} {l : List α} {i : Nat} (h : i < l.length) (d : α) : l.getD i d ∈ l := by
  rw [getD_lt h]; exact List.getElem_mem h
theorem take_succ_getD {α : Type} {l : List α} {i : Nat} (h : i < l.length) (d : α) : l.take (i + 1) = l.take i ++ [l.getD i d] := by
  rw [getD_lt h, List.take_succ_eq_append_getElem h]
theorem mx_max (a b : Int) : mx a b = max a b := by
  unfold mx; omega
theorem mn_min (a b : Int) : mn a b = min a b := by
  unfold mn; omega
theorem bind_of {α β : Type} {o : Option α} {r : α} {f : α → Option β} {s : Option β} (h : o = some r) (h2 : f r = s) : o.bind f = s := by rw [h]; exact h2
theorem getD_snoc_last {α : Type} (l : List α) (x d : α) {i : Nat} (h : l.length = i) : (l ++ [x]).getD i d = x := by
  subst h
  rw [List.getD_eq_getElem?_getD, List.getElem?_append_right (Nat.le_refl _), Nat.sub_self]
  rfl
theorem getD_snoc_lt {α : Type} (l r : List α) (d : α) {i : Nat} (h : i < l.length) : (l ++ r).getD i d = l.getD i d := by
  rw [List.getD_eq_getElem?_getD, List.getElem?_append_left h, List.getD_eq_getElem?_getD]

/-! l1in -/
theorem spec_l1In_is (a b c : Int) : spec_l1In.f a b c = some (decide (b ≤ a ∧ a ≤ c)) := by
  unfold spec_l1In.f
  by_cases h : a ≥ b
  · rw [if_pos h]
    congr 1
    apply decide_eq_decide.2
    omega
  · rw [if_neg h]
    congr 1
    symm
    exact decide_eq_false (by omega)

/-! pick -/
theorem xor_small (a b : Int) (ha : 0 ≤ a) (ha2 : a < 1099511627776) (hb : 0 ≤ b) (hb2 : b < 1099511627776) : 0 ≤ Go.bits .xor .i64 a b ∧ Go.bits .xor .i64 a b < 1099511627776 := by
  obtain ⟨x, rfl⟩ := Int.eq_ofNat_of_zero_le ha
  obtain ⟨y, rfl⟩ := Int.eq_ofNat_of_zero_le hb
  have hx : x < 2 ^ 40 := by have : (x : Int) < 1099511627776 := ha2; omega
  have hy : y < 2 ^ 40 := by have : (y : Int) < 1099511627776 := hb2; omega
  have hz : x ^^^ y < 2 ^ 40 := Nat.xor_lt_two_pow hx hy
  have e : Go.bits .xor .i64 (x : Int) (y : Int) = ((x ^^^ y : Nat) : Int) := by
    have hx' : x % 2 ^ IntKind.i64.bits = x := Nat.mod_eq_of_lt (Nat.lt_of_lt_of_le hx (Nat.pow_le_pow_right (by decide) (by decide)))
    have hy' : y % 2 ^ IntKind.i64.bits = y := Nat.mod_eq_of_lt (Nat.lt_of_lt_of_le hy (Nat.pow_le_pow_right (by decide) (by decide)))
    simp only [bits, BitVec.ofInt_natCast, BitVec.toNat_xor, BitVec.toNat_ofNat, hx', hy']
    rw [IntKind.wrap_i64]
    omega
  rw [e]
  omega
theorem tmod_in (x n : Int) (hx : 0 ≤ x) (hn : 1 ≤ n) : 0 ≤ Int.tmod x n ∧ Int.tmod x n < n := by
  rw [Int.tmod_eq_emod_of_nonneg hx]
  exact ⟨Int.emod_nonneg _ (by omega), Int.emod_lt_of_pos _ (by omega)⟩
theorem rd_byte {s : List Int} (hs : ∀ x ∈ s, 0 ≤ x ∧ x ≤ 255) (i : Int) : 0 ≤ rd s i ∧ rd s i ≤ 255 := by
  unfold rd
  by_cases h : i.toNat < s.length
  · exact hs _ (getD_mem h 0)
  · rw [List.getD_eq_getElem?_getD, List.getElem?_eq_none (by omega)]; simp
/-- The reader: what it draws lies in 0..n-1, and its place goes on by one. -/
theorem pick_ok {k : Nat} (hk : 1 ≤ k) {s : List Int} (hs : ∀ x ∈ s, 0 ≤ x ∧ x ≤ 255) (hl : s.length ≤ 2000) (p : Int) (hp : 0 ≤ p) (hp2 : p ≤ 1000000) (n : Int) :
    ∃ v, spec_l20Rd_pick.f k s p n = some (v, p + 1) ∧ 0 ≤ v ∧ (1 ≤ n → v < n) ∧ (n < 1 → v = 0) := by
  obtain ⟨k, rfl⟩ : ∃ m, k = m + 1 := ⟨k - 1, by omega⟩
  have hw : wrap64 (p + 1) = p + 1 := w64 (by omega) (by omega)
  unfold spec_l20Rd_pick.f
  by_cases hn : n < 1
  · refine ⟨0, ?_, by omega, by omega, fun _ => rfl⟩
    rw [if_pos hn, hw]
    simp only [spec_l20Rd_pick.j0]
    rw [if_pos trivial]
  · rw [if_neg hn, hw]
    simp only [spec_l20Rd_pick.j0]
    by_cases he : (s.length : Int) = 0
    · refine ⟨0, ?_, by omega, by omega, fun _ => rfl⟩
      rw [if_pos (by simpa using he)]
    · have hpp : wrap64 (p + 1 - 1) = p := by rw [w64 (by omega) (by omega)]; omega
      rw [if_neg (by simpa using he), hpp]
      have hn0 : ¬ n = 0 := by omega
      have hb := fun i => rd_byte hs i
      by_cases hlt : p < (s.length : Int)
      · have hr := hb p
        have hwr : wrap64 (rd s p) = rd s p := w64 (by omega) (by omega)
        rw [if_pos hlt, if_pos hp, if_neg hn0, hwr]
        have ht := tmod_in (rd s p) n hr.1 (by omega)
        exact ⟨_, rfl, ht.1, fun _ => ht.2, fun h => absurd h hn⟩
      · have hL : 1 ≤ (s.length : Int) := by omega
        have e7 : wrap64 (p * 7) = p * 7 := w64 (by omega) (by omega)
        have e73 : wrap64 (p * 7 + 3) = p * 7 + 3 := w64 (by omega) (by omega)
        have t1 := tmod_in p (s.length : Int) hp hL
        have t2 := tmod_in (p * 7 + 3) (s.length : Int) (by omega) hL
        have r1 := hb (Int.tmod p (s.length : Int))
        have r2 := hb (Int.tmod (p * 7 + 3) (s.length : Int))
        rw [if_neg hlt, if_neg he, if_pos t1.1, if_pos t1.2, e7, e73, if_pos t2.1, if_pos t2.2, if_neg hn0]
        generalize rd s (Int.tmod p (s.length : Int)) = a at *
        generalize rd s (Int.tmod (p * 7 + 3) (s.length : Int)) = b at *
        have hq : Int.tdiv p (s.length : Int) = p / (s.length : Int) := Int.tdiv_eq_ediv_of_nonneg hp
        have q0 : 0 ≤ p / (s.length : Int) := Int.ediv_nonneg hp (by omega)
        have q1 : p / (s.length : Int) ≤ p := Int.ediv_le_self _ hp
        rw [hq]
        generalize p / (s.length : Int) = q at *
        have ea : wrap64 a = a := w64 (by omega) (by omega)
        have eb : wrap64 b = b := w64 (by omega) (by omega)
        have ea2 : wrap64 (a * 131) = a * 131 := w64 (by omega) (by omega)
        have eb2 : wrap64 (b * 1117) = b * 1117 := w64 (by omega) (by omega)
        have ep : wrap64 (p * 29) = p * 29 := w64 (by omega) (by omega)
        have eq_ : wrap64 q = q := w64 (by omega) (by omega)
        have eq2 : wrap64 (q * 53) = q * 53 := w64 (by omega) (by omega)
        have e1 : wrap64 (a * 131 + b * 1117) = a * 131 + b * 1117 := w64 (by omega) (by omega)
        have e2 : wrap64 (a * 131 + b * 1117 + p * 29) = a * 131 + b * 1117 + p * 29 := w64 (by omega) (by omega)
        have e3 : wrap64 (a * 131 + b * 1117 + p * 29 + q * 53) = a * 131 + b * 1117 + p * 29 + q * 53 := w64 (by omega) (by omega)
        rw [ea, eb, ea2, eb2, ep, eq_, eq2, e1, e2, e3]
        have hX0 : 0 ≤ a * 131 + b * 1117 + p * 29 + q * 53 := by omega
        have hX1 : a * 131 + b * 1117 + p * 29 + q * 53 < 1099511627776 := by omega
        generalize a * 131 + b * 1117 + p * 29 + q * 53 = X at *
        have hd : Int.tdiv X 64 = X / 64 := Int.tdiv_eq_ediv_of_nonneg hX0
        have ed : wrap64 (X / 64) = X / 64 := w64 (by omega) (by omega)
        rw [hd, ed]
        have hx := xor_small X (X / 64) hX0 hX1 (by omega) (by omega)
        have ht := tmod_in (Go.bits .xor .i64 X (X / 64)) n hx.1 (by omega)
        exact ⟨_, rfl, ht.1, fun _ => ht.2, fun h => absurd h hn⟩
theorem odd_ok {k : Nat} (hk : 1 ≤ k) {s : List Int} (hs : ∀ x ∈ s, 0 ≤ x ∧ x ≤ 255) (hl : s.length ≤ 2000) (p : Int) (hp : 0 ≤ p) (hp2 : p ≤ 1000000) (n : Int) (hn : n ≤ 1000) :
    ∃ b q, spec_l20Rd_odd.f k s p n = some (b, q) ∧ p ≤ q ∧ q ≤ p + 1 ∧ (n ≤ 0 → b = false) := by
  unfold spec_l20Rd_odd.f
  by_cases h : n > 0
  · obtain ⟨v, hv, -⟩ := pick_ok hk hs hl p hp hp2 n
    rw [if_pos h, hv]
    exact ⟨_, _, rfl, by simp only; omega, by simp only; omega, fun hh => by omega⟩
  · rw [if_neg h]
    exact ⟨_, _, rfl, by omega, by omega, fun _ => rfl⟩
theorem open_ok {s : List Int} (hs : ∀ x ∈ s, 0 ≤ x ∧ x ≤ 255) : ∃ t, spec_l20Open.f s = some (t, 0) ∧ (∀ x ∈ t, 0 ≤ x ∧ x ≤ 255) ∧ t.length ≤ 2000 := by
  unfold spec_l20Open.f
  by_cases h : (s.length : Int) > 2000
  · rw [if_pos h, if_pos (by omega)]
    exact ⟨_, rfl, fun x hx => hs x (List.mem_of_mem_take hx), by rw [List.length_take]; omega⟩
  · rw [if_neg h]
    exact ⟨_, rfl, hs, by omega⟩
theorem bytes_of {l : List Int} (h : ∀ x ∈ l, (Lit.int .u8 x).wf = true) : ∀ x ∈ l, 0 ≤ x ∧ x ≤ 255 := by
  intro x hx
  have := h x hx
  simp only [Lit.wf, IntKind.min, IntKind.max, IntKind.signed, IntKind.bits, Bool.and_eq_true, decide_eq_true_eq, Bool.false_eq_true, if_false] at this
  omega

/-! customers -/
/-- Customers, as both texts ask: seen from a place on, with the one ahead. -/
def custFrom : Option S44 → List S44 → Bool
  | _, [] => true
  | none, c :: cs => decide (0 ≤ c.f0 ∧ c.f0 ≤ 60 ∧ 1 ≤ c.f1 ∧ c.f1 ≤ 9) && custFrom (some c) cs
  | some p, c :: cs => decide (0 ≤ c.f0 ∧ c.f0 ≤ 60 ∧ 1 ≤ c.f1 ∧ c.f1 ≤ 9 ∧ p.f0 ≤ c.f0) && custFrom (some c) cs
def custOk (l : List S44) : Bool := custFrom none l && decide (l.length ≤ 8)
theorem rd_Customer_nat (l : List S44) (i : Nat) : rd_T44 l (i : Int) = l.getD i z44 := by
  unfold rd_T44
  rw [Int.toNat_natCast]
theorem cust_bad {p : Option S44} {x : S44} {xs : List S44} (h : ¬ (0 ≤ x.f0 ∧ x.f0 ≤ 60 ∧ 1 ≤ x.f1 ∧ x.f1 ≤ 9)) : custFrom p (x :: xs) = false := by
  cases p with
  | none => simp only [custFrom, decide_eq_false h, Bool.false_and]
  | some q => simp only [custFrom, decide_eq_false (show ¬ (0 ≤ x.f0 ∧ x.f0 ≤ 60 ∧ 1 ≤ x.f1 ∧ x.f1 ≤ 9 ∧ q.f0 ≤ x.f0) from fun hh => h ⟨hh.1, hh.2.1, hh.2.2.1, hh.2.2.2.1⟩), Bool.false_and]
theorem cust_bad2 {p x : S44} {xs : List S44} (h : x.f0 < p.f0) : custFrom (some p) (x :: xs) = false := by
  simp only [custFrom, decide_eq_false (show ¬ (0 ≤ x.f0 ∧ x.f0 ≤ 60 ∧ 1 ≤ x.f1 ∧ x.f1 ≤ 9 ∧ p.f0 ≤ x.f0) from fun hh => by omega), Bool.false_and]
theorem impl_CustomersOk_loop (l : List S44) (hl : l.length ≤ 1048576) : ∀ (suf : List S44) (i k : Nat), l.drop i = suf → suf.length < k → i ≤ l.length →
    impl_CustomersOk.l0 k l l (l.length : Int) i = some (custFrom (if i = 0 then none else some (l.getD (i - 1) z44)) suf && decide (l.length ≤ 8)) := by
  intro suf
  induction suf with
  | nil =>
    intro i k hd hk hi
    obtain ⟨k, rfl⟩ : ∃ m, k = m + 1 := ⟨k - 1, by omega⟩
    have := drop_nil hd
    simp only [impl_CustomersOk.l0]
    rw [if_neg (by omega)]
    congr 1
    have e : (decide ((l.length : Int) ≤ 8)) = decide (l.length ≤ 8) := decide_eq_decide.2 (by omega)
    rw [e]
    split <;> simp [custFrom]
  | cons x xs ih =>
    intro i k hd hk hi
    obtain ⟨k, rfl⟩ : ∃ m, k = m + 1 := ⟨k - 1, by omega⟩
    obtain ⟨hlt, hd2, hx⟩ := drop_split hd
    simp only [impl_CustomersOk.l0]
    rw [if_pos (by omega), if_pos (by omega), if_pos (by omega), rd_Customer_nat, hx, w64s i (by omega), ih (i + 1) k hd2 (by simp at hk; omega) (by omega)]
    rw [if_neg (show ¬ i + 1 = 0 by omega), show i + 1 - 1 = i from rfl, hx]
    by_cases h1 : x.f0 < 0
    · rw [if_pos h1, cust_bad (by omega), Bool.false_and]
    rw [if_neg h1]
    by_cases h2 : x.f0 > 60
    · rw [if_pos h2, cust_bad (by omega), Bool.false_and]
    rw [if_neg h2]
    by_cases hi0 : i = 0
    · subst hi0
      rw [if_neg (by omega)]
      by_cases h3 : x.f1 < 1
      · rw [if_pos h3, cust_bad (by omega), Bool.false_and]
      rw [if_neg h3]
      by_cases h4 : x.f1 > 9
      · rw [if_pos h4, cust_bad (by omega), Bool.false_and]
      rw [if_neg h4, if_pos rfl]
      have e : decide (0 ≤ x.f0 ∧ x.f0 ≤ 60 ∧ 1 ≤ x.f1 ∧ x.f1 ≤ 9) = true := decide_eq_true (by omega)
      simp only [custFrom, e, Bool.true_and]
    · rw [if_pos (by omega), show wrap64 ((i : Int) - 1) = ((i - 1 : Nat) : Int) from by rw [w64 (by omega) (by omega)]; omega, if_pos (by omega), if_pos (by omega), rd_Customer_nat, if_neg hi0]
      by_cases h5 : x.f0 < (l.getD (i - 1) z44).f0
      · rw [if_pos h5, cust_bad2 h5, Bool.false_and]
      rw [if_neg h5]
      by_cases h3 : x.f1 < 1
      · rw [if_pos h3, cust_bad (by omega), Bool.false_and]
      rw [if_neg h3]
      by_cases h4 : x.f1 > 9
      · rw [if_pos h4, cust_bad (by omega), Bool.false_and]
      rw [if_neg h4]
      have e : decide (0 ≤ x.f0 ∧ x.f0 ≤ 60 ∧ 1 ≤ x.f1 ∧ x.f1 ≤ 9 ∧ (l.getD (i - 1) z44).f0 ≤ x.f0) = true := decide_eq_true (by omega)
      simp only [custFrom, e, Bool.true_and]
theorem impl_CustomersOk_is (l : List S44) (hl : l.length ≤ 1048576) (k : Nat) (hk : l.length < k) : impl_CustomersOk.f k l = some (custOk l) := by
  unfold impl_CustomersOk.f
  exact impl_CustomersOk_loop l hl l 0 k rfl hk (by omega)

/-! custspec -/
theorem spec_CustomersOk_loop (l : List S44) (hl : l.length ≤ 1048576) : ∀ (suf : List S44) (i k : Nat), l.drop i = suf → suf.length < k → i ≤ l.length →
    spec_CustomersOk.l0 k l i = some (custFrom (if i = 0 then none else some (l.getD (i - 1) z44)) suf && decide (l.length ≤ 8)) := by
  intro suf
  induction suf with
  | nil =>
    intro i k hd hk hi
    obtain ⟨k, rfl⟩ : ∃ m, k = m + 1 := ⟨k - 1, by omega⟩
    have := drop_nil hd
    simp only [spec_CustomersOk.l0]
    rw [if_neg (by omega)]
    congr 1
    have e : (decide ((l.length : Int) ≤ 8)) = decide (l.length ≤ 8) := decide_eq_decide.2 (by omega)
    rw [e]
    split <;> simp [custFrom]
  | cons x xs ih =>
    intro i k hd hk hi
    obtain ⟨k, rfl⟩ : ∃ m, k = m + 1 := ⟨k - 1, by omega⟩
    obtain ⟨hlt, hd2, hx⟩ := drop_split hd
    simp only [spec_CustomersOk.l0]
    rw [if_pos (by omega), if_pos (by omega), rd_Customer_nat, hx, spec_l1In_is, spec_l1In_is, w64s i (by omega), ih (i + 1) k hd2 (by simp at hk; omega) (by omega)]
    simp only [Option.bind_some, decide_eq_true_eq]
    rw [if_neg (show ¬ i + 1 = 0 by omega), show i + 1 - 1 = i from rfl, hx]
    by_cases h1 : 0 ≤ x.f0 ∧ x.f0 ≤ 60
    · rw [if_pos h1]
      by_cases h2 : 1 ≤ x.f1 ∧ x.f1 ≤ 9
      · rw [if_pos h2]
        by_cases hi0 : i = 0
        · subst hi0
          rw [if_neg (by omega), if_pos rfl]
          have e : decide (0 ≤ x.f0 ∧ x.f0 ≤ 60 ∧ 1 ≤ x.f1 ∧ x.f1 ≤ 9) = true := decide_eq_true (by omega)
          simp only [custFrom, e, Bool.true_and]
        · rw [if_pos (by omega), show wrap64 ((i : Int) - 1) = ((i - 1 : Nat) : Int) from by rw [w64 (by omega) (by omega)]; omega, if_pos (by omega), if_pos (by omega), rd_Customer_nat, if_neg hi0]
          by_cases h5 : x.f0 < (l.getD (i - 1) z44).f0
          · rw [if_pos h5, cust_bad2 h5, Bool.false_and]
          rw [if_neg h5]
          have e : decide (0 ≤ x.f0 ∧ x.f0 ≤ 60 ∧ 1 ≤ x.f1 ∧ x.f1 ≤ 9 ∧ (l.getD (i - 1) z44).f0 ≤ x.f0) = true := decide_eq_true (by omega)
          simp only [custFrom, e, Bool.true_and]
      · rw [if_neg h2, cust_bad (by omega), Bool.false_and]
    · rw [if_neg h1, cust_bad (by omega), Bool.false_and]
theorem spec_CustomersOk_is (l : List S44) (hl : l.length ≤ 1048576) (k : Nat) (hk : l.length < k) : spec_CustomersOk.f k l = some (custOk l) := by
  unfold spec_CustomersOk.f
  exact spec_CustomersOk_loop l hl l 0 k rfl hk (by omega)

/-! custfacts -/
theorem custFrom_tail {p : Option S44} {x : S44} {xs : List S44} (h : custFrom p (x :: xs) = true) : (0 ≤ x.f0 ∧ x.f0 ≤ 60 ∧ 1 ≤ x.f1 ∧ x.f1 ≤ 9) ∧ custFrom (some x) xs = true ∧ ∀ q, p = some q → q.f0 ≤ x.f0 := by
  cases p with
  | none =>
    simp only [custFrom, Bool.and_eq_true, decide_eq_true_eq] at h
    exact ⟨h.1, h.2, fun q e => by cases e⟩
  | some q =>
    simp only [custFrom, Bool.and_eq_true, decide_eq_true_eq] at h
    exact ⟨⟨h.1.1, h.1.2.1, h.1.2.2.1, h.1.2.2.2.1⟩, h.2, fun q' e => by cases e; exact h.1.2.2.2.2⟩
theorem custFrom_mem {l : List S44} : ∀ {p : Option S44}, custFrom p l = true → ∀ c ∈ l, 0 ≤ c.f0 ∧ c.f0 ≤ 60 ∧ 1 ≤ c.f1 ∧ c.f1 ≤ 9 := by
  induction l with
  | nil => intro p _ c hc; cases hc
  | cons x xs ih =>
    intro p h c hc
    obtain ⟨h1, h2, -⟩ := custFrom_tail h
    rcases List.mem_cons.1 hc with rfl | hc
    · exact h1
    · exact ih h2 c hc
theorem custFrom_le {l : List S44} : ∀ {p : S44}, custFrom (some p) l = true → ∀ c ∈ l, p.f0 ≤ c.f0 := by
  induction l with
  | nil => intro p _ c hc; cases hc
  | cons x xs ih =>
    intro p h c hc
    obtain ⟨h1, h2, h3⟩ := custFrom_tail h
    have hp := h3 p rfl
    rcases List.mem_cons.1 hc with rfl | hc
    · exact hp
    · have := ih h2 c hc; omega
theorem custOk_from {l : List S44} (h : custOk l = true) : custFrom none l = true := by
  unfold custOk at h
  rw [Bool.and_eq_true] at h
  exact h.1
theorem custOk_len {l : List S44} (h : custOk l = true) : l.length ≤ 8 := by
  unfold custOk at h
  rw [Bool.and_eq_true] at h
  exact of_decide_eq_true h.2
theorem custOk_mem {l : List S44} (h : custOk l = true) : ∀ c ∈ l, 0 ≤ c.f0 ∧ c.f0 ≤ 60 ∧ 1 ≤ c.f1 ∧ c.f1 ≤ 9 := custFrom_mem (custOk_from h)
theorem custFrom_adj {l : List S44} : ∀ {p : Option S44}, custFrom p l = true → ∀ i, i + 1 < l.length → (l.getD i z44).f0 ≤ (l.getD (i + 1) z44).f0 := by
  induction l with
  | nil => intro p _ i h; simp at h
  | cons x xs ih =>
    intro p h i hi
    obtain ⟨h1, h2, -⟩ := custFrom_tail h
    cases i with
    | zero => exact custFrom_le h2 (xs.getD 0 z44) (getD_mem (by simpa using hi) _)
    | succ i => exact ih h2 i (by simpa using hi)

/-! alive -/
theorem alive_is (k : Nat) (hk : 2 ≤ k) : laws_alive.f k = some true := by
  unfold laws_alive.f
  rw [impl_CustomersOk_is _ (by simp) k (by simp; omega)]
  simp only [Option.bind_some]
  rw [if_pos (by decide), impl_CustomersOk_is _ (by simp) k (by simp; omega)]
  rfl

/-! sameints -/
theorem sameInts_loop (a : List Int) (ha : a.length ≤ 1048576) : ∀ (suf : List Int) (i k : Nat), a.drop i = suf → suf.length < k → laws_sameInts.l0 k a a i = some true := by
  intro suf
  induction suf with
  | nil =>
    intro i k hd hk
    obtain ⟨k, rfl⟩ : ∃ m, k = m + 1 := ⟨k - 1, by omega⟩
    have := drop_nil hd
    simp only [laws_sameInts.l0]
    rw [if_neg (by omega)]
  | cons x xs ih =>
    intro i k hd hk
    obtain ⟨k, rfl⟩ : ∃ m, k = m + 1 := ⟨k - 1, by omega⟩
    obtain ⟨hlt, hd2, hx⟩ := drop_split hd
    simp only [laws_sameInts.l0]
    rw [if_pos (by omega), if_pos (by omega), if_pos (by omega), if_pos trivial, w64s i (by omega), ih (i + 1) k hd2 (by simp at hk; omega)]
theorem sameInts_is (a : List Int) (ha : a.length ≤ 1048576) (k : Nat) (hk : a.length < k) : laws_sameInts.f k a a = some true := by
  unfold laws_sameInts.f
  rw [if_pos rfl]
  exact sameInts_loop a ha a 0 k rfl hk

/-! drawcust -/
theorem l20Customers_loop {s : List Int} (hs : ∀ x ∈ s, 0 ≤ x ∧ x ≤ 255) (hl : s.length ≤ 2000) (m wide high : Int) (hm : m ≤ 1000) : ∀ (d : Nat) (k : Nat) (l : List S44) (t p : Int), d + 2 ≤ k → 0 ≤ p → p + 2 * d + 4 ≤ 1000000 → l.length + d ≤ 100 →
    ∃ r q, spec_l20Customers.l0 k m l t wide high d s p = some (r, q) ∧ r.length ≤ 200 ∧ p ≤ q ∧ q ≤ p + 2 * d + 4 := by
  intro d
  induction d with
  | zero =>
    intro k l t p hk hp hp2 hll
    obtain ⟨k, rfl⟩ : ∃ m, k = m + 1 := ⟨k - 1, by omega⟩
    simp only [spec_l20Customers.l0]
    rw [if_neg (by omega)]
    obtain ⟨b, q, e, hq1, hq2, -⟩ := odd_ok (k := k) (by omega) hs hl p hp (by omega) m hm
    rw [e]; simp only [Option.bind_some]
    cases b with
    | false => rw [if_neg (by simp)]; exact ⟨_, _, rfl, by omega, by omega, by omega⟩
    | true =>
      rw [if_pos rfl]
      obtain ⟨v, e2, hv⟩ := pick_ok (k := k) (by omega) hs hl q (by omega) (by omega) 3
      rw [e2]; simp only [Option.bind_some]
      by_cases v0 : v = 0
      · rw [if_pos v0]; exact ⟨_, _, rfl, by simp, by omega, by omega⟩
      · rw [if_neg v0]
        by_cases v1 : v = 1
        · rw [if_pos v1, if_pos (by omega)]; exact ⟨_, _, rfl, by rw [List.length_append]; simp; omega, by omega, by omega⟩
        · rw [if_neg v1]
          obtain ⟨v2, e3, hv2, hv3, -⟩ := pick_ok (k := k) (by omega) hs hl (q + 1) (by omega) (by omega) 2
          have hv3 := hv3 (by omega)
          rw [e3]; simp only [Option.bind_some]
          rw [if_pos hv2, if_pos (by simp; omega)]
          exact ⟨_, _, rfl, by simp, by omega, by omega⟩
  | succ d ih =>
    intro k l t p hk hp hp2 hll
    obtain ⟨k, rfl⟩ : ∃ m, k = m + 1 := ⟨k - 1, by omega⟩
    simp only [spec_l20Customers.l0]
    rw [if_pos (by omega)]
    obtain ⟨v, e, -⟩ := pick_ok (k := k) (by omega) hs hl p hp (by omega) high
    rw [e]; simp only [Option.bind_some]
    rw [if_pos (by omega)]
    obtain ⟨v2, e2, -⟩ := pick_ok (k := k) (by omega) hs hl (p + 1) (by omega) (by omega) (wrap64 (wide + 1))
    rw [e2]; simp only [Option.bind_some]
    rw [show wrap64 (((d + 1 : Nat) : Int) - 1) = (d : Int) from by rw [w64 (by omega) (by omega)]; omega]
    obtain ⟨r, q, e3, h1, h2, h3⟩ := ih k (l ++ [⟨t, wrap64 (1 + v)⟩]) (wrap64 (t + v2)) (p + 1 + 1) (by omega) (by omega) (by omega) (by rw [List.length_append]; simp; omega)
    exact ⟨r, q, e3, h1, by omega, by omega⟩
theorem l20Customers_ok {s : List Int} (hs : ∀ x ∈ s, 0 ≤ x ∧ x ≤ 255) (hl : s.length ≤ 2000) (m : Int) (hm : m ≤ 1000) (k : Nat) (hk : 20 ≤ k) (p : Int) (hp : 0 ≤ p) (hp2 : p ≤ 100000) :
    ∃ r q, spec_l20Customers.f k s p m = some (r, q) ∧ r.length ≤ 200 ∧ p ≤ q ∧ q ≤ p + 30 := by
  unfold spec_l20Customers.f
  obtain ⟨v0, e0, -⟩ := pick_ok (k := k) (by omega) hs hl p hp (by omega) 3
  rw [e0]; simp only [Option.bind_some]
  obtain ⟨v, e, -⟩ := pick_ok (k := k) (by omega) hs hl (p + 1) (by omega) (by omega) 5
  rw [e]; simp only [Option.bind_some]
  obtain ⟨v1, e1, h10, h11, -⟩ := pick_ok (k := k) (by omega) hs hl (p + 1 + 1) (by omega) (by omega) 2
  have h11 := h11 (by omega)
  rw [e1]; simp only [Option.bind_some]
  rw [if_pos h10, if_pos (by simp; omega)]
  obtain ⟨v2, e2, hv2, hv3, -⟩ := pick_ok (k := k) (by omega) hs hl (p + 1 + 1 + 1) (by omega) (by omega) 9
  have hv3 := hv3 (by omega)
  rw [e2]; simp only [Option.bind_some]
  obtain ⟨r, q, e3, h1, h2, h3⟩ := l20Customers_loop hs hl m (wrap64 (1 + v)) (rd [3, 9] v1) hm v2.toNat k [] v0 (p + 1 + 1 + 1 + 1) (by omega) (by omega) (by omega) (by simp only [List.length_nil]; omega)
  rw [show ((v2.toNat : Nat) : Int) = v2 from by omega] at e3
  exact ⟨r, q, e3, h1, by omega, by omega⟩

/-! drawbeside -/
theorem tdiv_small (x c : Int) (h0 : 0 ≤ x) (h1 : x ≤ 1000) (hc : 0 < c) : 0 ≤ Int.tdiv x c ∧ Int.tdiv x c ≤ 1000 := by
  rw [Int.tdiv_eq_ediv_of_nonneg h0]
  have := Int.ediv_le_self c h0
  exact ⟨Int.ediv_nonneg h0 (by omega), by omega⟩
theorem l20Beside_ok {s : List Int} (hs : ∀ x ∈ s, 0 ≤ x ∧ x ≤ 255) (hl : s.length ≤ 2000) (k : Nat) (hk : 20 ≤ k) (p : Int) (hp : 0 ≤ p) (hp2 : p ≤ 100) :
    ∃ r c q, spec_l20Beside.f k s p = some (r, c, q) ∧ r.length ≤ 200 ∧ -100000 ≤ c ∧ c ≤ 100000 ∧ 0 ≤ q ∧ q ≤ p + 40 := by
  unfold spec_l20Beside.f
  obtain ⟨r, q, e, h1, h2, h3⟩ := l20Customers_ok hs hl 12 (by omega) k hk p hp (by omega)
  rw [e]; simp only [Option.bind_some]
  obtain ⟨v1, e1, a1, b1, -⟩ := pick_ok (k := k) (by omega) hs hl q (by omega) (by omega) 4
  have b1 := b1 (by omega)
  rw [e1]; simp only [Option.bind_some]
  obtain ⟨v2, e2, a2, b2, -⟩ := pick_ok (k := k) (by omega) hs hl (q + 1) (by omega) (by omega) 30
  have b2 := b2 (by omega)
  rw [e2]; simp only [Option.bind_some]
  obtain ⟨v3, e3, a3, b3, -⟩ := pick_ok (k := k) (by omega) hs hl (q + 1 + 1) (by omega) (by omega) 40
  have b3 := b3 (by omega)
  rw [e3]; simp only [Option.bind_some]
  have t2 := tdiv_small v2 29 a2 (by omega) (by omega)
  have t3 := tdiv_small v3 39 a3 (by omega) (by omega)
  rw [show wrap64 (Int.tdiv v2 29) = Int.tdiv v2 29 from w64 (by omega) (by omega), show wrap64 (Int.tdiv v3 39) = Int.tdiv v3 39 from w64 (by omega) (by omega), show wrap64 (1 + v1) = 1 + v1 from w64 (by omega) (by omega), show wrap64 (1 + v1 + Int.tdiv v2 29) = 1 + v1 + Int.tdiv v2 29 from w64 (by omega) (by omega), show wrap64 (Int.tdiv v3 39 * 5) = Int.tdiv v3 39 * 5 from w64 (by omega) (by omega), show wrap64 (1 + v1 + Int.tdiv v2 29 - Int.tdiv v3 39 * 5) = 1 + v1 + Int.tdiv v2 29 - Int.tdiv v3 39 * 5 from w64 (by omega) (by omega)]
  exact ⟨_, _, _, rfl, h1, by omega, by omega, by omega, by omega⟩

/-! begins -/
/-! Counters beside each other: the times at which they are free, in order. -/
def cnt (t : Int) : List Int → Nat
  | [] => 0
  | x :: xs => (if x ≤ t then 1 else 0) + cnt t xs
def ins (x : Int) : List Int → List Int
  | [] => [x]
  | y :: ys => if y ≤ x then y :: ins x ys else x :: y :: ys
def begP : List S44 → List Int → List Int
  | [], _ => []
  | x :: xs, fs => max (fs.headD 0) x.f0 :: begP xs (ins (max (fs.headD 0) x.f0 + x.f1) fs.tail)
theorem begP_length (l : List S44) : ∀ fs, (begP l fs).length = l.length := by
  induction l with
  | nil => intro fs; rfl
  | cons x xs ih => intro fs; simp [begP, ih]
def sorted : List Int → Prop
  | [] => True
  | x :: xs => (∀ y ∈ xs, x ≤ y) ∧ sorted xs
theorem ins_length (x : Int) (l : List Int) : (ins x l).length = l.length + 1 := by
  induction l with
  | nil => rfl
  | cons y ys ih => unfold ins; split <;> simp [ih]
theorem ins_mem {x y : Int} {l : List Int} (h : y ∈ ins x l) : y = x ∨ y ∈ l := by
  induction l with
  | nil => simp [ins] at h; exact .inl h
  | cons z zs ih =>
    unfold ins at h
    split at h
    · rcases List.mem_cons.1 h with h | h
      · exact .inr (by simp [h])
      · rcases ih h with h | h
        · exact .inl h
        · exact .inr (by simp [h])
    · rcases List.mem_cons.1 h with h | h
      · exact .inl h
      · exact .inr h
theorem ins_sorted {x : Int} {l : List Int} (h : sorted l) : sorted (ins x l) := by
  induction l with
  | nil => exact ⟨by simp, trivial⟩
  | cons y ys ih =>
    unfold ins
    split
    · rename_i hle
      refine ⟨fun z hz => ?_, ih h.2⟩
      rcases ins_mem hz with rfl | hz
      · exact hle
      · exact h.1 z hz
    · rename_i hle
      refine ⟨fun z hz => ?_, h⟩
      rcases List.mem_cons.1 hz with rfl | hz
      · omega
      · have := h.1 z hz; omega
theorem cnt_ins (t x : Int) (l : List Int) : cnt t (ins x l) = (if x ≤ t then 1 else 0) + cnt t l := by
  induction l with
  | nil => rfl
  | cons y ys ih =>
    unfold ins
    split
    · simp only [cnt, ih]; omega
    · simp only [cnt]
theorem cnt_pos {t : Int} {l : List Int} : 1 ≤ cnt t l ↔ ∃ x ∈ l, x ≤ t := by
  induction l with
  | nil => simp [cnt]
  | cons y ys ih =>
    simp only [cnt]
    constructor
    · intro h
      by_cases hy : y ≤ t
      · exact ⟨y, by simp, hy⟩
      · rw [if_neg hy] at h
        obtain ⟨x, hx, hxt⟩ := ih.1 (by omega)
        exact ⟨x, by simp [hx], hxt⟩
    · rintro ⟨x, hx, hxt⟩
      rcases List.mem_cons.1 hx with rfl | hx
      · rw [if_pos hxt]; omega
      · have := ih.2 ⟨x, hx, hxt⟩; omega
theorem cnt_le (t : Int) (l : List Int) : cnt t l ≤ l.length := by
  induction l with
  | nil => simp [cnt]
  | cons y ys ih => simp only [cnt, List.length_cons]; split <;> omega
theorem cnt_head {t x : Int} {xs : List Int} (h : sorted (x :: xs)) : 1 ≤ cnt t (x :: xs) ↔ x ≤ t := by
  rw [cnt_pos]
  constructor
  · rintro ⟨y, hy, hyt⟩
    rcases List.mem_cons.1 hy with rfl | hy
    · exact hyt
    · have := h.1 y hy; omega
  · intro h2; exact ⟨x, by simp, h2⟩
/-- One more served: what the free times count to. -/
theorem cnt_step {t v x : Int} {xs : List Int} (h : sorted (x :: xs)) : cnt t (ins v xs) = (if v ≤ t then 1 else 0) + (cnt t (x :: xs) - 1) := by
  rw [cnt_ins]
  congr 1
  simp only [cnt]
  by_cases hx : x ≤ t
  · rw [if_pos hx]; omega
  · rw [if_neg hx]
    have : cnt t xs = 0 := by
      have h1 : ¬ 1 ≤ cnt t (x :: xs) := fun h2 => hx ((cnt_head h).1 h2)
      simp only [cnt] at h1
      omega
    omega
/-- gs is later than fs: fewer are free at any time. -/
def dom (fs gs : List Int) : Prop := ∀ t, cnt t gs ≤ cnt t fs
theorem dom_head {x y : Int} {xs ys : List Int} (hx : sorted (x :: xs)) (hy : sorted (y :: ys)) (h : dom (x :: xs) (y :: ys)) : x ≤ y := by
  refine (cnt_head hx).1 ?_
  have := h y
  have := (cnt_head (t := y) hy).2 (by omega)
  omega
def allLe : List Int → List Int → Prop
  | [], [] => True
  | a :: ts, b :: bs => a ≤ b ∧ allLe ts bs
  | _, _ => False
theorem allLe_get : ∀ {ts bs : List Int}, allLe ts bs → ∀ i, ts.getD i 0 ≤ bs.getD i 0 := by
  intro ts
  induction ts with
  | nil => intro bs h i; cases bs with
    | nil => exact Int.le_refl _
    | cons b bs => exact absurd h (by simp [allLe])
  | cons a ts ih => intro bs h i; cases bs with
    | nil => exact absurd h (by simp [allLe])
    | cons b bs =>
      cases i with
      | zero => exact h.1
      | succ i => exact ih h.2 i
/-- Customers who come alike and need no less. -/
def needMore : List S44 → List S44 → Prop
  | [], [] => True
  | a :: ts, b :: bs => a.f0 = b.f0 ∧ a.f1 ≤ b.f1 ∧ needMore ts bs
  | _, _ => False
theorem needMore_refl (l : List S44) : needMore l l := by
  induction l with
  | nil => trivial
  | cons x xs ih => exact ⟨rfl, Int.le_refl _, ih⟩
theorem tail_cons {fs : List Int} (h : 0 < fs.length) : ∃ x xs, fs = x :: xs := by
  cases fs with
  | nil => simp at h
  | cons x xs => exact ⟨x, xs, rfl⟩
theorem begP_mono : ∀ {l m : List S44}, needMore l m → ∀ {fs gs : List Int}, sorted fs → sorted gs → 0 < fs.length → 0 < gs.length → dom fs gs → allLe (begP l fs) (begP m gs) := by
  intro l
  induction l with
  | nil => intro m h fs gs _ _ _ _ _; cases m with
    | nil => trivial
    | cons b bs => exact absurd h (by simp [needMore])
  | cons a ts ih => intro m h fs gs hf hg hf0 hg0 hd; cases m with
    | nil => exact absurd h (by simp [needMore])
    | cons b bs =>
      obtain ⟨x, xs, rfl⟩ := tail_cons hf0
      obtain ⟨y, ys, rfl⟩ := tail_cons hg0
      have hxy := dom_head hf hg hd
      obtain ⟨h1, h2, h3⟩ := h
      refine ⟨?_, ih h3 (ins_sorted hf.2) (ins_sorted hg.2) (by rw [ins_length]; omega) (by rw [ins_length]; omega) ?_⟩
      · simp only [List.headD_cons]; omega
      · intro t
        simp only [List.headD_cons, List.tail_cons]
        rw [cnt_step hf, cnt_step hg]
        have := hd t
        have hle : max x a.f0 + a.f1 ≤ max y b.f0 + b.f1 := by omega
        split <;> split <;> omega
/-- Nobody begins before coming, nor before the one ahead. -/
theorem begP_up : ∀ (l : List S44) (p : Option S44) (fs : List Int), custFrom p l = true → sorted fs → 0 < fs.length → ∀ i, i < l.length → (l.getD i z44).f0 ≤ (begP l fs).getD i 0 ∧ fs.headD 0 ≤ (begP l fs).getD i 0 ∧ (0 < i → (begP l fs).getD (i - 1) 0 ≤ (begP l fs).getD i 0) := by
  intro l
  induction l with
  | nil => intro p fs _ _ _ i hi; simp at hi
  | cons a ts ih =>
    intro p fs hc hf hf0 i hi
    obtain ⟨x, xs, rfl⟩ := tail_cons hf0
    obtain ⟨h1, h2, -⟩ := custFrom_tail hc
    cases i with
    | zero =>
      refine ⟨?_, ?_, fun h => by omega⟩
      · show a.f0 ≤ max x a.f0; omega
      · show x ≤ max x a.f0; omega
    | succ i =>
      have hs := ins_sorted (x := max x a.f0 + a.f1) hf.2
      obtain ⟨i1, i2, i3⟩ := ih (some a) (ins (max x a.f0 + a.f1) xs) h2 hs (by rw [ins_length]; omega) i (by simpa using hi)
      have hhead : x ≤ (ins (max x a.f0 + a.f1) xs).headD 0 := by
        obtain ⟨y, ys, e⟩ := tail_cons (fs := ins (max x a.f0 + a.f1) xs) (by rw [ins_length]; omega)
        have hy : y ∈ ins (max x a.f0 + a.f1) xs := by rw [e]; simp
        rw [e]
        rcases ins_mem hy with rfl | hy
        · show x ≤ max x a.f0 + a.f1; omega
        · exact hf.1 y hy
      refine ⟨i1, ?_, fun _ => ?_⟩
      · show x ≤ (begP ts (ins (max x a.f0 + a.f1) xs)).getD i 0
        omega
      · show (begP (a :: ts) (x :: xs)).getD i 0 ≤ (begP ts (ins (max x a.f0 + a.f1) xs)).getD i 0
        cases i with
        | zero =>
          show max x a.f0 ≤ _
          have := custFrom_le h2 (ts.getD 0 z44) (getD_mem (by simpa using hi) _)
          omega
        | succ j => exact i3 (by omega)
theorem begP_bound : ∀ (l : List S44) (fs : List Int) (B : Int), (∀ c ∈ l, 0 ≤ c.f0 ∧ c.f0 ≤ 60 ∧ 1 ≤ c.f1 ∧ c.f1 ≤ 9) → 60 ≤ B → (∀ x ∈ fs, 0 ≤ x ∧ x ≤ B) → ∀ b ∈ begP l fs, 0 ≤ b ∧ b ≤ B + 9 * l.length := by
  intro l
  induction l with
  | nil => intro fs B _ _ _ b hb; cases hb
  | cons a ts ih =>
    intro fs B hl hB hf b hb
    have ha := hl a (by simp)
    have hh : 0 ≤ fs.headD 0 ∧ fs.headD 0 ≤ B := by
      cases fs with
      | nil => simp; omega
      | cons x xs => exact hf x (by simp)
    rcases List.mem_cons.1 hb with rfl | hb
    · simp only [List.length_cons]; omega
    · have := ih (ins (max (fs.headD 0) a.f0 + a.f1) fs.tail) (B + 9) (fun c hc => hl c (List.mem_cons_of_mem _ hc)) (by omega) (fun x hx => ?_) b hb
      · simp only [List.length_cons]; omega
      · rcases ins_mem hx with rfl | hx
        · omega
        · have := hf x (List.mem_of_mem_tail hx); omega
theorem cnt_rep (t : Int) (n : Nat) : cnt t (List.replicate n 0) = if 0 ≤ t then n else 0 := by
  induction n with
  | zero => simp [cnt]
  | succ n ih => simp only [List.replicate_succ, cnt, ih]; split <;> omega
theorem rep_sorted (n : Nat) : sorted (List.replicate n 0) := by
  induction n with
  | zero => trivial
  | succ n ih => exact ⟨fun y hy => by rw [List.eq_of_mem_replicate hy]; omega, ih⟩
/-- With enough counters nobody waits. -/
theorem begP_none : ∀ (l : List S44) (fs : List Int), (∀ c ∈ l, 0 ≤ c.f0) → sorted fs → l.length ≤ cnt 0 fs → begP l fs = l.map (·.f0) := by
  intro l
  induction l with
  | nil => intro fs _ _ _; rfl
  | cons a ts ih =>
    intro fs hl hf hc
    simp only [List.length_cons] at hc
    obtain ⟨x, xs, rfl⟩ := tail_cons (fs := fs) (by have := cnt_le 0 fs; omega)
    have hx := (cnt_head (t := 0) hf).1 (by omega)
    have ha := hl a (by simp)
    simp only [begP, List.headD_cons, List.tail_cons, List.map_cons]
    rw [ih _ (fun c hc => hl c (List.mem_cons_of_mem _ hc)) (ins_sorted hf.2) (by rw [cnt_step hf]; omega), show max x a.f0 = a.f0 from by omega]
/-! The unsorted row of the program. -/
def same (F fs : List Int) : Prop := ∀ t, cnt t F = cnt t fs
theorem cnt_set : ∀ (F : List Int) (i : Nat) (v t : Int), i < F.length → cnt t (F.set i v) + (if F.getD i 0 ≤ t then 1 else 0) = cnt t F + (if v ≤ t then 1 else 0) := by
  intro F
  induction F with
  | nil => intro i v t h; simp at h
  | cons x xs ih =>
    intro i v t h
    cases i with
    | zero => simp only [List.set_cons_zero, cnt, List.getD_cons_zero]; omega
    | succ i =>
      have := ih i v t (by simpa using h)
      simp only [List.set_cons_succ, cnt, List.getD_cons_succ]
      omega
theorem same_min {F fs : List Int} {m x : Int} {xs : List Int} (h : same F fs) (e : fs = x :: xs) (hs : sorted fs) (hm : m ∈ F) (hle : ∀ y ∈ F, m ≤ y) : m = x := by
  subst e
  have h1 : x ≤ m := (cnt_head hs).1 (by rw [← h m]; exact cnt_pos.2 ⟨m, hm, by omega⟩)
  obtain ⟨y, hy, hyx⟩ := cnt_pos.1 (show 1 ≤ cnt x F by rw [h x]; exact (cnt_head hs).2 (by omega))
  have := hle y hy
  omega
theorem same_step {F : List Int} {i : Nat} {x v : Int} {xs : List Int} (h : same F (x :: xs)) (hs : sorted (x :: xs)) (hi : i < F.length) (hx : F.getD i 0 = x) : same (F.set i v) (ins v xs) := by
  intro t
  have h1 := cnt_set F i v t hi
  have h2 := h t
  rw [hx] at h1
  rw [cnt_ins]
  simp only [cnt] at h2
  omega

/-! begins_impl -/
theorem index_loop (F : List Int) (v : Int) (hF : F.length ≤ 1048576) : ∀ (d i k : Nat), i + d = F.length → d < k → (∃ j, i ≤ j ∧ j < F.length ∧ F.getD j 0 = v) → ∃ j : Nat, slices_Index_int_int.l0 k F v (F.length : Int) i = some (j : Int) ∧ j < F.length ∧ F.getD j 0 = v := by
  intro d
  induction d with
  | zero =>
    intro i k h hk he
    obtain ⟨j, h1, h2, -⟩ := he
    omega
  | succ d ih =>
    intro i k h hk he
    obtain ⟨k, rfl⟩ : ∃ m, k = m + 1 := ⟨k - 1, by omega⟩
    simp only [slices_Index_int_int.l0]
    rw [if_pos (by omega), if_pos (by omega), if_pos (by omega), rd_nat]
    by_cases hv : v = F.getD i 0
    · rw [if_pos hv]; exact ⟨i, rfl, by omega, hv.symm⟩
    · rw [if_neg hv, w64s i (by omega)]
      refine ih (i + 1) k (by omega) (by omega) ?_
      obtain ⟨j, h1, h2, h3⟩ := he
      refine ⟨j, ?_, h2, h3⟩
      by_cases e : j = i
      · subst e; exact absurd h3.symm hv
      · omega
theorem index_is (F : List Int) (v : Int) (hF : F.length ≤ 1048576) (k : Nat) (hk : F.length < k) (hv : v ∈ F) : ∃ j : Nat, slices_Index_int_int.f k F v = some (j : Int) ∧ j < F.length ∧ F.getD j 0 = v := by
  obtain ⟨j, hj, e⟩ := List.getElem_of_mem hv
  exact index_loop F v hF F.length 0 k (by omega) hk ⟨j, by omega, hj, by rw [getD_lt hj]; exact e⟩
theorem min_loop (F : List Int) (hF : F.length ≤ 1048576) : ∀ (d i k : Nat) (m : Int), i + d = F.length → d < k → m ∈ F → (∀ j, j < i → m ≤ F.getD j 0) → ∃ m1, slices_Min_int_int.l0 k F m i = some m1 ∧ m1 ∈ F ∧ ∀ y ∈ F, m1 ≤ y := by
  intro d
  induction d with
  | zero =>
    intro i k m h hk hm hj
    obtain ⟨k, rfl⟩ : ∃ m, k = m + 1 := ⟨k - 1, by omega⟩
    simp only [slices_Min_int_int.l0]
    rw [if_neg (by omega)]
    refine ⟨m, rfl, hm, fun y hy => ?_⟩
    obtain ⟨j, hjl, e⟩ := List.getElem_of_mem hy
    have := hj j (by omega)
    rw [getD_lt hjl, e] at this
    exact this
  | succ d ih =>
    intro i k m h hk hm hj
    obtain ⟨k, rfl⟩ : ∃ m, k = m + 1 := ⟨k - 1, by omega⟩
    simp only [slices_Min_int_int.l0]
    rw [if_pos (by omega), if_pos (by omega), rd_nat, w64s i (by omega), mn_min]
    have hi : i < F.length := by omega
    refine ih (i + 1) k (min m (F.getD i 0)) (by omega) (by omega) ?_ (fun j hj2 => ?_)
    · by_cases hle : m ≤ F.getD i 0
      · rw [show min m (F.getD i 0) = m from by omega]; exact hm
      · rw [show min m (F.getD i 0) = F.getD i 0 from by omega]; exact getD_mem hi _
    · by_cases e : j = i
      · subst e; omega
      · have := hj j (by omega); omega
theorem min_is (F : List Int) (hF : F.length ≤ 1048576) (h0 : 0 < F.length) (k : Nat) (hk : F.length < k) : ∃ m, slices_Min_int_int.f k F = some m ∧ m ∈ F ∧ ∀ y ∈ F, m ≤ y := by
  unfold slices_Min_int_int.f
  rw [if_neg (by omega), if_pos (by omega)]
  refine min_loop F hF (F.length - 1) 1 k (rd F 0) (by omega) (by omega) (by rw [show (0 : Int) = ((0 : Nat) : Int) from rfl, rd_nat]; exact getD_mem h0 _) (fun j hj => ?_)
  have : j = 0 := by omega
  subst this
  rw [show (0 : Int) = ((0 : Nat) : Int) from rfl, rd_nat]
  exact Int.le_refl _
theorem impl_BeginsOf_loop (l : List S44) (hl : l.length ≤ 8) (hm : ∀ c ∈ l, 0 ≤ c.f0 ∧ c.f0 ≤ 60 ∧ 1 ≤ c.f1 ∧ c.f1 ≤ 9) : ∀ (suf : List S44) (i k : Nat) (F fs out : List Int), l.drop i = suf → suf.length + fs.length + 3 ≤ k → out.length ≤ i → i ≤ l.length →
    same F fs → sorted fs → 0 < fs.length → fs.length ≤ 4 → F.length = fs.length → (∀ x ∈ fs, 0 ≤ x ∧ x ≤ 60 + 9 * i) → impl_BeginsOf.l0 k F out l (l.length : Int) i = some (out ++ begP suf fs) := by
  intro suf
  induction suf with
  | nil =>
    intro i k F fs out hd hk ho hi _ _ _ _ _ _
    obtain ⟨k, rfl⟩ : ∃ m, k = m + 1 := ⟨k - 1, by omega⟩
    have := drop_nil hd
    simp only [impl_BeginsOf.l0]
    rw [if_neg (by omega)]
    simp [begP]
  | cons a ts ih =>
    intro i k F fs out hd hk ho hi hS hs h0 h4 hlen hb
    obtain ⟨k, rfl⟩ : ∃ m, k = m + 1 := ⟨k - 1, by omega⟩
    obtain ⟨hlt, hd2, hx⟩ := drop_split hd
    have ha := hm a (by rw [← hx z44]; exact getD_mem hlt _)
    simp only [List.length_cons] at hk
    obtain ⟨m, em, hmF, hmin⟩ := min_is F (by omega) (by omega) k (by omega)
    obtain ⟨j, ej, hjl, hjv⟩ := index_is F m (by omega) k (by omega) hmF
    obtain ⟨x, xs, rfl⟩ := tail_cons h0
    have hmx := same_min hS rfl hs hmF hmin
    subst hmx
    have hxb := hb m (by simp)
    simp only [impl_BeginsOf.l0]
    rw [if_pos (by omega), if_pos (by omega), if_pos (by omega), em]
    simp only [Option.bind_some]
    rw [ej]
    simp only [Option.bind_some]
    rw [if_pos (by omega), if_pos (by omega), if_pos (by omega), rd_nat, hjv, rd_Customer_nat, hx, w64s i (by omega), Int.toNat_natCast, mx_max, show wrap64 (max m a.f0 + a.f1) = max m a.f0 + a.f1 from w64 (by omega) (by omega)]
    rw [ih (i + 1) k _ (ins (max m a.f0 + a.f1) xs) _ hd2 (by rw [ins_length]; simp only [List.length_cons] at hk; omega) (by rw [List.length_append]; simp; omega) (by omega) (same_step hS hs hjl hjv) (ins_sorted hs.2) (by rw [ins_length]; omega) (by rw [ins_length]; simp only [List.length_cons] at h4; omega) (by rw [List.length_set, ins_length]; simpa using hlen) ?_]
    · simp [begP]
    · intro y hy
      rcases ins_mem hy with rfl | hy
      · omega
      · have := hb y (by simp [hy]); omega
theorem impl_BeginsOf_is (l : List S44) (hl : l.length ≤ 1048576) (c : Int) (k : Nat) (hk : l.length + 20 ≤ k) : impl_BeginsOf.f k l c = some (if custOk l = true ∧ 1 ≤ c ∧ c ≤ 4 then begP l (List.replicate c.toNat 0) else []) := by
  obtain ⟨k, rfl⟩ : ∃ m, k = m + 1 := ⟨k - 1, by omega⟩
  unfold impl_BeginsOf.f
  rw [impl_CustomersOk_is l hl (k + 1) (by omega)]
  simp only [Option.bind_some]
  by_cases hok : custOk l = true
  · rw [if_pos hok]
    by_cases h1 : c < 1
    · rw [if_pos h1, if_neg (by omega)]
      simp only [impl_BeginsOf.j0]
      rw [if_pos trivial]
    · rw [if_neg h1]
      simp only [impl_BeginsOf.j0]
      by_cases h2 : c > 4
      · rw [if_pos (by simpa using h2), if_neg (by omega)]
      · have hlen := custOk_len hok
        rw [if_neg (by simpa using h2), if_pos (by omega), if_pos (by omega), if_pos ⟨hok, by omega, by omega⟩]
        exact impl_BeginsOf_loop l hlen (custOk_mem hok) l 0 k _ (List.replicate c.toNat 0) [] rfl (by simp; omega) (by simp) (by omega) (fun _ => rfl) (rep_sorted _) (by simp; omega) (by simp; omega) rfl (fun x hx => by rw [List.eq_of_mem_replicate hx]; omega)
  · rw [if_neg hok, if_neg (fun h => hok h.1)]
    simp only [impl_BeginsOf.j0]
    rw [if_pos trivial]

/-! begins_spec -/
theorem l10_inner (l : List S44) (c : Int) (out : List Int) (i : Nat) (hi : i ≤ 1048576) (e : Int) (r : List Int) (K : Nat) : ∀ (d at_ k : Nat) (X : List Int), (X.length : Int) = c → X.length ≤ 4 → at_ + 1 + d = X.length → K + d + 1 ≤ k →
    (∀ k, K ≤ k → spec_l10Begins.l0 k l c (X.take at_ ++ ins e (X.drop (at_ + 1))) out ((i + 1 : Nat) : Int) = some r) → spec_l10Begins.l1 k l c X out i e at_ = some r := by
  intro d
  induction d with
  | zero =>
    intro at_ k X hc h4 hd hk h
    obtain ⟨k, rfl⟩ : ∃ m, k = m + 1 := ⟨k - 1, by omega⟩
    simp only [spec_l10Begins.l1]
    rw [w64s at_ (by omega), if_neg (by omega), if_pos (by omega), if_pos (by omega), w64s i (by omega), Int.toNat_natCast]
    rw [show X.set at_ e = X.take at_ ++ ins e (X.drop (at_ + 1)) from by
      rw [List.drop_eq_nil_of_le (by omega)]
      rw [List.set_eq_take_append_cons_drop, if_pos (by omega), List.drop_eq_nil_of_le (by omega)]
      rfl]
    exact h k (by omega)
  | succ d ih =>
    intro at_ k X hc h4 hd hk h
    obtain ⟨k, rfl⟩ : ∃ m, k = m + 1 := ⟨k - 1, by omega⟩
    simp only [spec_l10Begins.l1]
    have hlt : at_ + 1 < X.length := by omega
    have hdr : X.drop (at_ + 1) = X.getD (at_ + 1) 0 :: X.drop (at_ + 2) := by rw [getD_lt hlt]; exact List.drop_eq_getElem_cons hlt
    rw [w64s at_ (by omega), if_pos (by omega), if_pos (by omega), if_pos (by omega), rd_nat, Int.toNat_natCast]
    by_cases hle : X.getD (at_ + 1) 0 ≤ e
    · rw [if_pos hle, if_pos (by omega), if_pos (by omega)]
      refine ih (at_ + 1) k (X.set at_ (X.getD (at_ + 1) 0)) (by rw [List.length_set]; exact hc) (by rw [List.length_set]; exact h4) (by rw [List.length_set]; omega) (by omega) ?_
      intro k' hk'
      have := h k' hk'
      rw [hdr] at this
      unfold ins at this
      rw [if_pos hle] at this
      have e1 : (X.set at_ (X.getD (at_ + 1) 0)).take (at_ + 1) = X.take at_ ++ [X.getD (at_ + 1) 0] := by
        rw [take_succ_getD (by rw [List.length_set]; omega) 0, List.take_set_of_le (Nat.le_refl _)]
        congr 1
        rw [getD_lt (by rw [List.length_set]; omega), List.getElem_set_self]
      have e2 : (X.set at_ (X.getD (at_ + 1) 0)).drop (at_ + 1 + 1) = X.drop (at_ + 2) := by rw [List.drop_set_of_lt (by omega)]
      rw [e1, e2, List.append_assoc]
      exact this
    · rw [if_neg hle, if_pos (by omega), if_pos (by omega), w64s i (by omega)]
      rw [show X.set at_ e = X.take at_ ++ ins e (X.drop (at_ + 1)) from by
        rw [hdr]
        unfold ins
        rw [if_neg hle, ← hdr, List.set_eq_take_append_cons_drop, if_pos (by omega)]]
      exact h k (by omega)
theorem spec_l10Begins_loop (l : List S44) (hl : l.length ≤ 8) (hm : ∀ c ∈ l, 0 ≤ c.f0 ∧ c.f0 ≤ 60 ∧ 1 ≤ c.f1 ∧ c.f1 ≤ 9) (c : Int) : ∀ (suf : List S44) (i k : Nat) (fs out : List Int), l.drop i = suf → suf.length * 8 + 1 ≤ k → out.length ≤ i → i ≤ l.length →
    0 < fs.length → fs.length ≤ 4 → (fs.length : Int) = c → (∀ x ∈ fs, 0 ≤ x ∧ x ≤ 60 + 9 * i) → spec_l10Begins.l0 k l c fs out i = some (out ++ begP suf fs) := by
  intro suf
  induction suf with
  | nil =>
    intro i k fs out hd hk ho hi _ _ _ _
    obtain ⟨k, rfl⟩ : ∃ m, k = m + 1 := ⟨k - 1, by omega⟩
    have := drop_nil hd
    simp only [spec_l10Begins.l0]
    rw [if_neg (by omega)]
    simp [begP]
  | cons a ts ih =>
    intro i k fs out hd hk ho hi h0 h4 hc hb
    obtain ⟨k, rfl⟩ : ∃ m, k = m + 1 := ⟨k - 1, by omega⟩
    obtain ⟨hlt, hd2, hx⟩ := drop_split hd
    have ha := hm a (by rw [← hx z44]; exact getD_mem hlt _)
    simp only [List.length_cons] at hk
    obtain ⟨x, xs, rfl⟩ := tail_cons h0
    have hxb := hb x (by simp)
    simp only [spec_l10Begins.l0]
    rw [if_pos (by omega), if_pos (by omega), if_pos (by omega), if_pos (by omega), rd_Customer_nat, hx, mx_max]
    rw [show rd (x :: xs) 0 = x from rfl, show wrap64 (max x a.f0 + a.f1) = max x a.f0 + a.f1 from w64 (by omega) (by omega)]
    refine l10_inner l c (out ++ [max x a.f0]) i (by omega) (max x a.f0 + a.f1) _ (ts.length * 8 + 1) xs.length 0 k (x :: xs) hc h4 (by simp; omega) (by simp only [List.length_cons] at h4; omega) ?_
    intro k' hk'
    simp only [List.take_zero, List.nil_append, Nat.zero_add, List.drop_succ_cons, List.drop_zero]
    rw [ih (i + 1) k' (ins (max x a.f0 + a.f1) xs) _ hd2 hk' (by rw [List.length_append]; simp; omega) (by omega) (by rw [ins_length]; omega) (by rw [ins_length]; simpa using h4) (by rw [ins_length]; simpa using hc) ?_]
    · simp [begP]
    · intro y hy
      rcases ins_mem hy with rfl | hy
      · omega
      · have := hb y (by simp [hy]); omega
theorem spec_l10Begins_is (l : List S44) (hok : custOk l = true) (c : Int) (h1 : 1 ≤ c) (h2 : c ≤ 4) (k : Nat) (hk : 70 ≤ k) : spec_l10Begins.f k l c = some (begP l (List.replicate c.toNat 0)) := by
  have hlen := custOk_len hok
  unfold spec_l10Begins.f
  rw [if_pos (by omega), if_pos (by omega)]
  exact spec_l10Begins_loop l hlen (custOk_mem hok) c l 0 k (List.replicate c.toNat 0) [] rfl (by omega) (by simp) (by omega) (by simp; omega) (by simp; omega) (by simp; omega) (fun x hx => by rw [List.eq_of_mem_replicate hx]; omega)

/-! begins_200 -/
theorem begP_200 {l : List S44} (hok : custOk l = true) (n : Nat) : ∀ b ∈ begP l (List.replicate n 0), 0 ≤ b ∧ b ≤ 200 := by
  intro b hb
  have := begP_bound l (List.replicate n 0) 60 (custOk_mem hok) (by omega) (fun x hx => by rw [List.eq_of_mem_replicate hx]; omega) b hb
  have := custOk_len hok
  omega
theorem dom_rep (a b : Nat) (h : a ≤ b) : dom (List.replicate b 0) (List.replicate a 0) := by
  intro t
  rw [cnt_rep, cnt_rep]
  split <;> omega
theorem beg_rep_mono (l m : List S44) (h : needMore l m) (a b : Nat) (ha : 1 ≤ a) (hab : a ≤ b) : allLe (begP l (List.replicate b 0)) (begP m (List.replicate a 0)) :=
  begP_mono h (rep_sorted _) (rep_sorted _) (by simp; omega) (by simp; omega) (dom_rep a b hab)
theorem beg_rep_none (l : List S44) (hok : custOk l = true) (n : Nat) (h : l.length ≤ n) : begP l (List.replicate n 0) = l.map (·.f0) :=
  begP_none l _ (fun c hc => (custOk_mem hok c hc).1) (rep_sorted _) (by rw [cnt_rep]; simpa using h)

/-! begins_spec2 -/
theorem spec_BeginsOf_is (l : List S44) (hl : l.length ≤ 1048576) (c : Int) (k : Nat) (hk : l.length + 70 ≤ k) : spec_BeginsOf.f k l c = some (if custOk l = true ∧ 1 ≤ c ∧ c ≤ 4 then begP l (List.replicate c.toNat 0) else []) := by
  unfold spec_BeginsOf.f
  rw [spec_CustomersOk_is l hl k (by omega)]
  simp only [Option.bind_some]
  by_cases hok : custOk l = true
  · rw [if_pos hok, spec_l1In_is]
    simp only [Option.bind_some, decide_eq_true_eq]
    by_cases hc : 1 ≤ c ∧ c ≤ 4
    · rw [if_pos hc, spec_l10Begins_is l hok c hc.1 hc.2 k (by omega), if_pos ⟨hok, hc⟩]
      rfl
    · rw [if_neg hc, if_neg (fun h => hc h.2)]
  · rw [if_neg hok, if_neg (fun h => hok h.1)]

/-! leavesbeside_spec -/
/-- When each leaves. -/
def leavesB : List S44 → List Int → List Int
  | x :: xs, b :: bs => (b + x.f1) :: leavesB xs bs
  | _, _ => []
theorem leavesB_length : ∀ (l : List S44) (B : List Int), B.length = l.length → (leavesB l B).length = l.length := by
  intro l
  induction l with
  | nil => intro B _; simp [leavesB]
  | cons x xs ih =>
    intro B h
    cases B with
    | nil => simp at h
    | cons b bs => simp only [leavesB, List.length_cons]; rw [ih bs (by simpa using h)]
theorem leavesB_get : ∀ (l : List S44) (B : List Int), B.length = l.length → ∀ i, i < l.length → (leavesB l B).getD i 0 = B.getD i 0 + (l.getD i z44).f1 := by
  intro l
  induction l with
  | nil => intro B _ i h; simp at h
  | cons x xs ih =>
    intro B h i hi
    cases B with
    | nil => simp at h
    | cons b bs =>
      cases i with
      | zero => rfl
      | succ i => exact ih bs (by simpa using h) i (by simpa using hi)
theorem spec_LeavesBeside_loop (l : List S44) (B : List Int) (hl : l.length ≤ 8) (hm : ∀ c ∈ l, 0 ≤ c.f0 ∧ c.f0 ≤ 60 ∧ 1 ≤ c.f1 ∧ c.f1 ≤ 9) (hlen : B.length = l.length) (hB : ∀ b ∈ B, 0 ≤ b ∧ b ≤ 200) : ∀ (suf : List S44) (sb : List Int) (i k : Nat) (out : List Int), l.drop i = suf → B.drop i = sb → suf.length < k → i ≤ l.length → out.length ≤ i →
    spec_LeavesBeside.l0 k l out B i = some (out ++ leavesB suf sb) := by
  intro suf
  induction suf with
  | nil =>
    intro sb i k out hd hb hk hi _
    obtain ⟨k, rfl⟩ : ∃ m, k = m + 1 := ⟨k - 1, by omega⟩
    have := drop_nil hd
    simp only [spec_LeavesBeside.l0]
    rw [if_neg (by omega)]
    simp [leavesB]
  | cons x xs ih =>
    intro sb i k out hd hb hk hi ho
    obtain ⟨k, rfl⟩ : ∃ m, k = m + 1 := ⟨k - 1, by omega⟩
    obtain ⟨hlt, hd2, hx⟩ := drop_split hd
    have hlt2 : i < B.length := by omega
    have hbs : B.drop i = B.getD i 0 :: B.drop (i + 1) := by rw [getD_lt hlt2]; exact List.drop_eq_getElem_cons hlt2
    have hxb := hm x (by rw [← hx z44]; exact getD_mem hlt _)
    have hbb := hB (B.getD i 0) (getD_mem hlt2 _)
    simp only [spec_LeavesBeside.l0]
    rw [if_pos (by omega), if_pos (by omega), if_pos (by omega), if_pos (by omega), rd_nat, rd_Customer_nat, hx, w64s i (by omega), show wrap64 (B.getD i 0 + x.f1) = B.getD i 0 + x.f1 from w64 (by omega) (by omega)]
    rw [ih (B.drop (i + 1)) (i + 1) k _ hd2 rfl (by simp at hk; omega) (by omega) (by rw [List.length_append]; simp; omega), ← hb, hbs]
    simp [leavesB]
def leavesBP (l : List S44) (c : Int) : List Int := if custOk l = true ∧ 1 ≤ c ∧ c ≤ 4 then leavesB l (begP l (List.replicate c.toNat 0)) else []
theorem spec_LeavesBeside_is (l : List S44) (hl : l.length ≤ 1048576) (c : Int) (k : Nat) (hk : l.length + 80 ≤ k) : spec_LeavesBeside.f k l c = some (leavesBP l c) := by
  unfold spec_LeavesBeside.f leavesBP
  rw [spec_BeginsOf_is l hl c k (by omega)]
  simp only [Option.bind_some]
  by_cases hok : custOk l = true ∧ 1 ≤ c ∧ c ≤ 4
  · have hlen := custOk_len hok.1
    rw [if_pos hok, if_pos hok]
    exact spec_LeavesBeside_loop l (begP l (List.replicate c.toNat 0)) hlen (custOk_mem hok.1) (begP_length _ _) (begP_200 hok.1 _) l (begP l (List.replicate c.toNat 0)) 0 k [] rfl rfl (by omega) (by omega) (by simp)
  · obtain ⟨k, rfl⟩ : ∃ m, k = m + 1 := ⟨k - 1, by omega⟩
    rw [if_neg hok, if_neg hok]
    simp only [spec_LeavesBeside.l0]
    rw [if_neg (by simp)]

/-! leavesbeside -/
theorem impl_LeavesBeside_loop (l : List S44) (hl : l.length ≤ 8) (hm : ∀ c ∈ l, 0 ≤ c.f0 ∧ c.f0 ≤ 60 ∧ 1 ≤ c.f1 ∧ c.f1 ≤ 9) : ∀ (suf : List S44) (i k : Nat) (X : List Int), l.drop i = suf → suf.length < k → i ≤ l.length → X.length = l.length → (∀ b ∈ X.drop i, 0 ≤ b ∧ b ≤ 200) →
    impl_LeavesBeside.l0 k X l (l.length : Int) i = some (X.take i ++ leavesB suf (X.drop i)) := by
  intro suf
  induction suf with
  | nil =>
    intro i k X hd hk hi hX hB
    obtain ⟨k, rfl⟩ : ∃ m, k = m + 1 := ⟨k - 1, by omega⟩
    have := drop_nil hd
    simp only [impl_LeavesBeside.l0]
    rw [if_neg (by omega), List.take_of_length_le (by omega)]
    simp [leavesB]
  | cons x xs ih =>
    intro i k X hd hk hi hX hB
    obtain ⟨k, rfl⟩ : ∃ m, k = m + 1 := ⟨k - 1, by omega⟩
    obtain ⟨hlt, hd2, hx⟩ := drop_split hd
    have hlt2 : i < X.length := by omega
    have hbs : X.drop i = X.getD i 0 :: X.drop (i + 1) := by rw [getD_lt hlt2]; exact List.drop_eq_getElem_cons hlt2
    have hxb := hm x (by rw [← hx z44]; exact getD_mem hlt _)
    have hbb := hB (X.getD i 0) (by rw [hbs]; simp)
    simp only [impl_LeavesBeside.l0]
    rw [if_pos (by omega), if_pos (by omega), if_pos (by omega), if_pos (by omega), rd_nat, rd_Customer_nat, hx, w64s i (by omega), Int.toNat_natCast, show wrap64 (X.getD i 0 + x.f1) = X.getD i 0 + x.f1 from w64 (by omega) (by omega)]
    have e2 : (X.set i (X.getD i 0 + x.f1)).drop (i + 1) = X.drop (i + 1) := by rw [List.drop_set_of_lt (by omega)]
    have e1 : (X.set i (X.getD i 0 + x.f1)).take (i + 1) = X.take i ++ [X.getD i 0 + x.f1] := by
      rw [take_succ_getD (by rw [List.length_set]; omega) 0, List.take_set_of_le (Nat.le_refl _)]
      congr 1
      rw [getD_lt (by rw [List.length_set]; omega), List.getElem_set_self]
    rw [ih (i + 1) k _ hd2 (by simp at hk; omega) (by omega) (by rw [List.length_set]; exact hX) (by rw [e2]; intro b hb; exact hB b (by rw [hbs]; simp [hb])), e1, e2, hbs]
    simp [leavesB]
theorem impl_LeavesBeside_is (l : List S44) (hl : l.length ≤ 1048576) (c : Int) (k : Nat) (hk : l.length + 30 ≤ k) : impl_LeavesBeside.f k l c = some (leavesBP l c) := by
  obtain ⟨k, rfl⟩ : ∃ m, k = m + 1 := ⟨k - 1, by omega⟩
  have neg : impl_LeavesBeside.j0 (k + 1) l c true = some [] := by simp [impl_LeavesBeside.j0]
  unfold impl_LeavesBeside.f leavesBP
  rw [impl_CustomersOk_is l hl (k + 1) (by omega), neg]
  simp only [Option.bind_some]
  by_cases hok : custOk l = true
  · rw [if_pos hok]
    by_cases h1 : c < 1
    · rw [if_pos h1, if_neg (fun h => by omega)]
    · rw [if_neg h1]
      by_cases h2 : c > 4
      · rw [decide_eq_true h2, neg, if_neg (fun h => by omega)]
      · have hlen := custOk_len hok
        rw [decide_eq_false h2]
        simp only [impl_LeavesBeside.j0]
        rw [if_neg (by simp), impl_BeginsOf_is l hl c k (by omega), if_pos ⟨hok, by omega, by omega⟩, if_pos ⟨hok, by omega, by omega⟩]
        simp only [Option.bind_some]
        exact impl_LeavesBeside_loop l hlen (custOk_mem hok) l 0 k _ rfl (by omega) (by omega) (begP_length _ _) (begP_200 hok _)
  · rw [if_neg hok, if_neg (fun h => hok h.1)]

/-! lastleave -/
def needSum : List S44 → Int
  | [] => 0
  | x :: xs => x.f1 + needSum xs
theorem needSum_bound (l : List S44) (hm : ∀ c ∈ l, 0 ≤ c.f0 ∧ c.f0 ≤ 60 ∧ 1 ≤ c.f1 ∧ c.f1 ≤ 9) : (l.length : Int) ≤ needSum l ∧ needSum l ≤ 9 * l.length := by
  induction l with
  | nil => simp [needSum]
  | cons x xs ih =>
    have := ih (fun b hb => hm b (List.mem_cons_of_mem _ hb))
    have := hm x (by simp)
    simp only [needSum, List.length_cons]
    omega
theorem impl_needOf_loop (l : List S44) (hl : l.length ≤ 8) (hm : ∀ c ∈ l, 0 ≤ c.f0 ∧ c.f0 ≤ 60 ∧ 1 ≤ c.f1 ∧ c.f1 ≤ 9) : ∀ (suf : List S44) (i k : Nat) (n : Int), l.drop i = suf → suf.length < k → i ≤ l.length → 0 ≤ n → n ≤ 9 * i →
    impl_needOf.l0 k n l (l.length : Int) i = some (n + needSum suf) := by
  intro suf
  induction suf with
  | nil =>
    intro i k n hd hk hi _ _
    obtain ⟨k, rfl⟩ : ∃ m, k = m + 1 := ⟨k - 1, by omega⟩
    have := drop_nil hd
    simp only [impl_needOf.l0]
    rw [if_neg (by omega)]
    simp [needSum]
  | cons x xs ih =>
    intro i k n hd hk hi h0 h1
    obtain ⟨k, rfl⟩ : ∃ m, k = m + 1 := ⟨k - 1, by omega⟩
    obtain ⟨hlt, hd2, hx⟩ := drop_split hd
    have hxb := hm x (by rw [← hx z44]; exact getD_mem hlt _)
    simp only [impl_needOf.l0]
    rw [if_pos (by omega), if_pos (by omega), if_pos (by omega), rd_Customer_nat, hx, w64s i (by omega), show wrap64 (n + x.f1) = n + x.f1 from w64 (by omega) (by omega)]
    rw [ih (i + 1) k _ hd2 (by simp at hk; omega) (by omega) (by omega) (by omega)]
    simp only [needSum]
    rw [Int.add_assoc]
theorem impl_needOf_is (l : List S44) (hl : l.length ≤ 8) (hm : ∀ c ∈ l, 0 ≤ c.f0 ∧ c.f0 ≤ 60 ∧ 1 ≤ c.f1 ∧ c.f1 ≤ 9) (k : Nat) (hk : 9 ≤ k) : impl_needOf.f k l = some (needSum l) := by
  unfold impl_needOf.f
  have h := impl_needOf_loop l hl hm l 0 k 0 rfl (by omega) (by omega) (by omega) (by omega)
  rw [Int.zero_add] at h
  exact h
/-- The greatest of m and of all times of coming with the needs from there on. -/
def lastFrom : List S44 → Int → Int
  | [], m => m
  | x :: xs, m => lastFrom xs (max m (x.f0 + needSum (x :: xs)))
def lastP (l : List S44) : Int := lastFrom l 0
theorem impl_lastLeave_loop (l : List S44) (hl : l.length ≤ 8) (hm : ∀ c ∈ l, 0 ≤ c.f0 ∧ c.f0 ≤ 60 ∧ 1 ≤ c.f1 ∧ c.f1 ≤ 9) : ∀ (suf : List S44) (i k : Nat) (n : Int), l.drop i = suf → suf.length + 10 < k → i ≤ l.length →
    impl_lastLeave.l0 k l n l (l.length : Int) i = some (lastFrom suf n) := by
  intro suf
  induction suf with
  | nil =>
    intro i k n hd hk hi
    obtain ⟨k, rfl⟩ : ∃ m, k = m + 1 := ⟨k - 1, by omega⟩
    have := drop_nil hd
    simp only [impl_lastLeave.l0]
    rw [if_neg (by omega)]
    simp [lastFrom]
  | cons x xs ih =>
    intro i k n hd hk hi
    obtain ⟨k, rfl⟩ : ∃ m, k = m + 1 := ⟨k - 1, by omega⟩
    obtain ⟨hlt, hd2, hx⟩ := drop_split hd
    have hxb := hm x (by rw [← hx z44]; exact getD_mem hlt _)
    have hmd : ∀ c ∈ x :: xs, 0 ≤ c.f0 ∧ c.f0 ≤ 60 ∧ 1 ≤ c.f1 ∧ c.f1 ≤ 9 := fun b hb => hm b (by rw [← hd] at hb; exact List.mem_of_mem_drop hb)
    have hlen : (x :: xs).length ≤ 8 := by rw [← hd, List.length_drop]; omega
    have hn := needSum_bound (x :: xs) hmd
    simp only [impl_lastLeave.l0]
    rw [if_pos (by omega), if_pos (by omega), if_pos (by omega), if_pos (by omega), Int.toNat_natCast, hd, impl_needOf_is (x :: xs) hlen hmd k (by simp at hk; omega)]
    simp only [Option.bind_some]
    rw [rd_Customer_nat, hx, w64s i (by omega), mx_max, show wrap64 (x.f0 + needSum (x :: xs)) = x.f0 + needSum (x :: xs) from w64 (by omega) (by omega)]
    rw [ih (i + 1) k _ hd2 (by simp at hk; omega) (by omega)]
    rfl
theorem impl_lastLeave_is (l : List S44) (hok : custOk l = true) (k : Nat) (hk : 20 ≤ k) : impl_lastLeave.f k l = some (lastP l) := by
  have h8 := custOk_len hok
  unfold impl_lastLeave.f
  exact impl_lastLeave_loop l h8 (custOk_mem hok) l 0 k 0 rfl (by omega) (by omega)
theorem lastFrom_ge (l : List S44) : ∀ m, m ≤ lastFrom l m := by
  induction l with
  | nil => intro m; exact Int.le_refl _
  | cons x xs ih => intro m; have := ih (max m (x.f0 + needSum (x :: xs))); simp only [lastFrom]; omega
theorem lastFrom_le (l : List S44) : ∀ m B, m ≤ B → (∀ i, i < l.length → (l.getD i z44).f0 + needSum (l.drop i) ≤ B) → lastFrom l m ≤ B := by
  induction l with
  | nil => intro m B h _; exact h
  | cons x xs ih =>
    intro m B h hB
    have h0 := hB 0 (by simp)
    simp only [List.getD_cons_zero, List.drop_zero] at h0
    exact ih _ B (by omega) (fun i hi => hB (i + 1) (by simpa using hi))
/-- Each comes, and all from there on are served, before M. -/
def doneBy : List S44 → Int → Prop
  | [], _ => True
  | x :: xs, M => x.f0 + needSum (x :: xs) ≤ M ∧ doneBy xs M
theorem doneBy_mono (l : List S44) : ∀ {M N : Int}, M ≤ N → doneBy l M → doneBy l N := by
  induction l with
  | nil => intro M N _ _; trivial
  | cons x xs ih => intro M N h hd; exact ⟨by have := hd.1; omega, ih h hd.2⟩
theorem doneBy_last (l : List S44) : ∀ m, doneBy l (lastFrom l m) := by
  induction l with
  | nil => intro m; trivial
  | cons x xs ih =>
    intro m
    refine ⟨?_, ih _⟩
    have := lastFrom_ge xs (max m (x.f0 + needSum (x :: xs)))
    simp only [lastFrom]
    omega
theorem lastP_bound (l : List S44) (hok : custOk l = true) : 0 ≤ lastP l ∧ lastP l ≤ 132 := by
  have hm := custOk_mem hok
  have hl := custOk_len hok
  refine ⟨lastFrom_ge l 0, lastFrom_le l 0 132 (by omega) (fun i hi => ?_)⟩
  have h1 := hm (l.getD i z44) (getD_mem hi _)
  have h2 := needSum_bound (l.drop i) (fun c hc => hm c (List.mem_of_mem_drop hc))
  rw [List.length_drop] at h2
  omega

/-! LastLeave2 -/
theorem impl_LastLeave_is (l : List S44) (hl : l.length ≤ 1048576) (k : Nat) (hk : l.length + 20 ≤ k) : impl_LastLeave.f k l = some (if custOk l = true then lastP l else -1) := by
  unfold impl_LastLeave.f
  rw [impl_CustomersOk_is l hl k (by omega)]
  simp only [Option.bind_some]
  by_cases h : custOk l = true
  · rw [if_pos h, if_pos h, impl_lastLeave_is l h k (by omega)]
    rfl
  · rw [if_neg h, if_neg h]

/-! needmore_spec -/
/-- One needs one unit more. -/
def moreAt (l : List S44) (i : Nat) : List S44 := l.set i ⟨(l.getD i z44).f0, (l.getD i z44).f1 + 1⟩
theorem spec_NeedingMore_is (l : List S44) (hok : custOk l = true) (i : Nat) (hi : i < l.length) (k : Nat) (hk : 20 ≤ k) : spec_NeedingMore.f k l i = some (if custOk (moreAt l i) = true then (moreAt l i, true) else ([], false)) := by
  have h8 := custOk_len hok
  have hxb := custOk_mem hok (l.getD i z44) (getD_mem hi _)
  obtain ⟨k, rfl⟩ : ∃ m, k = m + 1 := ⟨k - 1, by omega⟩
  unfold spec_NeedingMore.f
  rw [spec_CustomersOk_is l (by omega) (k + 1) (by omega)]
  simp only [Option.bind_some]
  rw [if_pos hok, spec_l1In_is]
  simp only [Option.bind_some]
  rw [show wrap64 ((l.length : Int) - 1) = (l.length : Int) - 1 from w64 (by omega) (by omega), decide_eq_true ⟨by omega, by omega⟩]
  simp only [spec_NeedingMore.j0, Bool.not_true, Option.bind_some, List.nil_append]
  rw [if_neg (by simp), if_pos (by simp only [List.length_nil]; omega), if_pos (by omega), if_pos (by omega), rd_Customer_nat, Int.toNat_natCast, show wrap64 ((l.getD i z44).f1 + 1) = (l.getD i z44).f1 + 1 from w64 (by omega) (by omega)]
  rw [show l.set i ⟨(l.getD i z44).f0, (l.getD i z44).f1 + 1⟩ = moreAt l i from rfl]
  rw [spec_CustomersOk_is (moreAt l i) (by unfold moreAt; rw [List.length_set]; omega) k (by unfold moreAt; rw [List.length_set]; omega)]
  simp only [Option.bind_some]
  by_cases h : custOk (moreAt l i) = true
  · rw [if_pos h, if_pos h]
  · rw [if_neg h, if_neg h]
theorem needMore_at : ∀ (l : List S44) (i : Nat), needMore l (moreAt l i) := by
  intro l
  induction l with
  | nil => intro i; trivial
  | cons x xs ih =>
    intro i
    cases i with
    | zero => exact ⟨rfl, by show x.f1 ≤ x.f1 + 1; omega, needMore_refl xs⟩
    | succ i => exact ⟨rfl, Int.le_refl _, ih i⟩
theorem needMore_get : ∀ {l m : List S44}, needMore l m → ∀ i, (l.getD i z44).f1 ≤ (m.getD i z44).f1 := by
  intro l
  induction l with
  | nil => intro m h i; cases m with
    | nil => exact Int.le_refl _
    | cons b bs => exact absurd h (by simp [needMore])
  | cons a ts ih => intro m h i; cases m with
    | nil => exact absurd h (by simp [needMore])
    | cons b bs =>
      cases i with
      | zero => exact h.2.1
      | succ i => exact ih h.2.2 i

/-! law_LeavesBeside -/
/-- At one counter all leave in time. -/
theorem one_done : ∀ (l : List S44) (d M : Int), (∀ c ∈ l, 0 ≤ c.f0 ∧ c.f0 ≤ 60 ∧ 1 ≤ c.f1 ∧ c.f1 ≤ 9) → doneBy l M → d + needSum l ≤ M → ∀ i, i < l.length → (begP l [d]).getD i 0 + (l.getD i z44).f1 ≤ M := by
  intro l
  induction l with
  | nil => intro d M _ _ _ i h; simp at h
  | cons x xs ih =>
    intro d M hm hd hM i h
    have hn := needSum_bound xs (fun c hc => hm c (List.mem_cons_of_mem _ hc))
    have h1 := hd.1
    simp only [needSum] at h1 hM
    cases i with
    | zero => show max d x.f0 + x.f1 ≤ M; omega
    | succ i => exact ih (max d x.f0 + x.f1) M (fun c hc => hm c (List.mem_cons_of_mem _ hc)) hd.2 (by omega) i (by simpa using h)
theorem beside_done (l : List S44) (hok : custOk l = true) (n : Nat) (hn : 1 ≤ n) (i : Nat) (hi : i < l.length) : (begP l (List.replicate n 0)).getD i 0 + (l.getD i z44).f1 ≤ lastP l := by
  have hm := custOk_mem hok
  have h1 := allLe_get (beg_rep_mono l l (needMore_refl l) 1 n (by omega) hn) i
  have hd := doneBy_last l 0
  have h0 : 0 + needSum l ≤ lastP l := by
    cases l with
    | nil => simp at hi
    | cons x xs => have := hd.1; have := hm x (by simp); unfold lastP; omega
  have h2 := one_done l 0 (lastP l) hm hd h0 i hi
  have e : List.replicate 1 (0 : Int) = [0] := rfl
  rw [e] at h1
  omega
section
variable (l : List S44) (hok : custOk l = true) (c : Int) (hc : 1 ≤ c ∧ c ≤ 4)
theorem law_inner (L : List Int) (hL : L.length = l.length) (i : Int) (later : List Int) (ok : Bool) (hlat : ok = true → later.length = l.length ∧ ∀ j, j < l.length → L.getD j 0 ≤ later.getD j 0) (h8 : l.length ≤ 8) (K : Nat) (hnext : ∀ k, K ≤ k → laws_FnLeavesBeside.l0 k l c L (wrap64 (i + 1)) = some true) :
    ∀ (d j k : Nat), j + d = l.length → K + 2 * d + 3 ≤ k → laws_FnLeavesBeside.l1 k l c L i ok later j = some true := by
  intro d
  induction d with
  | zero =>
    intro j k he hk
    obtain ⟨k, rfl⟩ : ∃ m, k = m + 2 := ⟨k - 2, by omega⟩
    simp only [laws_FnLeavesBeside.l1]
    rw [if_neg (by omega)]
    simp only [laws_FnLeavesBeside.j3]
    rw [if_neg (by simp)]
    exact hnext k (by omega)
  | succ d ih =>
    intro j k he hk
    obtain ⟨k, rfl⟩ : ∃ m, k = m + 2 := ⟨k - 2, by omega⟩
    simp only [laws_FnLeavesBeside.l1]
    rw [if_pos (by omega)]
    simp only [laws_FnLeavesBeside.j3]
    by_cases ho : ok = true
    · obtain ⟨h1, h2⟩ := hlat ho
      have h3 := h2 j (by omega)
      rw [if_pos ho, if_pos (by omega), if_pos (by omega), if_pos (by omega), rd_nat, rd_nat, if_neg (by omega), w64s j (by omega)]
      exact ih (j + 1) k (by omega) (by omega)
    · rw [if_neg ho]
      exact hnext k (by omega)
include hok hc in
theorem law_loop : ∀ (d i k : Nat), i + d = l.length → 40 * d + 60 ≤ k → laws_FnLeavesBeside.l0 k l c (leavesB l (begP l (List.replicate c.toNat 0))) i = some true := by
  have h8 := custOk_len hok
  have hm := custOk_mem hok
  have hBl := begP_length l (List.replicate c.toNat 0)
  have hLl := leavesB_length l _ hBl
  intro d
  induction d with
  | zero =>
    intro i k he hk
    obtain ⟨k, rfl⟩ : ∃ m, k = m + 1 := ⟨k - 1, by omega⟩
    simp only [laws_FnLeavesBeside.l0]
    rw [if_neg (by omega), hLl]
    simp
  | succ d ih =>
    intro i k he hk
    have hlt : i < l.length := by omega
    obtain ⟨k, rfl⟩ : ∃ m, k = m + 2 := ⟨k - 2, by omega⟩
    simp only [laws_FnLeavesBeside.l0]
    rw [if_pos (by omega), spec_NeedingMore_is l hok i hlt (k + 1) (by omega)]
    simp only [Option.bind_some]
    have hle : ¬ (leavesB l (begP l (List.replicate c.toNat 0))).getD i 0 > lastP l := by
      rw [leavesB_get l _ hBl i hlt]
      have := beside_done l hok c.toNat (by omega) i hlt
      omega
    have hnext : ∀ k, 40 * d + 60 ≤ k → laws_FnLeavesBeside.l0 k l c (leavesB l (begP l (List.replicate c.toNat 0))) (wrap64 ((i : Int) + 1)) = some true := by
      intro k hk2
      rw [w64s i (by omega)]
      exact ih (i + 1) k (by omega) hk2
    by_cases h : custOk (moreAt l i) = true
    · have hml : (moreAt l i).length = l.length := by unfold moreAt; rw [List.length_set]
      have hBm := begP_length (moreAt l i) (List.replicate c.toNat 0)
      have e : leavesBP (moreAt l i) c = leavesB (moreAt l i) (begP (moreAt l i) (List.replicate c.toNat 0)) := by unfold leavesBP; rw [if_pos ⟨h, hc⟩]
      rw [if_pos h, impl_LeavesBeside_is (moreAt l i) (by omega) c (k + 1) (by omega), e]
      simp only [Option.bind_some]
      rw [if_pos trivial, leavesB_length _ _ hBm, hml, if_pos rfl, if_pos (by omega), if_pos (by omega), impl_LastLeave_is l (by omega) (k + 1) (by omega), if_pos hok]
      simp only [Option.bind_some]
      rw [rd_nat, decide_eq_false hle]
      simp only [laws_FnLeavesBeside.j1]
      rw [if_neg (by simp)]
      refine law_inner l c _ hLl i _ true (fun _ => ⟨by rw [leavesB_length _ _ hBm, hml], fun j hj => ?_⟩) h8 (40 * d + 60) hnext l.length 0 k (by omega) (by omega)
      rw [leavesB_get l _ hBl j hj, leavesB_get _ _ hBm j (by omega)]
      have h1 := allLe_get (beg_rep_mono l (moreAt l i) (needMore_at l i) c.toNat c.toNat (by omega) (by omega)) j
      have h2 := needMore_get (needMore_at l i) j
      omega
    · rw [if_neg h, impl_LeavesBeside_is [] (by simp) c (k + 1) (by simp; omega)]
      simp only [Option.bind_some]
      rw [if_neg (by simp), if_pos (by omega), if_pos (by omega), impl_LastLeave_is l (by omega) (k + 1) (by omega), if_pos hok]
      simp only [Option.bind_some]
      rw [rd_nat, decide_eq_false hle]
      simp only [laws_FnLeavesBeside.j1]
      rw [if_neg (by simp)]
      exact law_inner l c _ hLl i _ false (fun h => by cases h) h8 (40 * d + 60) hnext l.length 0 k (by omega) (by omega)
end
theorem FnLeavesBeside : laws_FnLeavesBeside.Pure := by
  intro s hs1 hs2 hs3
  refine ⟨1000, ?_⟩
  unfold laws_FnLeavesBeside.f
  by_cases hbig : (s.length : Int) > 1048576
  · rw [if_pos hbig]
  rw [if_neg hbig]
  obtain ⟨t, et, ht, htl⟩ := open_ok (bytes_of hs3)
  obtain ⟨l, c, q, el, hl, hc1, hc2, -⟩ := l20Beside_ok ht htl 1000 (by omega) 0 (by omega) (by omega)
  unfold spec_DrawLeavesBeside.f
  rw [et]; simp only [Option.bind_some]
  rw [el]; simp only [Option.bind_some]
  rw [impl_LeavesBeside_is l (by omega) c _ (by omega)]; simp only [Option.bind_some]
  rw [spec_LeavesBeside_is l (by omega) c _ (by omega)]; simp only [Option.bind_some]
  unfold leavesBP
  by_cases hok : custOk l = true ∧ 1 ≤ c ∧ c ≤ 4
  · have h8 := custOk_len hok.1
    have hL := leavesB_length l _ (begP_length l (List.replicate c.toNat 0))
    rw [if_pos hok, sameInts_is _ (by omega) _ (by omega)]; simp only [Option.bind_some]
    rw [if_pos trivial]
    by_cases h0 : l.length = 0
    · rw [if_pos (by omega), alive_is _ (by omega)]; rfl
    · rw [if_neg (by omega)]
      exact law_loop l hok.1 c hok.2 l.length 0 1000 (by omega) (by omega)
  · rw [if_neg hok, sameInts_is _ (by simp) _ (by simp)]; simp only [Option.bind_some]
    rw [if_pos trivial, if_pos (by simp), alive_is _ (by omega)]; rfl

end Go.Proofs.Ytodbgbehhgbppaa.Pure
