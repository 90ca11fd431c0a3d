/- The pure part of the proof of FnRoundOrder: the printed functions answer true, for every drawn or given argument within the row's own bounds; no further condition. -/
import Derived.Test.YtbljbcgooenjfaaPFnRoundOrderx9
import Derived.Laws.BitsLemmas
namespace Go.Proofs.Ytbljbcgooenjfaa.Pure
open Go.RowKit Go.Proofs.Ytbljbcgooenjfaa.PFnRoundOrder Go.Proofs.YtbljbcgooenjfaaW.PrintWords Go.Proofs.YtbljbcgooenjfaaW.PrintLast Go.Proofs.YtbljbcgooenjfaaW.PrintMore
set_option linter.unusedVariables false
set_option linter.unusedSimpArgs false
/-! base -/
theorem w64 {x : Int} (h0 : -9223372036854775808 ≤ x) (h1 : x ≤ 9223372036854775807) : wrap64 x = x := by
  unfold wrap64
  omega
theorem w64s (n : Nat) (h : n ≤ 4611686018427387904) : wrap64 ((n : Int) + 1) = ((n + 1 : Nat) : Int) := by
  unfold wrap64
  omega
theorem drop_split {α : Type} {l : List α} {i : Nat} {x : α} {xs : List α} (h : l.drop i = x :: xs) : i < l.length ∧ l.drop (i + 1) = xs ∧ ∀ d, l.getD i d = x := by
  have hi : i < l.length := by
    have h2 : 0 < (l.drop i).length := by rw [h]; simp
    rw [List.length_drop] at h2
    omega
  rw [List.drop_eq_getElem_cons hi] at h
  injection h with h1 h2
  exact ⟨hi, h2, fun d => by rw [List.getD_eq_getElem?_getD, List.getElem?_eq_getElem hi, h1]; rfl⟩
theorem drop_nil {α : Type} {l : List α} {i : Nat} (h : l.drop i = []) : l.length ≤ i := List.drop_eq_nil_iff.1 h
theorem getD_lt {α : Type} {l : List α} {i : Nat} (h : i < l.length) (d : α) : l.getD i d = l[i] := by
  rw [List.getD_eq_getElem?_getD, List.getElem?_eq_getElem h]; rfl
theorem rd_nat (l : List Int) (i : Nat) : rd l (i : Int) = l.getD i 0 := by
  unfold rd
  rw [Int.toNat_natCast]
theorem getD_mem {α : Type} {l : List α} {i : Nat} (h : i < l.length) (d : α) : l.getD i d ∈ l := by
  rw [getD_lt h]; exact List.getElem_mem h
theorem take_succ_getD {α : Type} {l : List α} {i : Nat} (h : i < l.length) (d : α) : l.take (i + 1) = l.take i ++ [l.getD i d] := by
  rw [getD_lt h, List.take_succ_eq_append_getElem h]
theorem mx_max (a b : Int) : mx a b = max a b := by
  unfold mx; omega
theorem mn_min (a b : Int) : mn a b = min a b := by
  unfold mn; omega
theorem bind_of {α β : Type} {o : Option α} {r : α} {f : α → Option β} {s : Option β} (h : o = some r) (h2 : f r = s) : o.bind f = s := by rw [h]; exact h2
theorem getD_snoc_last {α : Type} (l : List α) (x d : α) {i : Nat} (h : l.length = i) : (l ++ [x]).getD i d = x := by
  subst h
  rw [List.getD_eq_getElem?_getD, List.getElem?_append_right (Nat.le_refl _), Nat.sub_self]
  rfl
theorem getD_snoc_lt {α : Type} (l r : List α) (d : α) {i : Nat} (h : i < l.length) : (l ++ r).getD i d = l.getD i d := by
  rw [List.getD_eq_getElem?_getD, List.getElem?_append_left h, List.getD_eq_getElem?_getD]

/-! pick -/
theorem xor_small (a b : Int) (ha : 0 ≤ a) (ha2 : a < 1099511627776) (hb : 0 ≤ b) (hb2 : b < 1099511627776) : 0 ≤ Go.bits .xor .i64 a b ∧ Go.bits .xor .i64 a b < 1099511627776 := by
  obtain ⟨x, rfl⟩ := Int.eq_ofNat_of_zero_le ha
  obtain ⟨y, rfl⟩ := Int.eq_ofNat_of_zero_le hb
  have hx : x < 2 ^ 40 := by have : (x : Int) < 1099511627776 := ha2; omega
  have hy : y < 2 ^ 40 := by have : (y : Int) < 1099511627776 := hb2; omega
  have hz : x ^^^ y < 2 ^ 40 := Nat.xor_lt_two_pow hx hy
  have e : Go.bits .xor .i64 (x : Int) (y : Int) = ((x ^^^ y : Nat) : Int) := by
    have hx' : x % 2 ^ IntKind.i64.bits = x := Nat.mod_eq_of_lt (Nat.lt_of_lt_of_le hx (Nat.pow_le_pow_right (by decide) (by decide)))
    have hy' : y % 2 ^ IntKind.i64.bits = y := Nat.mod_eq_of_lt (Nat.lt_of_lt_of_le hy (Nat.pow_le_pow_right (by decide) (by decide)))
    simp only [bits, BitVec.ofInt_natCast, BitVec.toNat_xor, BitVec.toNat_ofNat, hx', hy']
    rw [IntKind.wrap_i64]
    omega
  rw [e]
  omega
theorem tmod_in (x n : Int) (hx : 0 ≤ x) (hn : 1 ≤ n) : 0 ≤ Int.tmod x n ∧ Int.tmod x n < n := by
  rw [Int.tmod_eq_emod_of_nonneg hx]
  exact ⟨Int.emod_nonneg _ (by omega), Int.emod_lt_of_pos _ (by omega)⟩
theorem rd_byte {s : List Int} (hs : ∀ x ∈ s, 0 ≤ x ∧ x ≤ 255) (i : Int) : 0 ≤ rd s i ∧ rd s i ≤ 255 := by
  unfold rd
  by_cases h : i.toNat < s.length
  · exact hs _ (getD_mem h 0)
  · rw [List.getD_eq_getElem?_getD, List.getElem?_eq_none (by omega)]; simp
/-- The reader: what it draws lies in 0..n-1, and its place goes on by one. -/
theorem pick_ok {k : Nat} (hk : 1 ≤ k) {s : List Int} (hs : ∀ x ∈ s, 0 ≤ x ∧ x ≤ 255) (hl : s.length ≤ 2000) (p : Int) (hp : 0 ≤ p) (hp2 : p ≤ 1000000) (n : Int) :
    ∃ v, spec_l20Rd_pick.f k s p n = some (v, p + 1) ∧ 0 ≤ v ∧ (1 ≤ n → v < n) ∧ (n < 1 → v = 0) := by
  obtain ⟨k, rfl⟩ : ∃ m, k = m + 1 := ⟨k - 1, by omega⟩
  have hw : wrap64 (p + 1) = p + 1 := w64 (by omega) (by omega)
  unfold spec_l20Rd_pick.f
  by_cases hn : n < 1
  · refine ⟨0, ?_, by omega, by omega, fun _ => rfl⟩
    rw [if_pos hn, hw]
    simp only [spec_l20Rd_pick.j0]
    rw [if_pos trivial]
  · rw [if_neg hn, hw]
    simp only [spec_l20Rd_pick.j0]
    by_cases he : (s.length : Int) = 0
    · refine ⟨0, ?_, by omega, by omega, fun _ => rfl⟩
      rw [if_pos (by simpa using he)]
    · have hpp : wrap64 (p + 1 - 1) = p := by rw [w64 (by omega) (by omega)]; omega
      rw [if_neg (by simpa using he), hpp]
      have hn0 : ¬ n = 0 := by omega
      have hb := fun i => rd_byte hs i
      by_cases hlt : p < (s.length : Int)
      · have hr := hb p
        have hwr : wrap64 (rd s p) = rd s p := w64 (by omega) (by omega)
        rw [if_pos hlt, if_pos hp, if_neg hn0, hwr]
        have ht := tmod_in (rd s p) n hr.1 (by omega)
        exact ⟨_, rfl, ht.1, fun _ => ht.2, fun h => absurd h hn⟩
      · have hL : 1 ≤ (s.length : Int) := by omega
        have e7 : wrap64 (p * 7) = p * 7 := w64 (by omega) (by omega)
        have e73 : wrap64 (p * 7 + 3) = p * 7 + 3 := w64 (by omega) (by omega)
        have t1 := tmod_in p (s.length : Int) hp hL
        have t2 := tmod_in (p * 7 + 3) (s.length : Int) (by omega) hL
        have r1 := hb (Int.tmod p (s.length : Int))
        have r2 := hb (Int.tmod (p * 7 + 3) (s.length : Int))
        rw [if_neg hlt, if_neg he, if_pos t1.1, if_pos t1.2, e7, e73, if_pos t2.1, if_pos t2.2, if_neg hn0]
        generalize rd s (Int.tmod p (s.length : Int)) = a at *
        generalize rd s (Int.tmod (p * 7 + 3) (s.length : Int)) = b at *
        have hq : Int.tdiv p (s.length : Int) = p / (s.length : Int) := Int.tdiv_eq_ediv_of_nonneg hp
        have q0 : 0 ≤ p / (s.length : Int) := Int.ediv_nonneg hp (by omega)
        have q1 : p / (s.length : Int) ≤ p := Int.ediv_le_self _ hp
        rw [hq]
        generalize p / (s.length : Int) = q at *
        have ea : wrap64 a = a := w64 (by omega) (by omega)
        have eb : wrap64 b = b := w64 (by omega) (by omega)
        have ea2 : wrap64 (a * 131) = a * 131 := w64 (by omega) (by omega)
        have eb2 : wrap64 (b * 1117) = b * 1117 := w64 (by omega) (by omega)
        have ep : wrap64 (p * 29) = p * 29 := w64 (by omega) (by omega)
        have eq_ : wrap64 q = q := w64 (by omega) (by omega)
        have eq2 : wrap64 (q * 53) = q * 53 := w64 (by omega) (by omega)
        have e1 : wrap64 (a * 131 + b * 1117) = a * 131 + b * 1117 := w64 (by omega) (by omega)
        have e2 : wrap64 (a * 131 + b * 1117 + p * 29) = a * 131 + b * 1117 + p * 29 := w64 (by omega) (by omega)
        have e3 : wrap64 (a * 131 + b * 1117 + p * 29 + q * 53) = a * 131 + b * 1117 + p * 29 + q * 53 := w64 (by omega) (by omega)
        rw [ea, eb, ea2, eb2, ep, eq_, eq2, e1, e2, e3]
        have hX0 : 0 ≤ a * 131 + b * 1117 + p * 29 + q * 53 := by omega
        have hX1 : a * 131 + b * 1117 + p * 29 + q * 53 < 1099511627776 := by omega
        generalize a * 131 + b * 1117 + p * 29 + q * 53 = X at *
        have hd : Int.tdiv X 64 = X / 64 := Int.tdiv_eq_ediv_of_nonneg hX0
        have ed : wrap64 (X / 64) = X / 64 := w64 (by omega) (by omega)
        rw [hd, ed]
        have hx := xor_small X (X / 64) hX0 hX1 (by omega) (by omega)
        have ht := tmod_in (Go.bits .xor .i64 X (X / 64)) n hx.1 (by omega)
        exact ⟨_, rfl, ht.1, fun _ => ht.2, fun h => absurd h hn⟩
theorem odd_ok {k : Nat} (hk : 1 ≤ k) {s : List Int} (hs : ∀ x ∈ s, 0 ≤ x ∧ x ≤ 255) (hl : s.length ≤ 2000) (p : Int) (hp : 0 ≤ p) (hp2 : p ≤ 1000000) (n : Int) (hn : n ≤ 1000) :
    ∃ b q, spec_l20Rd_odd.f k s p n = some (b, q) ∧ p ≤ q ∧ q ≤ p + 1 ∧ (n ≤ 0 → b = false) := by
  unfold spec_l20Rd_odd.f
  by_cases h : n > 0
  · obtain ⟨v, hv, -⟩ := pick_ok hk hs hl p hp hp2 n
    rw [if_pos h, hv]
    exact ⟨_, _, rfl, by simp only; omega, by simp only; omega, fun hh => by omega⟩
  · rw [if_neg h]
    exact ⟨_, _, rfl, by omega, by omega, fun _ => rfl⟩
theorem open_ok {s : List Int} (hs : ∀ x ∈ s, 0 ≤ x ∧ x ≤ 255) : ∃ t, spec_l20Open.f s = some (t, 0) ∧ (∀ x ∈ t, 0 ≤ x ∧ x ≤ 255) ∧ t.length ≤ 2000 := by
  unfold spec_l20Open.f
  by_cases h : (s.length : Int) > 2000
  · rw [if_pos h, if_pos (by omega)]
    exact ⟨_, rfl, fun x hx => hs x (List.mem_of_mem_take hx), by rw [List.length_take]; omega⟩
  · rw [if_neg h]
    exact ⟨_, rfl, hs, by omega⟩
theorem bytes_of {l : List Int} (h : ∀ x ∈ l, (Lit.int .u8 x).wf = true) : ∀ x ∈ l, 0 ≤ x ∧ x ≤ 255 := by
  intro x hx
  have := h x hx
  simp only [Lit.wf, IntKind.min, IntKind.max, IntKind.signed, IntKind.bits, Bool.and_eq_true, decide_eq_true_eq, Bool.false_eq_true, if_false] at this
  omega

/-! l1in -/
theorem spec_l1In_is (a b c : Int) : spec_l1In.f a b c = some (decide (b ≤ a ∧ a ≤ c)) := by
  unfold spec_l1In.f
  by_cases h : a ≥ b
  · rw [if_pos h]
    congr 1
    apply decide_eq_decide.2
    omega
  · rw [if_neg h]
    congr 1
    symm
    exact decide_eq_false (by omega)

/-! customers -/
/-- Customers, as both texts ask: seen from a place on, with the one ahead. -/
def custFrom : Option S43 → List S43 → Bool
  | _, [] => true
  | none, c :: cs => decide (0 ≤ c.f0 ∧ c.f0 ≤ 60 ∧ 1 ≤ c.f1 ∧ c.f1 ≤ 9) && custFrom (some c) cs
  | some p, c :: cs => decide (0 ≤ c.f0 ∧ c.f0 ≤ 60 ∧ 1 ≤ c.f1 ∧ c.f1 ≤ 9 ∧ p.f0 ≤ c.f0) && custFrom (some c) cs
def custOk (l : List S43) : Bool := custFrom none l && decide (l.length ≤ 8)
theorem rd_Customer_nat (l : List S43) (i : Nat) : rd_T43 l (i : Int) = l.getD i z43 := by
  unfold rd_T43
  rw [Int.toNat_natCast]
theorem cust_bad {p : Option S43} {x : S43} {xs : List S43} (h : ¬ (0 ≤ x.f0 ∧ x.f0 ≤ 60 ∧ 1 ≤ x.f1 ∧ x.f1 ≤ 9)) : custFrom p (x :: xs) = false := by
  cases p with
  | none => simp only [custFrom, decide_eq_false h, Bool.false_and]
  | some q => simp only [custFrom, decide_eq_false (show ¬ (0 ≤ x.f0 ∧ x.f0 ≤ 60 ∧ 1 ≤ x.f1 ∧ x.f1 ≤ 9 ∧ q.f0 ≤ x.f0) from fun hh => h ⟨hh.1, hh.2.1, hh.2.2.1, hh.2.2.2.1⟩), Bool.false_and]
theorem cust_bad2 {p x : S43} {xs : List S43} (h : x.f0 < p.f0) : custFrom (some p) (x :: xs) = false := by
  simp only [custFrom, decide_eq_false (show ¬ (0 ≤ x.f0 ∧ x.f0 ≤ 60 ∧ 1 ≤ x.f1 ∧ x.f1 ≤ 9 ∧ p.f0 ≤ x.f0) from fun hh => by omega), Bool.false_and]
theorem impl_CustomersOk_loop (l : List S43) (hl : l.length ≤ 1048576) : ∀ (suf : List S43) (i k : Nat), l.drop i = suf → suf.length < k → i ≤ l.length →
    impl_CustomersOk.l0 k l l (l.length : Int) i = some (custFrom (if i = 0 then none else some (l.getD (i - 1) z43)) suf && decide (l.length ≤ 8)) := by
  intro suf
  induction suf with
  | nil =>
    intro i k hd hk hi
    obtain ⟨k, rfl⟩ : ∃ m, k = m + 1 := ⟨k - 1, by omega⟩
    have := drop_nil hd
    simp only [impl_CustomersOk.l0]
    rw [if_neg (by omega)]
    congr 1
    have e : (decide ((l.length : Int) ≤ 8)) = decide (l.length ≤ 8) := decide_eq_decide.2 (by omega)
    rw [e]
    split <;> simp [custFrom]
  | cons x xs ih =>
    intro i k hd hk hi
    obtain ⟨k, rfl⟩ : ∃ m, k = m + 1 := ⟨k - 1, by omega⟩
    obtain ⟨hlt, hd2, hx⟩ := drop_split hd
    simp only [impl_CustomersOk.l0]
    rw [if_pos (by omega), if_pos (by omega), if_pos (by omega), rd_Customer_nat, hx, w64s i (by omega), ih (i + 1) k hd2 (by simp at hk; omega) (by omega)]
    rw [if_neg (show ¬ i + 1 = 0 by omega), show i + 1 - 1 = i from rfl, hx]
    by_cases h1 : x.f0 < 0
    · rw [if_pos h1, cust_bad (by omega), Bool.false_and]
    rw [if_neg h1]
    by_cases h2 : x.f0 > 60
    · rw [if_pos h2, cust_bad (by omega), Bool.false_and]
    rw [if_neg h2]
    by_cases hi0 : i = 0
    · subst hi0
      rw [if_neg (by omega)]
      by_cases h3 : x.f1 < 1
      · rw [if_pos h3, cust_bad (by omega), Bool.false_and]
      rw [if_neg h3]
      by_cases h4 : x.f1 > 9
      · rw [if_pos h4, cust_bad (by omega), Bool.false_and]
      rw [if_neg h4, if_pos rfl]
      have e : decide (0 ≤ x.f0 ∧ x.f0 ≤ 60 ∧ 1 ≤ x.f1 ∧ x.f1 ≤ 9) = true := decide_eq_true (by omega)
      simp only [custFrom, e, Bool.true_and]
    · rw [if_pos (by omega), show wrap64 ((i : Int) - 1) = ((i - 1 : Nat) : Int) from by rw [w64 (by omega) (by omega)]; omega, if_pos (by omega), if_pos (by omega), rd_Customer_nat, if_neg hi0]
      by_cases h5 : x.f0 < (l.getD (i - 1) z43).f0
      · rw [if_pos h5, cust_bad2 h5, Bool.false_and]
      rw [if_neg h5]
      by_cases h3 : x.f1 < 1
      · rw [if_pos h3, cust_bad (by omega), Bool.false_and]
      rw [if_neg h3]
      by_cases h4 : x.f1 > 9
      · rw [if_pos h4, cust_bad (by omega), Bool.false_and]
      rw [if_neg h4]
      have e : decide (0 ≤ x.f0 ∧ x.f0 ≤ 60 ∧ 1 ≤ x.f1 ∧ x.f1 ≤ 9 ∧ (l.getD (i - 1) z43).f0 ≤ x.f0) = true := decide_eq_true (by omega)
      simp only [custFrom, e, Bool.true_and]
theorem impl_CustomersOk_is (l : List S43) (hl : l.length ≤ 1048576) (k : Nat) (hk : l.length < k) : impl_CustomersOk.f k l = some (custOk l) := by
  unfold impl_CustomersOk.f
  exact impl_CustomersOk_loop l hl l 0 k rfl hk (by omega)

/-! custspec -/
theorem spec_CustomersOk_loop (l : List S43) (hl : l.length ≤ 1048576) : ∀ (suf : List S43) (i k : Nat), l.drop i = suf → suf.length < k → i ≤ l.length →
    spec_CustomersOk.l0 k l i = some (custFrom (if i = 0 then none else some (l.getD (i - 1) z43)) suf && decide (l.length ≤ 8)) := by
  intro suf
  induction suf with
  | nil =>
    intro i k hd hk hi
    obtain ⟨k, rfl⟩ : ∃ m, k = m + 1 := ⟨k - 1, by omega⟩
    have := drop_nil hd
    simp only [spec_CustomersOk.l0]
    rw [if_neg (by omega)]
    congr 1
    have e : (decide ((l.length : Int) ≤ 8)) = decide (l.length ≤ 8) := decide_eq_decide.2 (by omega)
    rw [e]
    split <;> simp [custFrom]
  | cons x xs ih =>
    intro i k hd hk hi
    obtain ⟨k, rfl⟩ : ∃ m, k = m + 1 := ⟨k - 1, by omega⟩
    obtain ⟨hlt, hd2, hx⟩ := drop_split hd
    simp only [spec_CustomersOk.l0]
    rw [if_pos (by omega), if_pos (by omega), rd_Customer_nat, hx, spec_l1In_is, spec_l1In_is, w64s i (by omega), ih (i + 1) k hd2 (by simp at hk; omega) (by omega)]
    simp only [Option.bind_some, decide_eq_true_eq]
    rw [if_neg (show ¬ i + 1 = 0 by omega), show i + 1 - 1 = i from rfl, hx]
    by_cases h1 : 0 ≤ x.f0 ∧ x.f0 ≤ 60
    · rw [if_pos h1]
      by_cases h2 : 1 ≤ x.f1 ∧ x.f1 ≤ 9
      · rw [if_pos h2]
        by_cases hi0 : i = 0
        · subst hi0
          rw [if_neg (by omega), if_pos rfl]
          have e : decide (0 ≤ x.f0 ∧ x.f0 ≤ 60 ∧ 1 ≤ x.f1 ∧ x.f1 ≤ 9) = true := decide_eq_true (by omega)
          simp only [custFrom, e, Bool.true_and]
        · rw [if_pos (by omega), show wrap64 ((i : Int) - 1) = ((i - 1 : Nat) : Int) from by rw [w64 (by omega) (by omega)]; omega, if_pos (by omega), if_pos (by omega), rd_Customer_nat, if_neg hi0]
          by_cases h5 : x.f0 < (l.getD (i - 1) z43).f0
          · rw [if_pos h5, cust_bad2 h5, Bool.false_and]
          rw [if_neg h5]
          have e : decide (0 ≤ x.f0 ∧ x.f0 ≤ 60 ∧ 1 ≤ x.f1 ∧ x.f1 ≤ 9 ∧ (l.getD (i - 1) z43).f0 ≤ x.f0) = true := decide_eq_true (by omega)
          simp only [custFrom, e, Bool.true_and]
      · rw [if_neg h2, cust_bad (by omega), Bool.false_and]
    · rw [if_neg h1, cust_bad (by omega), Bool.false_and]
theorem spec_CustomersOk_is (l : List S43) (hl : l.length ≤ 1048576) (k : Nat) (hk : l.length < k) : spec_CustomersOk.f k l = some (custOk l) := by
  unfold spec_CustomersOk.f
  exact spec_CustomersOk_loop l hl l 0 k rfl hk (by omega)

/-! custfacts -/
theorem custFrom_tail {p : Option S43} {x : S43} {xs : List S43} (h : custFrom p (x :: xs) = true) : (0 ≤ x.f0 ∧ x.f0 ≤ 60 ∧ 1 ≤ x.f1 ∧ x.f1 ≤ 9) ∧ custFrom (some x) xs = true ∧ ∀ q, p = some q → q.f0 ≤ x.f0 := by
  cases p with
  | none =>
    simp only [custFrom, Bool.and_eq_true, decide_eq_true_eq] at h
    exact ⟨h.1, h.2, fun q e => by cases e⟩
  | some q =>
    simp only [custFrom, Bool.and_eq_true, decide_eq_true_eq] at h
    exact ⟨⟨h.1.1, h.1.2.1, h.1.2.2.1, h.1.2.2.2.1⟩, h.2, fun q' e => by cases e; exact h.1.2.2.2.2⟩
theorem custFrom_mem {l : List S43} : ∀ {p : Option S43}, custFrom p l = true → ∀ c ∈ l, 0 ≤ c.f0 ∧ c.f0 ≤ 60 ∧ 1 ≤ c.f1 ∧ c.f1 ≤ 9 := by
  induction l with
  | nil => intro p _ c hc; cases hc
  | cons x xs ih =>
    intro p h c hc
    obtain ⟨h1, h2, -⟩ := custFrom_tail h
    rcases List.mem_cons.1 hc with rfl | hc
    · exact h1
    · exact ih h2 c hc
theorem custFrom_le {l : List S43} : ∀ {p : S43}, custFrom (some p) l = true → ∀ c ∈ l, p.f0 ≤ c.f0 := by
  induction l with
  | nil => intro p _ c hc; cases hc
  | cons x xs ih =>
    intro p h c hc
    obtain ⟨h1, h2, h3⟩ := custFrom_tail h
    have hp := h3 p rfl
    rcases List.mem_cons.1 hc with rfl | hc
    · exact hp
    · have := ih h2 c hc; omega
theorem custOk_from {l : List S43} (h : custOk l = true) : custFrom none l = true := by
  unfold custOk at h
  rw [Bool.and_eq_true] at h
  exact h.1
theorem custOk_len {l : List S43} (h : custOk l = true) : l.length ≤ 8 := by
  unfold custOk at h
  rw [Bool.and_eq_true] at h
  exact of_decide_eq_true h.2
theorem custOk_mem {l : List S43} (h : custOk l = true) : ∀ c ∈ l, 0 ≤ c.f0 ∧ c.f0 ≤ 60 ∧ 1 ≤ c.f1 ∧ c.f1 ≤ 9 := custFrom_mem (custOk_from h)
theorem custFrom_adj {l : List S43} : ∀ {p : Option S43}, custFrom p l = true → ∀ i, i + 1 < l.length → (l.getD i z43).f0 ≤ (l.getD (i + 1) z43).f0 := by
  induction l with
  | nil => intro p _ i h; simp at h
  | cons x xs ih =>
    intro p h i hi
    obtain ⟨h1, h2, -⟩ := custFrom_tail h
    cases i with
    | zero => exact custFrom_le h2 (xs.getD 0 z43) (getD_mem (by simpa using hi) _)
    | succ i => exact ih h2 i (by simpa using hi)

/-! alive -/
theorem alive_is (k : Nat) (hk : 2 ≤ k) : laws_alive.f k = some true := by
  unfold laws_alive.f
  rw [impl_CustomersOk_is _ (by simp) k (by simp; omega)]
  simp only [Option.bind_some]
  rw [if_pos (by decide), impl_CustomersOk_is _ (by simp) k (by simp; omega)]
  rfl

/-! sameints -/
theorem sameInts_loop (a : List Int) (ha : a.length ≤ 1048576) : ∀ (suf : List Int) (i k : Nat), a.drop i = suf → suf.length < k → laws_sameInts.l0 k a a i = some true := by
  intro suf
  induction suf with
  | nil =>
    intro i k hd hk
    obtain ⟨k, rfl⟩ : ∃ m, k = m + 1 := ⟨k - 1, by omega⟩
    have := drop_nil hd
    simp only [laws_sameInts.l0]
    rw [if_neg (by omega)]
  | cons x xs ih =>
    intro i k hd hk
    obtain ⟨k, rfl⟩ : ∃ m, k = m + 1 := ⟨k - 1, by omega⟩
    obtain ⟨hlt, hd2, hx⟩ := drop_split hd
    simp only [laws_sameInts.l0]
    rw [if_pos (by omega), if_pos (by omega), if_pos (by omega), if_pos trivial, w64s i (by omega), ih (i + 1) k hd2 (by simp at hk; omega)]
theorem sameInts_is (a : List Int) (ha : a.length ≤ 1048576) (k : Nat) (hk : a.length < k) : laws_sameInts.f k a a = some true := by
  unfold laws_sameInts.f
  rw [if_pos rfl]
  exact sameInts_loop a ha a 0 k rfl hk

/-! drawcust -/
theorem l20Customers_loop {s : List Int} (hs : ∀ x ∈ s, 0 ≤ x ∧ x ≤ 255) (hl : s.length ≤ 2000) (m wide high : Int) (hm : m ≤ 1000) : ∀ (d : Nat) (k : Nat) (l : List S43) (t p : Int), d + 2 ≤ k → 0 ≤ p → p + 2 * d + 4 ≤ 1000000 → l.length + d ≤ 100 →
    ∃ r q, spec_l20Customers.l0 k m l t wide high d s p = some (r, q) ∧ r.length ≤ 200 ∧ p ≤ q ∧ q ≤ p + 2 * d + 4 := by
  intro d
  induction d with
  | zero =>
    intro k l t p hk hp hp2 hll
    obtain ⟨k, rfl⟩ : ∃ m, k = m + 1 := ⟨k - 1, by omega⟩
    simp only [spec_l20Customers.l0]
    rw [if_neg (by omega)]
    obtain ⟨b, q, e, hq1, hq2, -⟩ := odd_ok (k := k) (by omega) hs hl p hp (by omega) m hm
    rw [e]; simp only [Option.bind_some]
    cases b with
    | false => rw [if_neg (by simp)]; exact ⟨_, _, rfl, by omega, by omega, by omega⟩
    | true =>
      rw [if_pos rfl]
      obtain ⟨v, e2, hv⟩ := pick_ok (k := k) (by omega) hs hl q (by omega) (by omega) 3
      rw [e2]; simp only [Option.bind_some]
      by_cases v0 : v = 0
      · rw [if_pos v0]; exact ⟨_, _, rfl, by simp, by omega, by omega⟩
      · rw [if_neg v0]
        by_cases v1 : v = 1
        · rw [if_pos v1, if_pos (by omega)]; exact ⟨_, _, rfl, by rw [List.length_append]; simp; omega, by omega, by omega⟩
        · rw [if_neg v1]
          obtain ⟨v2, e3, hv2, hv3, -⟩ := pick_ok (k := k) (by omega) hs hl (q + 1) (by omega) (by omega) 2
          have hv3 := hv3 (by omega)
          rw [e3]; simp only [Option.bind_some]
          rw [if_pos hv2, if_pos (by simp; omega)]
          exact ⟨_, _, rfl, by simp, by omega, by omega⟩
  | succ d ih =>
    intro k l t p hk hp hp2 hll
    obtain ⟨k, rfl⟩ : ∃ m, k = m + 1 := ⟨k - 1, by omega⟩
    simp only [spec_l20Customers.l0]
    rw [if_pos (by omega)]
    obtain ⟨v, e, -⟩ := pick_ok (k := k) (by omega) hs hl p hp (by omega) high
    rw [e]; simp only [Option.bind_some]
    rw [if_pos (by omega)]
    obtain ⟨v2, e2, -⟩ := pick_ok (k := k) (by omega) hs hl (p + 1) (by omega) (by omega) (wrap64 (wide + 1))
    rw [e2]; simp only [Option.bind_some]
    rw [show wrap64 (((d + 1 : Nat) : Int) - 1) = (d : Int) from by rw [w64 (by omega) (by omega)]; omega]
    obtain ⟨r, q, e3, h1, h2, h3⟩ := ih k (l ++ [⟨t, wrap64 (1 + v)⟩]) (wrap64 (t + v2)) (p + 1 + 1) (by omega) (by omega) (by omega) (by rw [List.length_append]; simp; omega)
    exact ⟨r, q, e3, h1, by omega, by omega⟩
theorem l20Customers_ok {s : List Int} (hs : ∀ x ∈ s, 0 ≤ x ∧ x ≤ 255) (hl : s.length ≤ 2000) (m : Int) (hm : m ≤ 1000) (k : Nat) (hk : 20 ≤ k) (p : Int) (hp : 0 ≤ p) (hp2 : p ≤ 100000) :
    ∃ r q, spec_l20Customers.f k s p m = some (r, q) ∧ r.length ≤ 200 ∧ p ≤ q ∧ q ≤ p + 30 := by
  unfold spec_l20Customers.f
  obtain ⟨v0, e0, -⟩ := pick_ok (k := k) (by omega) hs hl p hp (by omega) 3
  rw [e0]; simp only [Option.bind_some]
  obtain ⟨v, e, -⟩ := pick_ok (k := k) (by omega) hs hl (p + 1) (by omega) (by omega) 5
  rw [e]; simp only [Option.bind_some]
  obtain ⟨v1, e1, h10, h11, -⟩ := pick_ok (k := k) (by omega) hs hl (p + 1 + 1) (by omega) (by omega) 2
  have h11 := h11 (by omega)
  rw [e1]; simp only [Option.bind_some]
  rw [if_pos h10, if_pos (by simp; omega)]
  obtain ⟨v2, e2, hv2, hv3, -⟩ := pick_ok (k := k) (by omega) hs hl (p + 1 + 1 + 1) (by omega) (by omega) 9
  have hv3 := hv3 (by omega)
  rw [e2]; simp only [Option.bind_some]
  obtain ⟨r, q, e3, h1, h2, h3⟩ := l20Customers_loop hs hl m (wrap64 (1 + v)) (rd [3, 9] v1) hm v2.toNat k [] v0 (p + 1 + 1 + 1 + 1) (by omega) (by omega) (by omega) (by simp only [List.length_nil]; omega)
  rw [show ((v2.toNat : Nat) : Int) = v2 from by omega] at e3
  exact ⟨r, q, e3, h1, by omega, by omega⟩

/-! orders -/
/-! Orders: for each unit of time who is served. -/
def needs (l : List S43) : List Int := l.map (·.f1)
def servedOne (left : List Int) (w : Int) : List Int := if 0 ≤ w then left.set w.toNat (left.getD w.toNat 0 - 1) else left
def okI (l : List S43) : List Int → Int → List Int → Bool
  | left, _, [] => left.all (fun n => decide (n = 0))
  | left, t, w :: ws => decide (-1 ≤ w ∧ w < (l.length : Int) ∧ (0 ≤ w → (l.getD w.toNat z43).f0 ≤ t)) && okI l (servedOne left w) (t + 1) ws
def orderOk (l : List S43) (order : List Int) : Bool := custOk l && (decide (order.length ≤ 200) && okI l (needs l) 0 order)
theorem orderOk_parts {l : List S43} {order : List Int} (h : orderOk l order = true) : custOk l = true ∧ order.length ≤ 200 ∧ okI l (needs l) 0 order = true := by
  unfold orderOk at h
  rw [Bool.and_eq_true, Bool.and_eq_true, decide_eq_true_eq] at h
  exact h
theorem needs_length (l : List S43) : (needs l).length = l.length := by unfold needs; rw [List.length_map]
theorem servedOne_length (left : List Int) (w : Int) : (servedOne left w).length = left.length := by
  unfold servedOne; split
  · rw [List.length_set]
  · rfl
theorem needs_get (l : List S43) (i : Nat) : (needs l).getD i 0 = (l.getD i z43).f1 := by
  unfold needs
  rw [List.getD_eq_getElem?_getD, List.getD_eq_getElem?_getD, List.getElem?_map]
  cases l[i]? <;> rfl
theorem getD_set_eq {α : Type} (X : List α) (i : Nat) (v d : α) (h : i < X.length) : (X.set i v).getD i d = v := by
  rw [getD_lt (by rw [List.length_set]; exact h), List.getElem_set_self]
theorem getD_set_ne {α : Type} (X : List α) (i j : Nat) (v d : α) (h : i ≠ j) : (X.set i v).getD j d = X.getD j d := by
  rw [List.getD_eq_getElem?_getD, List.getElem?_set_ne h, List.getD_eq_getElem?_getD]
/-- How often one is served. -/
def cntW (w : Int) : List Int → Int
  | [] => 0
  | x :: xs => (if x = w then 1 else 0) + cntW w xs
theorem cntW_append (w : Int) (a b : List Int) : cntW w (a ++ b) = cntW w a + cntW w b := by
  induction a with
  | nil => simp [cntW]
  | cons x xs ih => simp only [List.cons_append, cntW, ih]; omega
theorem cntW_bound (w : Int) (a : List Int) : 0 ≤ cntW w a ∧ cntW w a ≤ a.length := by
  induction a with
  | nil => simp [cntW]
  | cons x xs ih => simp only [cntW, List.length_cons]; split <;> omega
theorem okI_cnt (l : List S43) : ∀ (ws left : List Int) (t : Int), left.length = l.length → okI l left t ws = true → ∀ i, i < left.length → left.getD i 0 = cntW (i : Int) ws := by
  intro ws
  induction ws with
  | nil =>
    intro left t hl h i hi
    simp only [okI, List.all_eq_true, decide_eq_true_eq] at h
    simp only [cntW]
    exact h _ (getD_mem hi _)
  | cons w ws ih =>
    intro left t hl h i hi
    simp only [okI, Bool.and_eq_true, decide_eq_true_eq] at h
    obtain ⟨⟨h1, h2, -⟩, h4⟩ := h
    have := ih (servedOne left w) (t + 1) (by rw [servedOne_length]; exact hl) h4 i (by rw [servedOne_length]; exact hi)
    simp only [cntW]
    rw [← this]
    unfold servedOne
    by_cases hw : 0 ≤ w
    · rw [if_pos hw]
      by_cases e : w = (i : Int)
      · rw [if_pos e, show w.toNat = i from by omega, getD_set_eq _ _ _ _ hi]; omega
      · rw [if_neg e, getD_set_ne _ _ _ _ _ (by omega)]; omega
    · rw [if_neg hw, if_neg (by omega)]; omega
theorem orderOk_cnt {l : List S43} {order : List Int} (h : orderOk l order = true) (i : Nat) (hi : i < l.length) : cntW (i : Int) order = (l.getD i z43).f1 := by
  obtain ⟨-, -, h3⟩ := orderOk_parts h
  rw [← okI_cnt l order (needs l) 0 (needs_length l) h3 i (by rw [needs_length]; exact hi), needs_get]
theorem okI_neg (l : List S43) : ∀ (ws left : List Int) (t : Int), left.length = l.length → (∃ i, i < left.length ∧ left.getD i 0 < 0) → okI l left t ws = false := by
  intro ws left t hl ⟨i, hi, hneg⟩
  by_cases h : okI l left t ws = true
  · have := okI_cnt l ws left t hl h i hi
    have := cntW_bound (i : Int) ws
    omega
  · simpa using h
theorem needs_bound {l : List S43} (hok : custOk l = true) : ∀ x ∈ needs l, 0 ≤ x ∧ x ≤ 9 := by
  intro x hx
  unfold needs at hx
  obtain ⟨c, hc, rfl⟩ := List.mem_map.1 hx
  have := custOk_mem hok c hc
  omega

/-! leftof -/
theorem impl_leftOf_loop (l : List S43) (hl : l.length ≤ 1048576) : ∀ (suf : List S43) (i k : Nat) (out : List Int), l.drop i = suf → suf.length < k → i ≤ l.length → out.length ≤ i → impl_leftOf.l0 k out l (l.length : Int) i = some (out ++ needs suf) := by
  intro suf
  induction suf with
  | nil =>
    intro i k out hd hk hi ho
    obtain ⟨k, rfl⟩ : ∃ m, k = m + 1 := ⟨k - 1, by omega⟩
    have := drop_nil hd
    simp only [impl_leftOf.l0]
    rw [if_neg (by omega)]
    simp [needs]
  | cons x xs ih =>
    intro i k out hd hk hi ho
    obtain ⟨k, rfl⟩ : ∃ m, k = m + 1 := ⟨k - 1, by omega⟩
    obtain ⟨hlt, hd2, hx⟩ := drop_split hd
    simp only [impl_leftOf.l0]
    rw [if_pos (by omega), if_pos (by omega), if_pos (by omega), if_pos (by omega), rd_Customer_nat, hx, w64s i (by omega)]
    rw [ih (i + 1) k _ hd2 (by simp at hk; omega) (by omega) (by rw [List.length_append]; simp; omega)]
    simp [needs]
theorem impl_leftOf_is (l : List S43) (hl : l.length ≤ 1048576) (k : Nat) (hk : l.length < k) : impl_leftOf.f k l = some (needs l) := by
  unfold impl_leftOf.f
  exact impl_leftOf_loop l hl l 0 k [] rfl hk (by omega) (by simp)

/-! orderok -/
theorem impl_OrderOk_end (left : List Int) (hl : left.length ≤ 1048576) : ∀ (suf : List Int) (i k : Nat), left.drop i = suf → suf.length < k → i ≤ left.length → impl_OrderOk.l1 k left (left.length : Int) i = some (suf.all (fun n => decide (n = 0))) := by
  intro suf
  induction suf with
  | nil =>
    intro i k hd hk hi
    obtain ⟨k, rfl⟩ : ∃ m, k = m + 1 := ⟨k - 1, by omega⟩
    have := drop_nil hd
    simp only [impl_OrderOk.l1]
    rw [if_neg (by omega)]
    rfl
  | cons x xs ih =>
    intro i k hd hk hi
    obtain ⟨k, rfl⟩ : ∃ m, k = m + 1 := ⟨k - 1, by omega⟩
    obtain ⟨hlt, hd2, hx⟩ := drop_split hd
    simp only [impl_OrderOk.l1]
    rw [if_pos (by omega), if_pos (by omega), if_pos (by omega), rd_nat, hx, w64s i (by omega), ih (i + 1) k hd2 (by simp at hk; omega) (by omega)]
    by_cases h : x = 0
    · rw [if_pos h, h]; simp
    · rw [if_neg h]; simp [h]
theorem servedOne_bound {left : List Int} {w : Int} {B : Int} (h : ∀ x ∈ left, -B ≤ x ∧ x ≤ 9) (hw : w.toNat < left.length) : ∀ x ∈ servedOne left w, -(B + 1) ≤ x ∧ x ≤ 9 := by
  intro x hx
  unfold servedOne at hx
  split at hx
  · rcases List.mem_or_eq_of_mem_set hx with hx | hx
    · have := h x hx; omega
    · have := h _ (getD_mem hw 0); omega
  · have := h x hx; omega
theorem impl_OrderOk_loop (l : List S43) (h8 : l.length ≤ 8) (order : List Int) (ho : order.length ≤ 200) : ∀ (suf : List Int) (i k : Nat) (left : List Int), order.drop i = suf → 2 * suf.length + 20 ≤ k → i ≤ order.length → left.length = l.length → (∀ x ∈ left, -(i : Int) ≤ x ∧ x ≤ 9) →
    impl_OrderOk.l0 k l left order (order.length : Int) i = some (okI l left i suf) := by
  intro suf
  induction suf with
  | nil =>
    intro i k left hd hk hi hl hb
    obtain ⟨k, rfl⟩ : ∃ m, k = m + 1 := ⟨k - 1, by omega⟩
    have := drop_nil hd
    simp only [impl_OrderOk.l0]
    rw [if_neg (by omega)]
    exact impl_OrderOk_end left (by omega) left 0 k rfl (by omega) (by omega)
  | cons w ws ih =>
    intro i k left hd hk hi hl hb
    obtain ⟨k, rfl⟩ : ∃ m, k = m + 2 := ⟨k - 2, by omega⟩
    obtain ⟨hlt, hd2, hx⟩ := drop_split hd
    simp only [List.length_cons] at hk
    simp only [impl_OrderOk.l0, impl_OrderOk.j2, okI]
    rw [if_pos (by omega), if_pos (by omega), if_pos (by omega), rd_nat, hx]
    by_cases h1 : w < -1
    · rw [if_pos h1, decide_eq_false (by omega), Bool.false_and, if_pos trivial]
    rw [if_neg h1]
    by_cases h2 : w ≥ (l.length : Int)
    · rw [if_pos h2, decide_eq_false (by omega), Bool.false_and, if_pos trivial]
    rw [if_neg h2]
    have hih := ih (i + 1) k (servedOne left w) hd2 (by omega) (by omega) (by rw [servedOne_length]; exact hl)
    by_cases h3 : w ≥ 0
    · have hwl : w.toNat < left.length := by omega
      have hwb := hb (left.getD w.toNat 0) (getD_mem hwl _)
      have hih2 := hih (by have := servedOne_bound hb hwl; intro x hx; have := this x hx; omega)
      have e : servedOne left w = left.set w.toNat (wrap64 (rd left w - 1)) := by
        unfold servedOne rd
        rw [if_pos h3, show wrap64 (left.getD w.toNat 0 - 1) = left.getD w.toNat 0 - 1 from w64 (by omega) (by omega)]
      rw [if_pos h3, if_pos (show (0 : Int) ≤ w by omega), if_pos (show w < (l.length : Int) by omega), if_pos (show w < (left.length : Int) by omega), ← e, w64s i (by omega), hih2, if_pos h3]
      rw [show rd_T43 l w = l.getD w.toNat z43 from rfl]
      rw [show ((i + 1 : Nat) : Int) = (i : Int) + 1 from by omega]
      by_cases h4 : (l.getD w.toNat z43).f0 > (i : Int)
      · rw [if_pos (by simpa using h4), decide_eq_false (by intro h; have := h.2.2 h3; omega), Bool.false_and]
      · rw [if_neg (by simpa using h4), decide_eq_true ⟨by omega, by omega, fun _ => by omega⟩, Bool.true_and]
        (try simp); (try omega)
    · have e : servedOne left w = left := by unfold servedOne; rw [if_neg h3]
      rw [e] at hih ⊢
      have hih2 := hih (fun x hx => by have := hb x hx; omega)
      rw [if_neg h3, if_neg (by simp), if_neg h3, w64s i (by omega), hih2, decide_eq_true ⟨by omega, by omega, fun h => absurd h h3⟩, Bool.true_and]
      rw [show ((i + 1 : Nat) : Int) = (i : Int) + 1 from by omega]
theorem impl_OrderOk_is (l : List S43) (order : List Int) (hl : l.length ≤ 1048576) (k : Nat) (hk : l.length + 430 ≤ k) : impl_OrderOk.f k l order = some (orderOk l order) := by
  obtain ⟨k, rfl⟩ : ∃ m, k = m + 1 := ⟨k - 1, by omega⟩
  have neg : impl_OrderOk.j0 (k + 1) l order true = some false := by simp [impl_OrderOk.j0]
  unfold impl_OrderOk.f orderOk
  rw [impl_CustomersOk_is l hl (k + 1) (by omega), neg]
  simp only [Option.bind_some]
  by_cases hok : custOk l = true
  · have h8 := custOk_len hok
    rw [if_pos hok, hok, Bool.true_and]
    by_cases h2 : (order.length : Int) > 200
    · rw [decide_eq_true h2, neg, decide_eq_false (by omega), Bool.false_and]
    · rw [decide_eq_false h2]
      simp only [impl_OrderOk.j0]
      rw [if_neg (by simp), impl_leftOf_is l hl k (by omega)]
      simp only [Option.bind_some]
      rw [decide_eq_true (by omega), Bool.true_and]
      exact impl_OrderOk_loop l h8 order (by omega) order 0 k (needs l) rfl (by omega) (by omega) (needs_length l) (fun x hx => by have := needs_bound hok x hx; omega)
  · rw [if_neg hok, Bool.not_eq_true _ |>.mp hok, Bool.false_and]

/-! units -/
/-- Units of one from a unit on up to another. -/
def unitsP (order : List Int) (w : Int) (a b : Nat) : Int := cntW w ((order.drop a).take (b - a))
theorem impl_unitsIn_loop (order : List Int) (w : Int) (ho : order.length ≤ 1048576) (b : Int) (hb : b ≤ 1048576) : ∀ (d i k : Nat) (n : Int), (d : Int) + i = b ∨ (b ≤ i ∧ d = 0) → 2 * d + 3 ≤ k → 0 ≤ n → n ≤ i →
    impl_unitsIn.l0 k order w b n i = some (n + cntW w ((order.drop i).take d)) := by
  intro d
  induction d with
  | zero =>
    intro i k n hd hk h0 h1
    obtain ⟨k, rfl⟩ : ∃ m, k = m + 2 := ⟨k - 2, by omega⟩
    simp only [impl_unitsIn.l0, impl_unitsIn.j1]
    rw [if_neg (by omega), if_neg (by simp)]
    simp [cntW]
  | succ d ih =>
    intro i k n hd hk h0 h1
    obtain ⟨k, rfl⟩ : ∃ m, k = m + 2 := ⟨k - 2, by omega⟩
    simp only [impl_unitsIn.l0, impl_unitsIn.j1]
    rw [if_pos (by omega)]
    by_cases hlt : i < order.length
    · have hdr : order.drop i = order.getD i 0 :: order.drop (i + 1) := by rw [getD_lt hlt]; exact List.drop_eq_getElem_cons hlt
      have hih := fun n => ih (i + 1) k n (by omega) (by omega)
      rw [if_pos (by simpa using hlt), if_pos (by omega), if_pos (by omega), rd_nat, hdr, w64s i (by omega), show wrap64 (n + 1) = n + 1 from w64 (by omega) (by omega), List.take_succ_cons]
      simp only [cntW]
      by_cases h : order.getD i 0 = w
      · rw [if_pos h, if_pos h, hih (n + 1) (by omega) (by omega)]; congr 1; omega
      · rw [if_neg h, if_neg h, hih n (by omega) (by omega)]; congr 1; omega
    · rw [if_neg (by simpa using hlt), List.drop_eq_nil_of_le (by omega)]
      simp [cntW]
theorem impl_unitsIn_is (order : List Int) (w : Int) (ho : order.length ≤ 1048576) (a b : Nat) (hb : b ≤ 1000) (k : Nat) (hk : 2010 ≤ k) : impl_unitsIn.f k order w a b = some (unitsP order w a b) := by
  unfold impl_unitsIn.f unitsP
  have h := impl_unitsIn_loop order w ho (b : Int) (by omega) (b - a) a k 0 (by omega) (by omega) (by omega) (by omega)
  rw [Int.zero_add] at h
  exact h
theorem unitsP_split (order : List Int) (w : Int) (a m b : Nat) (h1 : a ≤ m) (h2 : m ≤ b) : unitsP order w a b = unitsP order w a m + unitsP order w m b := by
  unfold unitsP
  rw [← cntW_append]
  congr 1
  rw [show b - a = (m - a) + (b - m) from by omega, List.take_add, List.drop_drop, show a + (m - a) = m from by omega]
theorem unitsP_bound (order : List Int) (w : Int) (a b : Nat) (h : a ≤ b) : 0 ≤ unitsP order w a b ∧ unitsP order w a b ≤ (b : Int) - a := by
  unfold unitsP
  have h1 := cntW_bound w ((order.drop a).take (b - a))
  have h2 : ((order.drop a).take (b - a)).length ≤ b - a := by rw [List.length_take]; omega
  omega

/-! orders2 -/
theorem okI_mem (l : List S43) : ∀ (ws left : List Int) (t : Int), okI l left t ws = true → ∀ w ∈ ws, -1 ≤ w ∧ w < (l.length : Int) := by
  intro ws
  induction ws with
  | nil => intro left t _ w hw; cases hw
  | cons x xs ih =>
    intro left t h w hw
    simp only [okI, Bool.and_eq_true, decide_eq_true_eq] at h
    rcases List.mem_cons.1 hw with rfl | hw
    · exact ⟨h.1.1, h.1.2.1⟩
    · exact ih _ _ h.2 w hw
theorem orderOk_mem {l : List S43} {order : List Int} (h : orderOk l order = true) : ∀ w ∈ order, -1 ≤ w ∧ w < (l.length : Int) := okI_mem l order _ _ (orderOk_parts h).2.2

/-! ends -/
/-- When the last unit of one ends: e, or behind the last such unit from t on. -/
def endFrom (w : Int) : Int → Int → List Int → Int
  | _, e, [] => e
  | t, e, x :: xs => endFrom w (t + 1) (if x = w then t + 1 else e) xs
def endsP (n : Nat) (order : List Int) : List Int := (List.range n).map fun (i : Nat) => endFrom (i : Int) 0 0 order
theorem endsP_length (n : Nat) (order : List Int) : (endsP n order).length = n := by unfold endsP; simp
theorem endsP_get (n : Nat) (order : List Int) (i : Nat) (h : i < n) : (endsP n order).getD i 0 = endFrom (i : Int) 0 0 order := by
  rw [getD_lt (by rw [endsP_length]; exact h)]
  unfold endsP
  rw [List.getElem_map, List.getElem_range]
theorem endFrom_bound (w : Int) : ∀ (order : List Int) (t e : Int), 0 ≤ t → 0 ≤ e → e ≤ t → 0 ≤ endFrom w t e order ∧ endFrom w t e order ≤ t + order.length := by
  intro order
  induction order with
  | nil => intro t e h0 h1 h2; simp [endFrom]; omega
  | cons x xs ih =>
    intro t e h0 h1 h2
    have := ih (t + 1) (if x = w then t + 1 else e) (by omega) (by split <;> omega) (by split <;> omega)
    simp only [endFrom, List.length_cons]
    omega
theorem list_ext_getD {a b : List Int} (h : a.length = b.length) (hg : ∀ i, i < a.length → a.getD i 0 = b.getD i 0) : a = b := by
  apply List.ext_getElem h
  intro i h1 h2
  have := hg i h1
  rw [getD_lt h1, getD_lt h2] at this
  exact this
theorem impl_endsOf_loop (n : Nat) (order : List Int) (ho : order.length ≤ 1048576) (hw : ∀ w ∈ order, w < (n : Int)) : ∀ (suf : List Int) (i k : Nat) (X : List Int), order.drop i = suf → suf.length < k → i ≤ order.length → X.length = n →
    ∃ r, impl_endsOf.l0 k X order (order.length : Int) i = some r ∧ r.length = n ∧ ∀ j, j < n → r.getD j 0 = endFrom (j : Int) i (X.getD j 0) suf := by
  intro suf
  induction suf with
  | nil =>
    intro i k X hd hk hi hX
    obtain ⟨k, rfl⟩ : ∃ m, k = m + 1 := ⟨k - 1, by omega⟩
    have := drop_nil hd
    simp only [impl_endsOf.l0]
    rw [if_neg (by omega)]
    exact ⟨X, rfl, hX, fun j hj => rfl⟩
  | cons x xs ih =>
    intro i k X hd hk hi hX
    obtain ⟨k, rfl⟩ : ∃ m, k = m + 1 := ⟨k - 1, by omega⟩
    obtain ⟨hlt, hd2, hx⟩ := drop_split hd
    have hxn := hw x (by rw [← hx 0]; exact getD_mem hlt _)
    simp only [List.length_cons] at hk
    simp only [impl_endsOf.l0]
    rw [if_pos (by omega), if_pos (by omega), if_pos (by omega), rd_nat, hx, w64s i (by omega)]
    by_cases h : x ≥ 0
    · rw [if_pos h, if_pos (show (0 : Int) ≤ x from h), if_pos (by omega)]
      obtain ⟨r, e, hl, hr⟩ := ih (i + 1) k (X.set x.toNat ((i + 1 : Nat) : Int)) hd2 (by omega) (by omega) (by rw [List.length_set]; exact hX)
      refine ⟨r, e, hl, fun j hj => ?_⟩
      rw [hr j hj]
      simp only [endFrom]
      rw [show ((i + 1 : Nat) : Int) = (i : Int) + 1 from by omega]
      congr 1
      by_cases e2 : x = (j : Int)
      · rw [if_pos e2, show x.toNat = j from by omega, getD_set_eq _ _ _ _ (by omega)]
      · rw [if_neg e2, getD_set_ne _ _ _ _ _ (by omega)]
    · rw [if_neg h]
      obtain ⟨r, e, hl, hr⟩ := ih (i + 1) k X hd2 (by omega) (by omega) hX
      refine ⟨r, e, hl, fun j hj => ?_⟩
      rw [hr j hj]
      simp only [endFrom]
      rw [if_neg (by omega), show ((i + 1 : Nat) : Int) = (i : Int) + 1 from by omega]
theorem impl_endsOf_is (l : List S43) (order : List Int) (hl : l.length ≤ 1048576) (ho : order.length ≤ 1048576) (hw : ∀ w ∈ order, w < (l.length : Int)) (k : Nat) (hk : order.length < k) : impl_endsOf.f k l order = some (endsP l.length order) := by
  unfold impl_endsOf.f
  rw [if_pos (by omega), if_pos (by omega)]
  obtain ⟨r, e, hr, hg⟩ := impl_endsOf_loop l.length order ho hw order 0 k (List.replicate ((l.length : Int)).toNat 0) rfl hk (by omega) (by simp)
  rw [show ((0 : Nat) : Int) = 0 from rfl] at e
  rw [e]
  congr 1
  refine list_ext_getD (by rw [hr, endsP_length]) (fun i hi => ?_)
  rw [hr] at hi
  rw [hg i hi, endsP_get _ _ _ hi]
  congr 1
  rw [getD_lt (by simp; omega), List.getElem_replicate]

/-! ahead -/
/-- The greatest difference on the way, from one beginning on. -/
def innerP (a b : Int) : List Int → Int → Int → Int
  | [], _, best => best
  | x :: xs, n, best => innerP a b xs (n + (if x = a then 1 else 0) - (if x = b then 1 else 0)) (max (max best (n + (if x = a then 1 else 0) - (if x = b then 1 else 0))) (-(n + (if x = a then 1 else 0) - (if x = b then 1 else 0))))
def outerP (a b : Int) : List Int → Int → Int
  | [], best => best
  | x :: xs, best => outerP a b xs (innerP a b (x :: xs) 0 best)
/-- What of an order lies between two times. -/
def segP (order : List Int) (s e : Nat) : List Int := (order.drop s).take (e - s)
def aheadP (l : List S43) (order : List Int) (a b : Int) : Int :=
  if orderOk l order = true ∧ (0 ≤ a ∧ a ≤ (l.length : Int) - 1) ∧ 0 ≤ b ∧ b ≤ (l.length : Int) - 1 then
    outerP a b (segP order (max (l.getD a.toNat z43).f0 (l.getD b.toNat z43).f0).toNat (min (endFrom a 0 0 order) (endFrom b 0 0 order)).toNat) 0
  else -1
theorem innerP_ge (a b : Int) : ∀ (xs : List Int) (n best : Int), best ≤ innerP a b xs n best := by
  intro xs
  induction xs with
  | nil => intro n best; exact Int.le_refl _
  | cons x xs ih => intro n best; simp only [innerP]; refine Int.le_trans ?_ (ih _ _); omega
theorem innerP_le (a b : Int) : ∀ (xs : List Int) (n best B : Int), best ≤ B → n + xs.length ≤ B → -n + xs.length ≤ B → innerP a b xs n best ≤ B := by
  intro xs
  induction xs with
  | nil => intro n best B h _ _; exact h
  | cons x xs ih =>
    intro n best B h h1 h2
    simp only [innerP, List.length_cons] at *
    refine ih _ _ B ?_ ?_ ?_ <;> split <;> split <;> omega
theorem outerP_le (a b : Int) : ∀ (xs : List Int) (best B : Int), best ≤ B → (xs.length : Int) ≤ B → outerP a b xs best ≤ B := by
  intro xs
  induction xs with
  | nil => intro best B h _; exact h
  | cons x xs ih =>
    intro best B h h1
    simp only [outerP]
    refine ih _ B (innerP_le a b _ 0 best B h (by omega) (by omega)) (by simp only [List.length_cons] at h1; omega)
theorem outerP_ge (a b : Int) : ∀ (xs : List Int) (best : Int), best ≤ outerP a b xs best := by
  intro xs
  induction xs with
  | nil => intro best; exact Int.le_refl _
  | cons x xs ih => intro best; simp only [outerP]; exact Int.le_trans (innerP_ge a b _ 0 best) (ih _)
theorem seg_cons (order : List Int) (s e : Nat) (h : s < e) (he : e ≤ order.length) : segP order s e = order.getD s 0 :: segP order (s + 1) e := by
  unfold segP
  have hs : s < order.length := by omega
  have hdr : order.drop s = order.getD s 0 :: order.drop (s + 1) := by rw [getD_lt hs]; exact List.drop_eq_getElem_cons hs
  rw [hdr, show e - s = (e - (s + 1)) + 1 from by omega, List.take_succ_cons]
theorem seg_nil (order : List Int) (s e : Nat) (h : e ≤ s) : segP order s e = [] := by
  unfold segP
  rw [show e - s = 0 from by omega, List.take_zero]
theorem seg_length (order : List Int) (s e : Nat) : (segP order s e).length ≤ e - s := by unfold segP; rw [List.length_take]; omega

/-! ahead_impl -/
/-- The difference of units from s up to t. -/
theorem diff_next (order : List Int) (a b : Int) (s t : Nat) (hst : s ≤ t) (ht : t < order.length) : unitsP order a s (t + 1) - unitsP order b s (t + 1) = (unitsP order a s t - unitsP order b s t) + (if order.getD t 0 = a then 1 else 0) - (if order.getD t 0 = b then 1 else 0) := by
  have one : ∀ w, unitsP order w t (t + 1) = if order.getD t 0 = w then 1 else 0 := by
    intro w
    unfold unitsP
    have hdr : order.drop t = order.getD t 0 :: order.drop (t + 1) := by rw [getD_lt ht]; exact List.drop_eq_getElem_cons ht
    rw [show t + 1 - t = 1 from by omega, hdr, List.take_succ_cons, List.take_zero]
    simp only [cntW]
    omega
  rw [unitsP_split order a s t (t + 1) hst (by omega), unitsP_split order b s t (t + 1) hst (by omega), one a, one b]
  omega
theorem impl_Ahead_inner (order : List Int) (a b : Int) (ho : order.length ≤ 200) (last : Nat) (hlo : last ≤ order.length) (s : Nat) (hs : s ≤ 400) (r : Int) (K : Nat) (hK : 2020 ≤ K) :
    ∀ (d i k : Nat) (best : Int), i + d = last → K + d + 2 ≤ k → s ≤ i → 
    (∀ k', K ≤ k' → impl_AheadBy.l0 k' order a b (innerP a b (segP order i last) (unitsP order a s i - unitsP order b s i) (max (max best (unitsP order a s i - unitsP order b s i)) (-(unitsP order a s i - unitsP order b s i)))) (last : Int) ((s + 1 : Nat) : Int) = some r) → impl_AheadBy.l1 k order a b best (last : Int) s i = some r := by
  intro d
  induction d with
  | zero =>
    intro i k best he hk hsi h
    obtain ⟨k, rfl⟩ : ∃ m, k = m + 1 := ⟨k - 1, by omega⟩
    have h1 := unitsP_bound order a s i hsi
    have h2 := unitsP_bound order b s i hsi
    rw [seg_nil _ _ _ (by omega)] at h
    simp only [innerP] at h
    rw [impl_AheadBy.l1]
    rw [if_pos (by omega), impl_unitsIn_is order a (by omega) s i (by omega) _ (by omega), impl_unitsIn_is order b (by omega) s i (by omega) _ (by omega)]
    simp only [Option.bind_some]
    rw [show wrap64 (unitsP order a s i - unitsP order b s i) = unitsP order a s i - unitsP order b s i from w64 (by omega) (by omega), show wrap64 (-(unitsP order a s i - unitsP order b s i)) = -(unitsP order a s i - unitsP order b s i) from w64 (by omega) (by omega), w64s i (by omega), mx_max, mx_max]
    obtain ⟨k, rfl⟩ : ∃ m, k = m + 1 := ⟨k - 1, by omega⟩
    rw [impl_AheadBy.l1]
    rw [if_neg (by omega), w64s s (by omega)]
    exact h k (by omega)
  | succ d ih =>
    intro i k best he hk hsi h
    obtain ⟨k, rfl⟩ : ∃ m, k = m + 1 := ⟨k - 1, by omega⟩
    have h1 := unitsP_bound order a s i hsi
    have h2 := unitsP_bound order b s i hsi
    rw [impl_AheadBy.l1]
    rw [if_pos (by omega), impl_unitsIn_is order a (by omega) s i (by omega) _ (by omega), impl_unitsIn_is order b (by omega) s i (by omega) _ (by omega)]
    simp only [Option.bind_some]
    rw [show wrap64 (unitsP order a s i - unitsP order b s i) = unitsP order a s i - unitsP order b s i from w64 (by omega) (by omega), show wrap64 (-(unitsP order a s i - unitsP order b s i)) = -(unitsP order a s i - unitsP order b s i) from w64 (by omega) (by omega), w64s i (by omega), mx_max, mx_max]
    refine ih (i + 1) k _ (by omega) (by omega) (by omega) (fun k' hk' => ?_)
    have := h k' hk'
    rw [seg_cons order i last (by omega) hlo] at this
    simp only [innerP] at this
    rw [diff_next order a b s i hsi (by omega)]
    exact this
theorem impl_Ahead_loop (order : List Int) (a b : Int) (ho : order.length ≤ 200) (last : Nat) (hlo : last ≤ order.length) :
    ∀ (d i k : Nat) (best : Int), i + d = last + 1 ∨ (d = 0 ∧ last < i) → 210 * d + 2100 ≤ k → i ≤ 400 → 0 ≤ best → impl_AheadBy.l0 k order a b best (last : Int) i = some (outerP a b (segP order i last) best) := by
  intro d
  induction d with
  | zero =>
    intro i k best he hk hi h0
    obtain ⟨k, rfl⟩ : ∃ m, k = m + 1 := ⟨k - 1, by omega⟩
    rw [impl_AheadBy.l0]
    rw [if_neg (by omega), seg_nil _ _ _ (by omega)]
    rfl
  | succ d ih =>
    intro i k best he hk hi h0
    obtain ⟨k, rfl⟩ : ∃ m, k = m + 1 := ⟨k - 1, by omega⟩
    rw [impl_AheadBy.l0]
    rw [if_pos (by omega)]
    have z : ∀ w, unitsP order w i i = 0 := by intro w; unfold unitsP; rw [Nat.sub_self, List.take_zero]; rfl
    refine impl_Ahead_inner order a b ho last hlo i (by omega) _ (210 * d + 2100) (by omega) (last - i) i k best (by omega) (by omega) (by omega) (fun k' hk' => ?_)
    rw [z a, z b, show (0 : Int) - 0 = 0 from rfl, show max (max best 0) (-0) = best from by omega]
    rw [ih (i + 1) k' _ (by omega) hk' (by omega) (Int.le_trans h0 (innerP_ge a b _ 0 best))]
    by_cases hlt : i < last
    · rw [seg_cons order i last hlt hlo]; rfl
    · rw [seg_nil order i last (by omega), seg_nil order (i + 1) last (by omega)]; rfl
theorem impl_AheadBy_is (l : List S43) (order : List Int) (hl : l.length ≤ 1048576) (a b : Int) (k : Nat) (hk : l.length + 50000 ≤ k) : impl_AheadBy.f k l order a b = some (aheadP l order a b) := by
  obtain ⟨k, rfl⟩ : ∃ m, k = m + 1 := ⟨k - 1, by omega⟩
  have neg : impl_AheadBy.j0 (k + 1) l order a b true = some (-1) := by simp [impl_AheadBy.j0]
  unfold impl_AheadBy.f aheadP
  rw [impl_OrderOk_is l order hl (k + 1) (by omega), neg]
  simp only [Option.bind_some]
  by_cases h : orderOk l order = true
  · rw [if_pos h]
    by_cases h1 : a < 0
    · rw [if_pos h1, if_neg (fun h => by omega)]
    rw [if_neg h1]
    by_cases h2 : a ≥ (l.length : Int)
    · rw [if_pos h2, if_neg (fun h => by omega)]
    rw [if_neg h2]
    by_cases h3 : b < 0
    · rw [if_pos h3, if_neg (fun h => by omega)]
    rw [if_neg h3]
    by_cases h4 : b ≥ (l.length : Int)
    · rw [decide_eq_true h4, neg, if_neg (fun h => by omega)]
    obtain ⟨p1, p2, p3⟩ := orderOk_parts h
    have hA := custOk_mem p1 (l.getD a.toNat z43) (getD_mem (by omega) _)
    have hB := custOk_mem p1 (l.getD b.toNat z43) (getD_mem (by omega) _)
    have ea : rd (endsP l.length order) a = endFrom a 0 0 order := by unfold rd; rw [endsP_get _ _ _ (by omega), show ((a.toNat : Nat) : Int) = a from by omega]
    have eb : rd (endsP l.length order) b = endFrom b 0 0 order := by unfold rd; rw [endsP_get _ _ _ (by omega), show ((b.toNat : Nat) : Int) = b from by omega]
    have ba := endFrom_bound a order 0 0 (by omega) (by omega) (by omega)
    have bb := endFrom_bound b order 0 0 (by omega) (by omega) (by omega)
    rw [decide_eq_false h4, if_pos ⟨h, by omega, by omega, by omega⟩]
    simp only [impl_AheadBy.j0]
    rw [if_neg (by simp), impl_endsOf_is l order hl (by omega) (fun w hw => (orderOk_mem h w hw).2) k (by omega)]
    simp only [Option.bind_some]
    rw [if_pos (show (0 : Int) ≤ a by omega), if_pos (show a < (l.length : Int) by omega), if_pos (show (0 : Int) ≤ b by omega), if_pos (show b < (l.length : Int) by omega), endsP_length, if_pos (show a < (l.length : Int) by omega), if_pos (show b < (l.length : Int) by omega), mx_max, mn_min, ea, eb]
    rw [show rd_T43 l a = l.getD a.toNat z43 from rfl, show rd_T43 l b = l.getD b.toNat z43 from rfl]
    have hloop := impl_Ahead_loop order a b p2 (min (endFrom a 0 0 order) (endFrom b 0 0 order)).toNat (by omega) ((min (endFrom a 0 0 order) (endFrom b 0 0 order)).toNat + 1 - (max (l.getD a.toNat z43).f0 (l.getD b.toNat z43).f0).toNat) (max (l.getD a.toNat z43).f0 (l.getD b.toNat z43).f0).toNat k 0 (by omega) (by omega) (by omega) (by omega)
    rw [show (((max (l.getD a.toNat z43).f0 (l.getD b.toNat z43).f0).toNat : Nat) : Int) = max (l.getD a.toNat z43).f0 (l.getD b.toNat z43).f0 from by omega, show (((min (endFrom a 0 0 order) (endFrom b 0 0 order)).toNat : Nat) : Int) = min (endFrom a 0 0 order) (endFrom b 0 0 order) from by omega] at hloop
    exact hloop
  · rw [if_neg h, if_neg (fun hh => h hh.1)]

/-! lastleave -/
def needSum : List S43 → Int
  | [] => 0
  | x :: xs => x.f1 + needSum xs
theorem needSum_bound (l : List S43) (hm : ∀ c ∈ l, 0 ≤ c.f0 ∧ c.f0 ≤ 60 ∧ 1 ≤ c.f1 ∧ c.f1 ≤ 9) : (l.length : Int) ≤ needSum l ∧ needSum l ≤ 9 * l.length := by
  induction l with
  | nil => simp [needSum]
  | cons x xs ih =>
    have := ih (fun b hb => hm b (List.mem_cons_of_mem _ hb))
    have := hm x (by simp)
    simp only [needSum, List.length_cons]
    omega
theorem impl_needOf_loop (l : List S43) (hl : l.length ≤ 8) (hm : ∀ c ∈ l, 0 ≤ c.f0 ∧ c.f0 ≤ 60 ∧ 1 ≤ c.f1 ∧ c.f1 ≤ 9) : ∀ (suf : List S43) (i k : Nat) (n : Int), l.drop i = suf → suf.length < k → i ≤ l.length → 0 ≤ n → n ≤ 9 * i →
    impl_needOf.l0 k n l (l.length : Int) i = some (n + needSum suf) := by
  intro suf
  induction suf with
  | nil =>
    intro i k n hd hk hi _ _
    obtain ⟨k, rfl⟩ : ∃ m, k = m + 1 := ⟨k - 1, by omega⟩
    have := drop_nil hd
    simp only [impl_needOf.l0]
    rw [if_neg (by omega)]
    simp [needSum]
  | cons x xs ih =>
    intro i k n hd hk hi h0 h1
    obtain ⟨k, rfl⟩ : ∃ m, k = m + 1 := ⟨k - 1, by omega⟩
    obtain ⟨hlt, hd2, hx⟩ := drop_split hd
    have hxb := hm x (by rw [← hx z43]; exact getD_mem hlt _)
    simp only [impl_needOf.l0]
    rw [if_pos (by omega), if_pos (by omega), if_pos (by omega), rd_Customer_nat, hx, w64s i (by omega), show wrap64 (n + x.f1) = n + x.f1 from w64 (by omega) (by omega)]
    rw [ih (i + 1) k _ hd2 (by simp at hk; omega) (by omega) (by omega) (by omega)]
    simp only [needSum]
    rw [Int.add_assoc]
theorem impl_needOf_is (l : List S43) (hl : l.length ≤ 8) (hm : ∀ c ∈ l, 0 ≤ c.f0 ∧ c.f0 ≤ 60 ∧ 1 ≤ c.f1 ∧ c.f1 ≤ 9) (k : Nat) (hk : 9 ≤ k) : impl_needOf.f k l = some (needSum l) := by
  unfold impl_needOf.f
  have h := impl_needOf_loop l hl hm l 0 k 0 rfl (by omega) (by omega) (by omega) (by omega)
  rw [Int.zero_add] at h
  exact h
/-- The greatest of m and of all times of coming with the needs from there on. -/
def lastFrom : List S43 → Int → Int
  | [], m => m
  | x :: xs, m => lastFrom xs (max m (x.f0 + needSum (x :: xs)))
def lastP (l : List S43) : Int := lastFrom l 0
theorem impl_lastLeave_loop (l : List S43) (hl : l.length ≤ 8) (hm : ∀ c ∈ l, 0 ≤ c.f0 ∧ c.f0 ≤ 60 ∧ 1 ≤ c.f1 ∧ c.f1 ≤ 9) : ∀ (suf : List S43) (i k : Nat) (n : Int), l.drop i = suf → suf.length + 10 < k → i ≤ l.length →
    impl_lastLeave.l0 k l n l (l.length : Int) i = some (lastFrom suf n) := by
  intro suf
  induction suf with
  | nil =>
    intro i k n hd hk hi
    obtain ⟨k, rfl⟩ : ∃ m, k = m + 1 := ⟨k - 1, by omega⟩
    have := drop_nil hd
    simp only [impl_lastLeave.l0]
    rw [if_neg (by omega)]
    simp [lastFrom]
  | cons x xs ih =>
    intro i k n hd hk hi
    obtain ⟨k, rfl⟩ : ∃ m, k = m + 1 := ⟨k - 1, by omega⟩
    obtain ⟨hlt, hd2, hx⟩ := drop_split hd
    have hxb := hm x (by rw [← hx z43]; exact getD_mem hlt _)
    have hmd : ∀ c ∈ x :: xs, 0 ≤ c.f0 ∧ c.f0 ≤ 60 ∧ 1 ≤ c.f1 ∧ c.f1 ≤ 9 := fun b hb => hm b (by rw [← hd] at hb; exact List.mem_of_mem_drop hb)
    have hlen : (x :: xs).length ≤ 8 := by rw [← hd, List.length_drop]; omega
    have hn := needSum_bound (x :: xs) hmd
    simp only [impl_lastLeave.l0]
    rw [if_pos (by omega), if_pos (by omega), if_pos (by omega), if_pos (by omega), Int.toNat_natCast, hd, impl_needOf_is (x :: xs) hlen hmd k (by simp at hk; omega)]
    simp only [Option.bind_some]
    rw [rd_Customer_nat, hx, w64s i (by omega), mx_max, show wrap64 (x.f0 + needSum (x :: xs)) = x.f0 + needSum (x :: xs) from w64 (by omega) (by omega)]
    rw [ih (i + 1) k _ hd2 (by simp at hk; omega) (by omega)]
    rfl
theorem impl_lastLeave_is (l : List S43) (hok : custOk l = true) (k : Nat) (hk : 20 ≤ k) : impl_lastLeave.f k l = some (lastP l) := by
  have h8 := custOk_len hok
  unfold impl_lastLeave.f
  exact impl_lastLeave_loop l h8 (custOk_mem hok) l 0 k 0 rfl (by omega) (by omega)
theorem lastFrom_ge (l : List S43) : ∀ m, m ≤ lastFrom l m := by
  induction l with
  | nil => intro m; exact Int.le_refl _
  | cons x xs ih => intro m; have := ih (max m (x.f0 + needSum (x :: xs))); simp only [lastFrom]; omega
theorem lastFrom_le (l : List S43) : ∀ m B, m ≤ B → (∀ i, i < l.length → (l.getD i z43).f0 + needSum (l.drop i) ≤ B) → lastFrom l m ≤ B := by
  induction l with
  | nil => intro m B h _; exact h
  | cons x xs ih =>
    intro m B h hB
    have h0 := hB 0 (by simp)
    simp only [List.getD_cons_zero, List.drop_zero] at h0
    exact ih _ B (by omega) (fun i hi => hB (i + 1) (by simpa using hi))
/-- Each comes, and all from there on are served, before M. -/
def doneBy : List S43 → Int → Prop
  | [], _ => True
  | x :: xs, M => x.f0 + needSum (x :: xs) ≤ M ∧ doneBy xs M
theorem doneBy_mono (l : List S43) : ∀ {M N : Int}, M ≤ N → doneBy l M → doneBy l N := by
  induction l with
  | nil => intro M N _ _; trivial
  | cons x xs ih => intro M N h hd; exact ⟨by have := hd.1; omega, ih h hd.2⟩
theorem doneBy_last (l : List S43) : ∀ m, doneBy l (lastFrom l m) := by
  induction l with
  | nil => intro m; trivial
  | cons x xs ih =>
    intro m
    refine ⟨?_, ih _⟩
    have := lastFrom_ge xs (max m (x.f0 + needSum (x :: xs)))
    simp only [lastFrom]
    omega
theorem lastP_bound (l : List S43) (hok : custOk l = true) : 0 ≤ lastP l ∧ lastP l ≤ 132 := by
  have hm := custOk_mem hok
  have hl := custOk_len hok
  refine ⟨lastFrom_ge l 0, lastFrom_le l 0 132 (by omega) (fun i hi => ?_)⟩
  have h1 := hm (l.getD i z43) (getD_mem hi _)
  have h2 := needSum_bound (l.drop i) (fun c hc => hm c (List.mem_of_mem_drop hc))
  rw [List.length_drop] at h2
  omega

/-! lastspec -/
theorem doneBy_get : ∀ {l : List S43} {M : Int}, doneBy l M → ∀ j, j < l.length → (l.getD j z43).f0 + needSum (l.drop j) ≤ M := by
  intro l
  induction l with
  | nil => intro M _ j h; simp at h
  | cons x xs ih =>
    intro M hd j hj
    cases j with
    | zero => exact hd.1
    | succ j => exact ih hd.2 j (by simpa using hj)
theorem spec_LastLeave_loop (l : List S43) (h8 : l.length ≤ 8) (hm : ∀ c ∈ l, 0 ≤ c.f0 ∧ c.f0 ≤ 60 ∧ 1 ≤ c.f1 ∧ c.f1 ≤ 9) : ∀ (n k : Nat) (best : Int), n ≤ l.length → n < k → 0 ≤ best →
    ∃ r, spec_LastLeave.l0 k l best (needSum (l.drop n)) ((n : Int) - 1) = some r ∧ best ≤ r ∧ (∀ j, j < n → (l.getD j z43).f0 + needSum (l.drop j) ≤ r) ∧ ∀ B, best ≤ B → (∀ j, j < n → (l.getD j z43).f0 + needSum (l.drop j) ≤ B) → r ≤ B := by
  intro n
  induction n with
  | zero =>
    intro k best hn hk h0
    obtain ⟨k, rfl⟩ : ∃ m, k = m + 1 := ⟨k - 1, by omega⟩
    simp only [spec_LastLeave.l0]
    rw [if_neg (by omega)]
    exact ⟨best, rfl, Int.le_refl _, fun j hj => by omega, fun B h _ => h⟩
  | succ n ih =>
    intro k best hn hk h0
    obtain ⟨k, rfl⟩ : ∃ m, k = m + 1 := ⟨k - 1, by omega⟩
    have hlt : n < l.length := by omega
    have hdr : l.drop n = l.getD n z43 :: l.drop (n + 1) := by rw [getD_lt hlt]; exact List.drop_eq_getElem_cons hlt
    have hns : needSum (l.drop n) = (l.getD n z43).f1 + needSum (l.drop (n + 1)) := by rw [hdr]; rfl
    have hb := needSum_bound (l.drop n) (fun c hc => hm c (List.mem_of_mem_drop hc))
    have hb2 := needSum_bound (l.drop (n + 1)) (fun c hc => hm c (List.mem_of_mem_drop hc))
    rw [List.length_drop] at hb hb2
    have hxb := hm (l.getD n z43) (getD_mem hlt _)
    simp only [spec_LastLeave.l0]
    rw [show (((n + 1 : Nat) : Int) - 1) = (n : Int) from by omega, if_pos (by omega), if_pos (by omega), if_pos (by omega), rd_Customer_nat, mx_max, show wrap64 (needSum (l.drop (n + 1)) + (l.getD n z43).f1) = needSum (l.drop n) from by rw [w64 (by omega) (by omega)]; omega, show wrap64 ((l.getD n z43).f0 + needSum (l.drop n)) = (l.getD n z43).f0 + needSum (l.drop n) from w64 (by omega) (by omega), show wrap64 ((n : Int) - 1) = (n : Int) - 1 from w64 (by omega) (by omega)]
    obtain ⟨r, e, h1, h2, h3⟩ := ih k (max best ((l.getD n z43).f0 + needSum (l.drop n))) (by omega) (by omega) (by omega)
    refine ⟨r, e, by omega, fun j hj => ?_, fun B hB hj => h3 B ?_ (fun j hj2 => hj j (by omega))⟩
    · by_cases e2 : j = n
      · subst e2; omega
      · exact h2 j (by omega)
    · have := hj n (by omega); omega
theorem spec_LastLeave_is (l : List S43) (hok : custOk l = true) (k : Nat) (hk : 20 ≤ k) : spec_LastLeave.f k l = some (lastP l) := by
  have h8 := custOk_len hok
  have hm := custOk_mem hok
  unfold spec_LastLeave.f
  rw [spec_CustomersOk_is l (by omega) k (by omega)]
  simp only [Option.bind_some]
  rw [if_pos hok, show wrap64 ((l.length : Int) - 1) = (l.length : Int) - 1 from w64 (by omega) (by omega)]
  obtain ⟨r, e, h1, h2, h3⟩ := spec_LastLeave_loop l h8 hm l.length k 0 (by omega) (by omega) (by omega)
  rw [List.drop_eq_nil_of_le (Nat.le_refl _)] at e
  rw [show (0 : Int) = needSum [] from rfl] at *
  rw [e]
  congr 1
  have g1 := lastFrom_ge l 0
  have g2 := h3 (lastP l) g1 (fun j hj => doneBy_get (doneBy_last l 0) j hj)
  have g3 := lastFrom_le l 0 r h1 h2
  have e3 : lastP l = lastFrom l 0 := rfl
  omega

/-! rounds -/
/-! Rounds: who was served goes behind, then those who come; the head is served. -/
def arrFrom : List S43 → Int → Int → List Int
  | [], _, _ => []
  | x :: xs, i, t => (if x.f0 = t then [i] else []) ++ arrFrom xs (i + 1) t
def rowAt (l : List S43) (t before : Int) (left row : List Int) : List Int :=
  (row ++ (if 0 ≤ before ∧ 0 < left.getD before.toNat 0 then [before] else [])) ++ arrFrom l 0 t
def roundP (l : List S43) : Nat → Int → Int → List Int → List Int → List Int
  | 0, _, _, _, _ => []
  | d + 1, t, before, left, row =>
    match rowAt l t before left row with
    | [] => -1 :: roundP l d (t + 1) (-1) left []
    | w :: ws => w :: roundP l d (t + 1) w (left.set w.toNat (left.getD w.toNat 0 - 1)) ws
def roundOrderP (l : List S43) : List Int := if custOk l = true then roundP l (lastP l).toNat 0 (-1) (needs l) [] else []
theorem arrFrom_mem : ∀ (l : List S43) (i t : Int), ∀ x ∈ arrFrom l i t, i ≤ x ∧ x < i + l.length := by
  intro l
  induction l with
  | nil => intro i t x hx; cases hx
  | cons c cs ih =>
    intro i t x hx
    simp only [arrFrom] at hx
    rcases List.mem_append.1 hx with hx | hx
    · split at hx
      · rw [List.mem_singleton.1 hx]; simp only [List.length_cons]; omega
      · cases hx
    · have := ih (i + 1) t x hx
      simp only [List.length_cons]; omega
theorem arrFrom_length : ∀ (l : List S43) (i t : Int), (arrFrom l i t).length ≤ l.length := by
  intro l
  induction l with
  | nil => intro i t; simp [arrFrom]
  | cons c cs ih =>
    intro i t
    have := ih (i + 1) t
    simp only [arrFrom, List.length_append, List.length_cons]
    split <;> simp <;> omega
theorem roundP_length (l : List S43) : ∀ (d : Nat) (t b : Int) (left row : List Int), (roundP l d t b left row).length = d := by
  intro d
  induction d with
  | zero => intro t b left row; rfl
  | succ d ih =>
    intro t b left row
    simp only [roundP]
    split <;> simp [ih]
/-- What a state of the rounds keeps. -/
structure RoundInv (l : List S43) (i : Nat) (before : Int) (left row : List Int) : Prop where
  bl : -1 ≤ before
  bh : before < (l.length : Int)
  ll : left.length = l.length
  lb : ∀ x ∈ left, -(i : Int) ≤ x ∧ x ≤ 9
  rm : ∀ x ∈ row, 0 ≤ x ∧ x < (l.length : Int)
  rl : row.length ≤ 9 * i
theorem rowAt_mem {l : List S43} {i : Nat} {before : Int} {left row : List Int} (h : RoundInv l i before left row) (t : Int) : ∀ x ∈ rowAt l t before left row, 0 ≤ x ∧ x < (l.length : Int) := by
  intro x hx
  unfold rowAt at hx
  rcases List.mem_append.1 hx with hx | hx
  · rcases List.mem_append.1 hx with hx | hx
    · exact h.rm x hx
    · split at hx
      · rename_i hb
        rw [List.mem_singleton.1 hx]; exact ⟨hb.1, h.bh⟩
      · cases hx
  · have := arrFrom_mem l 0 t x hx; omega
theorem rowAt_length {l : List S43} (h8 : l.length ≤ 8) {i : Nat} {before : Int} {left row : List Int} (h : RoundInv l i before left row) (t : Int) : (rowAt l t before left row).length ≤ 9 * (i + 1) := by
  unfold rowAt
  rw [List.length_append, List.length_append]
  have := arrFrom_length l 0 t
  have := h.rl
  split <;> simp <;> omega
theorem RoundInv.next {l : List S43} (h8 : l.length ≤ 8) {i : Nat} {before : Int} {left row : List Int} (h : RoundInv l i before left row) {t w : Int} {ws : List Int} (e : rowAt l t before left row = w :: ws) : RoundInv l (i + 1) w (left.set w.toNat (left.getD w.toNat 0 - 1)) ws := by
  have hm := rowAt_mem h t
  have hl := rowAt_length h8 h t
  rw [e] at hm hl
  have hw := hm w (by simp)
  simp only [List.length_cons] at hl
  refine ⟨by omega, hw.2, by rw [List.length_set]; exact h.ll, fun x hx => ?_, fun x hx => hm x (List.mem_cons_of_mem _ hx), by omega⟩
  rcases List.mem_or_eq_of_mem_set hx with hx | hx
  · have := h.lb x hx; omega
  · have := h.lb _ (getD_mem (show w.toNat < left.length by rw [h.ll]; omega) 0); omega
theorem RoundInv.idle {l : List S43} {i : Nat} {before : Int} {left row : List Int} (h : RoundInv l i before left row) : RoundInv l (i + 1) (-1) left [] :=
  ⟨by omega, by omega, h.ll, fun x hx => by have := h.lb x hx; omega, (fun x hx => by cases hx), by simp⟩
theorem RoundInv.start {l : List S43} (hok : custOk l = true) : RoundInv l 0 (-1) (needs l) [] :=
  ⟨by omega, by omega, needs_length l, fun x hx => by have := needs_bound hok x hx; omega, (fun x hx => by cases hx), by simp⟩

/-! rounds_impl -/
theorem impl_Round_arr (l : List S43) (h8 : l.length ≤ 8) (left out : List Int) (t last i0 r0 : Int) (r : List Int) (K : Nat) : ∀ (suf : List S43) (i k : Nat) (row : List Int), l.drop i = suf → K + suf.length + 1 ≤ k → i ≤ l.length → row.length + suf.length ≤ 100000 →
    (∀ k', K + 1 ≤ k' → impl_RoundOrder.l1 k' l left out (row ++ arrFrom suf i t) t last i0 l (l.length : Int) (l.length : Int) = some r) → impl_RoundOrder.l1 k l left out row t last i0 l (l.length : Int) i = some r := by
  intro suf
  induction suf with
  | nil =>
    intro i k row hd hk hi hr h
    have := drop_nil hd
    have e : (i : Int) = (l.length : Int) := by omega
    rw [e]
    have := h k (by simp at hk; omega)
    simpa [arrFrom] using this
  | cons x xs ih =>
    intro i k row hd hk hi hr h
    obtain ⟨k, rfl⟩ : ∃ m, k = m + 1 := ⟨k - 1, by omega⟩
    obtain ⟨hlt, hd2, hx⟩ := drop_split hd
    simp only [List.length_cons] at hk hr
    rw [impl_RoundOrder.l1]
    rw [if_pos (by omega), if_pos (by omega), if_pos (by omega), rd_Customer_nat, hx, w64s i (by omega)]
    by_cases hc : x.f0 = t
    · rw [if_pos hc, if_pos (by omega)]
      refine ih (i + 1) k (row ++ [(i : Int)]) hd2 (by omega) (by omega) (by rw [List.length_append]; simp; omega) (fun k' hk' => ?_)
      have := h k' hk'
      simp only [arrFrom, if_pos hc] at this
      rw [List.append_assoc, show ((i + 1 : Nat) : Int) = (i : Int) + 1 from by omega]
      exact this
    · rw [if_neg hc]
      refine ih (i + 1) k row hd2 (by omega) (by omega) (by omega) (fun k' hk' => ?_)
      have := h k' hk'
      simp only [arrFrom, if_neg hc, List.nil_append] at this
      rw [show ((i + 1 : Nat) : Int) = (i : Int) + 1 from by omega]
      exact this
theorem impl_Round_loop (l : List S43) (h8 : l.length ≤ 8) (n : Nat) (hn : n ≤ 200) : ∀ (d i k : Nat) (before : Int) (left row out : List Int), i + d = n → 16 * d + 1 ≤ k → RoundInv l i before left row → out.length = i → (i = 0 → before = -1) → (1 ≤ i → out.getD (i - 1) 0 = before) →
    impl_RoundOrder.l0 k l left out row (n : Int) i = some (out ++ roundP l d i before left row) := by
  intro d
  induction d with
  | zero =>
    intro i k before left row out he hk hI ho _ _
    obtain ⟨k, rfl⟩ : ∃ m, k = m + 1 := ⟨k - 1, by omega⟩
    rw [impl_RoundOrder.l0]
    rw [if_neg (by omega)]
    simp [roundP]
  | succ d ih =>
    intro i k before left row out he hk hI ho hb0 hb1
    obtain ⟨k, rfl⟩ : ∃ m, k = m + 3 := ⟨k - 3, by omega⟩
    have hrl := hI.rl
    -- behind the arrivals
    have fin : ∀ k', 16 * d + 1 + 1 ≤ k' → impl_RoundOrder.l1 k' l left out (rowAt l i before left row) i (n : Int) i l (l.length : Int) (l.length : Int) = some (out ++ roundP l (d + 1) i before left row) := by
      intro k' hk'
      obtain ⟨k', rfl⟩ : ∃ m, k' = m + 1 := ⟨k' - 1, by omega⟩
      have hm := rowAt_mem hI (i : Int)
      rw [impl_RoundOrder.l1]
      rw [if_neg (by omega)]
      simp only [roundP]
      cases hrow : rowAt l (i : Int) before left row with
      | nil =>
        rw [if_neg (by simp), if_pos (by omega), w64s i (by omega)]
        rw [ih (i + 1) k' (-1) left [] _ (by omega) (by omega) hI.idle (by rw [List.length_append, ho]; rfl) (by omega) (fun _ => by rw [show i + 1 - 1 = i from rfl, getD_snoc_last _ _ _ ho])]
        simp
      | cons w ws =>
        rw [hrow] at hm
        have hw := hm w (by simp)
        have hwl : w.toNat < left.length := by rw [hI.ll]; omega
        have hwb := hI.lb _ (getD_mem hwl 0)
        have hnx := hI.next h8 hrow
        simp only [show rd (w :: ws) 0 = w from rfl, show rd left w = left.getD w.toNat 0 from rfl]
        rw [if_pos (by simp only [List.length_cons]; omega), if_pos (by simp only [List.length_cons]; omega), if_pos (by simp only [List.length_cons]; omega), if_pos hw.1, if_pos (by rw [hI.ll]; exact hw.2), if_pos (by omega), w64s i (by omega), show wrap64 (left.getD w.toNat 0 - 1) = left.getD w.toNat 0 - 1 from w64 (by omega) (by omega)]
        rw [show (w :: ws).drop (1 : Int).toNat = ws from rfl]
        rw [ih (i + 1) k' w _ ws _ (by omega) (by omega) hnx (by rw [List.length_append, ho]; rfl) (by omega) (fun _ => by rw [show i + 1 - 1 = i from rfl, getD_snoc_last _ _ _ ho])]
        simp
    have arr : ∀ (row2 : List Int) k', 16 * d + 12 ≤ k' → row2.length ≤ 5000 → row2 ++ arrFrom l 0 i = rowAt l i before left row → impl_RoundOrder.j2 k' l left out row2 i (n : Int) i = some (out ++ roundP l (d + 1) i before left row) := by
      intro row2 k' hk' hr2 hre
      obtain ⟨k', rfl⟩ : ∃ m, k' = m + 1 := ⟨k' - 1, by omega⟩
      rw [impl_RoundOrder.j2]
      refine impl_Round_arr l h8 left out i (n : Int) i 0 _ (16 * d + 1) l 0 k' row2 rfl (by omega) (by omega) (by omega) (fun k'' hk'' => ?_)
      rw [show ((0 : Nat) : Int) = 0 from rfl, hre]
      exact fin k'' hk''
    rw [impl_RoundOrder.l0]
    rw [if_pos (by omega)]
    by_cases hi0 : i = 0
    · have hbe := hb0 hi0
      rw [if_neg (by omega), impl_RoundOrder.j1, if_neg (by simp)]
      refine arr row (k + 1) (by omega) (by omega) ?_
      unfold rowAt
      rw [if_neg (by omega)]
      simp
    · have hbe := hb1 (by omega)
      rw [if_pos (by omega), show wrap64 ((i : Int) - 1) = ((i - 1 : Nat) : Int) from by rw [w64 (by omega) (by omega)]; omega, if_pos (by omega), if_pos (by omega), rd_nat, hbe]
      by_cases hb : before ≥ 0
      · have hbl : before.toNat < left.length := by rw [hI.ll]; have := hI.bh; omega
        rw [if_pos hb, if_pos (show (0 : Int) ≤ before from hb), if_pos (by rw [hI.ll]; exact hI.bh), impl_RoundOrder.j1]
        rw [show rd left before = left.getD before.toNat 0 from rfl]
        by_cases hp : left.getD before.toNat 0 > 0
        · rw [if_pos (by rw [decide_eq_true_eq]; exact hp), show wrap64 ((i : Int) - 1) = ((i - 1 : Nat) : Int) from by rw [w64 (by omega) (by omega)]; omega, if_pos (by omega), if_pos (by omega), if_pos (by omega), rd_nat, hbe]
          refine arr (row ++ [before]) (k + 1) (by omega) (by rw [List.length_append]; simp; omega) ?_
          unfold rowAt
          rw [if_pos ⟨hb, hp⟩]
        · rw [if_neg (by rw [decide_eq_true_eq]; exact hp)]
          refine arr row (k + 1) (by omega) (by omega) ?_
          unfold rowAt
          rw [if_neg (fun h => hp h.2)]
          simp
      · rw [if_neg hb, impl_RoundOrder.j1, if_neg (by simp)]
        refine arr row (k + 1) (by omega) (by omega) ?_
        unfold rowAt
        rw [if_neg (fun h => hb h.1)]
        simp
theorem impl_RoundOrder_is (l : List S43) (hl : l.length ≤ 1048576) (k : Nat) (hk : l.length + 3000 ≤ k) : impl_RoundOrder.f k l = some (roundOrderP l) := by
  unfold impl_RoundOrder.f roundOrderP
  rw [impl_CustomersOk_is l hl k (by omega)]
  simp only [Option.bind_some]
  by_cases hok : custOk l = true
  · have h8 := custOk_len hok
    have hb := lastP_bound l hok
    rw [if_pos hok, if_pos hok, impl_leftOf_is l hl k (by omega)]
    simp only [Option.bind_some]
    rw [impl_lastLeave_is l hok k (by omega)]
    simp only [Option.bind_some]
    have h := impl_Round_loop l h8 (lastP l).toNat (by omega) (lastP l).toNat 0 k (-1) (needs l) [] [] (by omega) (by omega) (RoundInv.start hok) rfl (fun _ => rfl) (fun h => by omega)
    rw [show (((lastP l).toNat : Nat) : Int) = lastP l from by omega] at h
    exact h
  · rw [if_neg hok, if_neg hok]

/-! rounds_spec -/
theorem spec_Round_arr (l : List S43) (h8 : l.length ≤ 8) (left out : List Int) (t : Int) (r : List Int) (K : Nat) : ∀ (suf : List S43) (i k : Nat) (row : List Int), l.drop i = suf → K + suf.length + 1 ≤ k → i ≤ l.length → row.length + suf.length ≤ 100000 →
    (∀ k', K + 1 ≤ k' → spec_RoundOrder.l2 k' l out left (row ++ arrFrom suf i t) t (l.length : Int) = some r) → spec_RoundOrder.l2 k l out left row t i = some r := by
  intro suf
  induction suf with
  | nil =>
    intro i k row hd hk hi hr h
    have := drop_nil hd
    have e : (i : Int) = (l.length : Int) := by omega
    rw [e]
    have := h k (by simp at hk; omega)
    simpa [arrFrom] using this
  | cons x xs ih =>
    intro i k row hd hk hi hr h
    obtain ⟨k, rfl⟩ : ∃ m, k = m + 1 := ⟨k - 1, by omega⟩
    obtain ⟨hlt, hd2, hx⟩ := drop_split hd
    simp only [List.length_cons] at hk hr
    rw [spec_RoundOrder.l2]
    rw [if_pos (by omega), if_pos (by omega), rd_Customer_nat, hx, w64s i (by omega)]
    by_cases hc : x.f0 = t
    · rw [if_pos hc, if_pos (by omega)]
      refine ih (i + 1) k (row ++ [(i : Int)]) hd2 (by omega) (by omega) (by rw [List.length_append]; simp; omega) (fun k' hk' => ?_)
      have := h k' hk'
      simp only [arrFrom, if_pos hc] at this
      rw [List.append_assoc, show ((i + 1 : Nat) : Int) = (i : Int) + 1 from by omega]
      exact this
    · rw [if_neg hc]
      refine ih (i + 1) k row hd2 (by omega) (by omega) (by omega) (fun k' hk' => ?_)
      have := h k' hk'
      simp only [arrFrom, if_neg hc, List.nil_append] at this
      rw [show ((i + 1 : Nat) : Int) = (i : Int) + 1 from by omega]
      exact this
theorem spec_Round_loop (l : List S43) (hok : custOk l = true) (n : Nat) (hn : n ≤ 200) (hnl : lastP l = (n : Int)) : ∀ (d i k : Nat) (before : Int) (left row out : List Int), i + d = n → 16 * d + 40 ≤ k → RoundInv l i before left row → out.length = i →
    spec_RoundOrder.l1 k l out left row before i = some (out ++ roundP l d i before left row) := by
  have h8 := custOk_len hok
  intro d
  induction d with
  | zero =>
    intro i k before left row out he hk hI ho
    obtain ⟨k, rfl⟩ : ∃ m, k = m + 1 := ⟨k - 1, by omega⟩
    rw [spec_RoundOrder.l1, spec_LastLeave_is l hok k (by omega)]
    simp only [Option.bind_some]
    rw [hnl, if_neg (by omega)]
    simp [roundP]
  | succ d ih =>
    intro i k before left row out he hk hI ho
    obtain ⟨k, rfl⟩ : ∃ m, k = m + 3 := ⟨k - 3, by omega⟩
    have hrl := hI.rl
    have fin : ∀ k', 16 * d + 40 + 1 ≤ k' → spec_RoundOrder.l2 k' l out left (rowAt l i before left row) i (l.length : Int) = some (out ++ roundP l (d + 1) i before left row) := by
      intro k' hk'
      obtain ⟨k', rfl⟩ : ∃ m, k' = m + 1 := ⟨k' - 1, by omega⟩
      have hm := rowAt_mem hI (i : Int)
      rw [spec_RoundOrder.l2]
      rw [if_neg (by omega)]
      simp only [roundP]
      cases hrow : rowAt l (i : Int) before left row with
      | nil =>
        rw [if_neg (by simp), if_pos (by omega), w64s i (by omega)]
        rw [ih (i + 1) k' (-1) left [] _ (by omega) (by omega) hI.idle (by rw [List.length_append, ho]; rfl)]
        simp
      | cons w ws =>
        rw [hrow] at hm
        have hw := hm w (by simp)
        have hwl : w.toNat < left.length := by rw [hI.ll]; omega
        have hwb := hI.lb _ (getD_mem hwl 0)
        have hnx := hI.next h8 hrow
        simp only [show rd (w :: ws) 0 = w from rfl, show rd left w = left.getD w.toNat 0 from rfl]
        rw [if_pos (by simp only [List.length_cons]; omega), if_pos (by simp only [List.length_cons]; omega), if_pos (by simp only [List.length_cons]; omega), if_pos hw.1, if_pos (by rw [hI.ll]; exact hw.2), if_pos (by omega), w64s i (by omega), show wrap64 (left.getD w.toNat 0 - 1) = left.getD w.toNat 0 - 1 from w64 (by omega) (by omega)]
        rw [show (w :: ws).drop (1 : Int).toNat = ws from rfl]
        rw [ih (i + 1) k' w _ ws _ (by omega) (by omega) hnx (by rw [List.length_append, ho]; rfl)]
        simp
    have arr : ∀ (row2 : List Int) k', 16 * d + 51 ≤ k' → row2.length ≤ 5000 → row2 ++ arrFrom l 0 i = rowAt l i before left row → spec_RoundOrder.j3 k' l out left row2 i = some (out ++ roundP l (d + 1) i before left row) := by
      intro row2 k' hk' hr2 hre
      obtain ⟨k', rfl⟩ : ∃ m, k' = m + 1 := ⟨k' - 1, by omega⟩
      rw [spec_RoundOrder.j3]
      refine spec_Round_arr l h8 left out i _ (16 * d + 40) l 0 k' row2 rfl (by omega) (by omega) (by omega) (fun k'' hk'' => ?_)
      rw [show ((0 : Nat) : Int) = 0 from rfl, hre]
      exact fin k'' hk''
    rw [spec_RoundOrder.l1, spec_LastLeave_is l hok _ (by omega)]
    simp only [Option.bind_some]
    rw [hnl, if_pos (by omega)]
    by_cases hb : before ≥ 0
    · rw [if_pos hb, if_pos (show (0 : Int) ≤ before from hb), if_pos (by rw [hI.ll]; exact hI.bh), spec_RoundOrder.j2]
      rw [show rd left before = left.getD before.toNat 0 from rfl]
      by_cases hp : left.getD before.toNat 0 > 0
      · rw [if_pos (by rw [decide_eq_true_eq]; exact hp), if_pos (by omega)]
        refine arr (row ++ [before]) (k + 1) (by omega) (by rw [List.length_append]; simp; omega) ?_
        unfold rowAt
        rw [if_pos ⟨hb, hp⟩]
      · rw [if_neg (by rw [decide_eq_true_eq]; exact hp)]
        refine arr row (k + 1) (by omega) (by omega) ?_
        unfold rowAt
        rw [if_neg (fun h => hp h.2)]
        simp
    · rw [if_neg hb, spec_RoundOrder.j2, if_neg (by simp)]
      refine arr row (k + 1) (by omega) (by omega) ?_
      unfold rowAt
      rw [if_neg (fun h => hb h.1)]
      simp
theorem spec_Round_left (l : List S43) (hl : l.length ≤ 1048576) (r : List Int) (K : Nat) (hnext : ∀ k, K ≤ k → spec_RoundOrder.l1 k l [] (needs l) [] (-1) 0 = some r) : ∀ (suf : List S43) (i k : Nat) (out : List Int), l.drop i = suf → K + suf.length + 1 ≤ k → i ≤ l.length → out = needs (l.take i) → spec_RoundOrder.l0 k l [] out i = some r := by
  intro suf
  induction suf with
  | nil =>
    intro i k out hd hk hi ho
    obtain ⟨k, rfl⟩ : ∃ m, k = m + 1 := ⟨k - 1, by omega⟩
    have := drop_nil hd
    rw [spec_RoundOrder.l0]
    rw [if_neg (by omega), ho, List.take_of_length_le (by omega)]
    exact hnext k (by simp at hk; omega)
  | cons x xs ih =>
    intro i k out hd hk hi ho
    obtain ⟨k, rfl⟩ : ∃ m, k = m + 1 := ⟨k - 1, by omega⟩
    obtain ⟨hlt, hd2, hx⟩ := drop_split hd
    rw [spec_RoundOrder.l0]
    have hol : out.length = i := by rw [ho, needs_length, List.length_take]; omega
    rw [if_pos (by omega), if_pos (by omega), if_pos (by omega), rd_Customer_nat, hx, w64s i (by omega)]
    exact ih (i + 1) k _ hd2 (by simp at hk; omega) (by omega) (by rw [ho, take_succ_getD hlt z43, hx]; simp [needs])
theorem spec_RoundOrder_is (l : List S43) (hl : l.length ≤ 1048576) (k : Nat) (hk : l.length + 3000 ≤ k) : spec_RoundOrder.f k l = some (roundOrderP l) := by
  unfold spec_RoundOrder.f roundOrderP
  simp only [Option.bind_some]
  rw [spec_CustomersOk_is l hl k (by omega)]
  simp only [Option.bind_some]
  by_cases hok : custOk l = true
  · have hb := lastP_bound l hok
    rw [if_pos hok, if_pos hok]
    refine spec_Round_left l hl _ 2900 (fun k hk => ?_) l 0 k [] rfl (by omega) (by omega) rfl
    exact spec_Round_loop l hok (lastP l).toNat (by omega) (by omega) (lastP l).toNat 0 k (-1) (needs l) [] [] (by omega) (by omega) (RoundInv.start hok) rfl
  · rw [if_neg hok, if_neg hok]

/-! roundlen -/
theorem roundOrderP_len (l : List S43) : (roundOrderP l).length ≤ 200 := by
  unfold roundOrderP
  split
  · rename_i hok
    have := lastP_bound _ hok
    rw [roundP_length]; omega
  · simp

/-! roundok -/
/-! The rounds are an order: each is served as often as needed. -/
def sumL : List Int → Int
  | [] => 0
  | x :: xs => x + sumL xs
theorem sumL_set : ∀ (X : List Int) (i : Nat) (v : Int), i < X.length → sumL (X.set i v) = sumL X - X.getD i 0 + v := by
  intro X
  induction X with
  | nil => intro i v h; simp at h
  | cons x xs ih =>
    intro i v h
    cases i with
    | zero => simp only [List.set_cons_zero, sumL, List.getD_cons_zero]; omega
    | succ i =>
      have := ih i v (by simpa using h)
      simp only [List.set_cons_succ, sumL, List.getD_cons_succ]
      omega
theorem sumL_zero : ∀ (X : List Int), (∀ i, i < X.length → 0 ≤ X.getD i 0) → sumL X ≤ 0 → ∀ i, i < X.length → X.getD i 0 = 0 := by
  intro X
  induction X with
  | nil => intro _ _ i h; simp at h
  | cons x xs ih =>
    intro hp hs i hi
    have hx : 0 ≤ x := hp 0 (by simp)
    have htl : ∀ i, i < xs.length → 0 ≤ xs.getD i 0 := fun i hi => hp (i + 1) (by simpa using hi)
    have hnn : 0 ≤ sumL xs := by
      clear ih hs hi hp
      induction xs with
      | nil => simp [sumL]
      | cons y ys ih2 =>
        have h1 : 0 ≤ y := htl 0 (by simp)
        have h2 := ih2 (fun i hi => htl (i + 1) (by simpa using hi))
        simp only [sumL]; omega
    simp only [sumL] at hs
    cases i with
    | zero => show x = 0; omega
    | succ i => exact ih htl (by omega) i (by simpa using hi)
/-- Those who are left over behind a unit without work. -/
theorem left_bound (t M : Int) : ∀ (l : List S43) (p : Option S43) (left : List Int), custFrom p l = true → left.length = l.length → doneBy l M → (∀ i, i < l.length → (l.getD i z43).f0 < t → left.getD i 0 = 0) → (∀ i, i < l.length → t ≤ (l.getD i z43).f0 → left.getD i 0 = (l.getD i z43).f1) → (∃ i, i < l.length ∧ (l.getD i z43).f0 = t) → t + sumL left ≤ M := by
  intro l
  induction l with
  | nil => intro p left _ _ _ _ _ he; obtain ⟨i, hi, -⟩ := he; simp at hi
  | cons x xs ih =>
    intro p left hc hl hd h1 h2 he
    obtain ⟨a, ts, rfl⟩ : ∃ a ts, left = a :: ts := by cases left with
      | nil => simp at hl
      | cons a ts => exact ⟨a, ts, rfl⟩
    obtain ⟨hx, hcs, -⟩ := custFrom_tail hc
    have g1 : ∀ i, i < xs.length → (xs.getD i z43).f0 < t → ts.getD i 0 = 0 := fun i hi h => h1 (i + 1) (by simpa using hi) h
    have g2 : ∀ i, i < xs.length → t ≤ (xs.getD i z43).f0 → ts.getD i 0 = (xs.getD i z43).f1 := fun i hi h => h2 (i + 1) (by simpa using hi) h
    by_cases hlt : x.f0 < t
    · have ha : a = 0 := h1 0 (by simp) hlt
      obtain ⟨i, hi, e⟩ := he
      have := ih (some x) ts hcs (by simpa using hl) hd.2 g1 g2 (by
        cases i with
        | zero => exact absurd e (by show ¬ x.f0 = t; omega)
        | succ i => exact ⟨i, by simpa using hi, e⟩)
      simp only [sumL]; omega
    · have hxt : x.f0 = t := by
        obtain ⟨i, hi, e⟩ := he
        cases i with
        | zero => exact e
        | succ i =>
          have := custFrom_le hcs (xs.getD i z43) (getD_mem (by simpa using hi) _)
          have e2 : (xs.getD i z43).f0 = t := e
          omega
      have hsum : ∀ (ys : List S43) (us : List Int), us.length = ys.length → (∀ i, i < ys.length → us.getD i 0 = (ys.getD i z43).f1) → sumL us = needSum ys := by
        intro ys
        induction ys with
        | nil => intro us h _; rw [List.length_eq_zero_iff.1 h]; rfl
        | cons y ys ih2 =>
          intro us h hg
          obtain ⟨u, vs, rfl⟩ : ∃ u vs, us = u :: vs := by cases us with
            | nil => simp at h
            | cons u vs => exact ⟨u, vs, rfl⟩
          have e0 : u = y.f1 := hg 0 (by simp)
          simp only [sumL, needSum]
          rw [ih2 vs (by simpa using h) (fun i hi => hg (i + 1) (by simpa using hi)), e0]
      have hall := hsum (x :: xs) (a :: ts) hl (fun i hi => h2 i hi (by
        cases i with
        | zero => show t ≤ x.f0; omega
        | succ i =>
          have := custFrom_le hcs (xs.getD i z43) (getD_mem (by simpa using hi) _)
          show t ≤ (xs.getD i z43).f0
          omega))
      have := hd.1
      omega
theorem arrFrom_iff : ∀ (l : List S43) (i : Nat) (t : Int) (x : Int), x ∈ arrFrom l i t ↔ ∃ j : Nat, j < l.length ∧ x = (i : Int) + j ∧ (l.getD j z43).f0 = t := by
  intro l
  induction l with
  | nil => intro i t x; simp [arrFrom]
  | cons c cs ih =>
    intro i t x
    simp only [arrFrom, List.mem_append]
    rw [show (i : Int) + 1 = ((i + 1 : Nat) : Int) from by omega, ih (i + 1) t x]
    constructor
    · rintro (h | ⟨j, hj, e, ht⟩)
      · split at h
        · rename_i hc
          exact ⟨0, by simp, by rw [List.mem_singleton.1 h]; simp, hc⟩
        · cases h
      · exact ⟨j + 1, by simpa using hj, by omega, ht⟩
    · rintro ⟨j, hj, e, ht⟩
      cases j with
      | zero =>
        left
        rw [if_pos (show c.f0 = t from ht)]
        simp [e]
      | succ j => exact .inr ⟨j, by simpa using hj, by omega, ht⟩
theorem arrFrom_nodup : ∀ (l : List S43) (i t : Int), (arrFrom l i t).Nodup := by
  intro l
  induction l with
  | nil => intro i t; simp [arrFrom]
  | cons c cs ih =>
    intro i t
    simp only [arrFrom]
    rw [List.nodup_append]
    refine ⟨by split <;> simp, ih _ _, fun a ha b hb => ?_⟩
    have := arrFrom_mem cs (i + 1) t b hb
    split at ha
    · rw [List.mem_singleton.1 ha]; omega
    · cases ha
/-- Who is there behind the last unit: each once. -/
def presL (before : Int) (left row : List Int) : List Int := row ++ (if 0 ≤ before ∧ 0 < left.getD before.toNat 0 then [before] else [])
structure RoundAll (l : List S43) (t : Nat) (before : Int) (left row : List Int) : Prop where
  ll : left.length = l.length
  nn : ∀ i, i < l.length → 0 ≤ left.getD i 0
  nx : ∀ i, i < l.length → (t : Int) ≤ (l.getD i z43).f0 → left.getD i 0 = (l.getD i z43).f1
  mem : ∀ x : Int, x ∈ presL before left row ↔ ∃ i : Nat, i < l.length ∧ x = i ∧ (l.getD i z43).f0 < t ∧ 0 < left.getD i 0
  nd : (presL before left row).Nodup
theorem rowAt_iff {l : List S43} (hok : custOk l = true) {t : Nat} {before : Int} {left row : List Int} (h : RoundAll l t before left row) : ∀ x : Int, x ∈ rowAt l t before left row ↔ ∃ i : Nat, i < l.length ∧ x = i ∧ (l.getD i z43).f0 ≤ t ∧ 0 < left.getD i 0 := by
  intro x
  have e : rowAt l t before left row = presL before left row ++ arrFrom l ((0 : Nat) : Int) t := rfl
  rw [e, List.mem_append, h.mem x, arrFrom_iff l 0 t x]
  constructor
  · rintro (⟨i, hi, e, h1, h2⟩ | ⟨i, hi, e, h1⟩)
    · exact ⟨i, hi, e, by omega, h2⟩
    · have := h.nx i hi (by omega)
      have := custOk_mem hok (l.getD i z43) (getD_mem hi _)
      exact ⟨i, hi, by omega, by omega, by omega⟩
  · rintro ⟨i, hi, e, h1, h2⟩
    by_cases hlt : (l.getD i z43).f0 < t
    · exact .inl ⟨i, hi, e, hlt, h2⟩
    · exact .inr ⟨i, hi, by omega, by omega⟩
theorem rowAt_nodup {l : List S43} {t : Nat} {before : Int} {left row : List Int} (h : RoundAll l t before left row) : (rowAt l t before left row).Nodup := by
  have e : rowAt l t before left row = presL before left row ++ arrFrom l ((0 : Nat) : Int) t := rfl
  rw [e, List.nodup_append]
  refine ⟨h.nd, arrFrom_nodup _ _ _, fun a ha b hb => ?_⟩
  obtain ⟨i, hi, e1, h1, -⟩ := (h.mem a).1 ha
  obtain ⟨j, hj, e2, h2⟩ := (arrFrom_iff l 0 t b).1 hb
  intro hab
  have : i = j := by omega
  subst this
  omega
theorem RoundAll.served {l : List S43} (hok : custOk l = true) {t : Nat} {before : Int} {left row : List Int} (h : RoundAll l t before left row) {w : Int} {ws : List Int} (e : rowAt l t before left row = w :: ws) :
    (∃ i : Nat, i < l.length ∧ w = i ∧ (l.getD i z43).f0 ≤ t ∧ 0 < left.getD i 0) ∧ RoundAll l (t + 1) w (left.set w.toNat (left.getD w.toNat 0 - 1)) ws := by
  have hiff := rowAt_iff hok h
  have hnd := rowAt_nodup h
  rw [e] at hiff hnd
  obtain ⟨i, hi, hw, hc, hp⟩ := (hiff w).1 (by simp)
  refine ⟨⟨i, hi, hw, hc, hp⟩, ?_⟩
  have hwn : w.toNat = i := by omega
  rw [hwn]
  have hil : i < left.length := by rw [h.ll]; exact hi
  rw [List.nodup_cons] at hnd
  have hgi : (left.set i (left.getD i 0 - 1)).getD i 0 = left.getD i 0 - 1 := getD_set_eq _ _ _ _ hil
  have hgj : ∀ j, j ≠ i → (left.set i (left.getD i 0 - 1)).getD j 0 = left.getD j 0 := fun j hj => getD_set_ne _ _ _ _ _ (fun hh => hj hh.symm)
  refine ⟨by rw [List.length_set]; exact h.ll, fun j hj => ?_, fun j hj hcj => ?_, fun x => ?_, ?_⟩
  · by_cases hji : j = i
    · rw [hji, hgi]; omega
    · rw [hgj j hji]; exact h.nn j hj
  · have hji : j ≠ i := fun hh => by subst hh; omega
    rw [hgj j hji]
    exact h.nx j hj (by omega)
  · unfold presL
    rw [hwn, hgi, List.mem_append]
    constructor
    · rintro (hx | hx)
      · obtain ⟨j, hj, e2, h1, h2⟩ := (hiff x).1 (List.mem_cons_of_mem _ hx)
        have hji : j ≠ i := fun hh => hnd.1 (by rw [hw, ← hh, ← e2]; exact hx)
        exact ⟨j, hj, e2, by omega, by rw [hgj j hji]; exact h2⟩
      · split at hx
        · rename_i hb
          exact ⟨i, hi, by rw [List.mem_singleton.1 hx]; exact hw, by omega, by rw [hgi]; exact hb.2⟩
        · cases hx
    · rintro ⟨j, hj, e2, h1, h2⟩
      by_cases hji : j = i
      · subst hji
        rw [hgi] at h2
        right
        rw [if_pos ⟨by omega, h2⟩, e2, hw]
        simp
      · rw [hgj j hji] at h2
        left
        have := (hiff x).2 ⟨j, hj, e2, by omega, h2⟩
        rcases List.mem_cons.1 this with hx | hx
        · omega
        · exact hx
  · unfold presL
    rw [List.nodup_append]
    refine ⟨hnd.2, by split <;> simp, fun a ha b hb => ?_⟩
    split at hb
    · rw [List.mem_singleton.1 hb]
      intro hh
      rw [hh] at ha
      exact hnd.1 ha
    · cases hb
theorem RoundAll.idle {l : List S43} (hok : custOk l = true) {t : Nat} {before : Int} {left row : List Int} (h : RoundAll l t before left row) (e : rowAt l t before left row = []) :
    (∀ i, i < l.length → (l.getD i z43).f0 < ((t + 1 : Nat) : Int) → left.getD i 0 = 0) ∧ RoundAll l (t + 1) (-1) left [] := by
  have hiff := rowAt_iff hok h
  rw [e] at hiff
  have hz : ∀ i, i < l.length → (l.getD i z43).f0 < ((t + 1 : Nat) : Int) → left.getD i 0 = 0 := by
    intro i hi hc
    have h1 := h.nn i hi
    have h2 : ¬ 0 < left.getD i 0 := fun hp => by
      have := (hiff (i : Int)).2 ⟨i, hi, rfl, by omega, hp⟩
      cases this
    omega
  refine ⟨hz, h.ll, h.nn, fun i hi hc => h.nx i hi (by omega), fun x => ?_, ?_⟩
  · unfold presL
    rw [if_neg (by omega)]
    constructor
    · intro hx; cases hx
    · rintro ⟨i, hi, e2, h1, h2⟩
      have := hz i hi h1
      omega
  · unfold presL
    rw [if_neg (by omega)]
    simp
theorem RoundAll.start {l : List S43} (hok : custOk l = true) : RoundAll l 0 (-1) (needs l) [] := by
  refine ⟨needs_length l, fun i hi => ?_, fun i hi _ => needs_get l i, fun x => ?_, ?_⟩
  · rw [needs_get]; have := custOk_mem hok (l.getD i z43) (getD_mem hi _); omega
  · unfold presL
    rw [if_neg (by omega)]
    constructor
    · intro hx; cases hx
    · rintro ⟨i, hi, -, h1, -⟩
      have := custOk_mem hok (l.getD i z43) (getD_mem hi _)
      omega
  · unfold presL
    rw [if_neg (by omega)]
    simp
theorem round_okI (l : List S43) (hok : custOk l = true) : ∀ (d t : Nat) (before : Int) (left row : List Int), (t : Int) + d = lastP l → RoundAll l t before left row → ((∀ i, i < l.length → (l.getD i z43).f0 < t → left.getD i 0 = 0) ∨ (t : Int) + sumL left ≤ lastP l) → okI l left t (roundP l d t before left row) = true := by
  intro d
  induction d with
  | zero =>
    intro t before left row he h hw
    simp only [roundP, okI, List.all_eq_true, decide_eq_true_eq]
    have hz : ∀ i, i < left.length → left.getD i 0 = 0 := by
      rcases hw with hw | hw
      · intro i hi
        rw [h.ll] at hi
        have hd := doneBy_get (doneBy_last l 0) i hi
        have hm := custOk_mem hok (l.getD i z43) (getD_mem hi _)
        have hdr : l.drop i = l.getD i z43 :: l.drop (i + 1) := by rw [getD_lt hi]; exact List.drop_eq_getElem_cons hi
        rw [hdr] at hd
        simp only [needSum] at hd
        have hb := needSum_bound (l.drop (i + 1)) (fun c hc => custOk_mem hok c (List.mem_of_mem_drop hc))
        have e3 : lastP l = lastFrom l 0 := rfl
        exact hw i hi (by omega)
      · exact sumL_zero left (fun i hi => h.nn i (by rw [← h.ll]; exact hi)) (by omega)
    intro x hx
    obtain ⟨i, hi, e⟩ := List.getElem_of_mem hx
    rw [← e, ← getD_lt hi 0]
    exact hz i hi
  | succ d ih =>
    intro t before left row he h hw
    simp only [roundP]
    cases hrow : rowAt l (t : Int) before left row with
    | nil =>
      obtain ⟨hz, hn⟩ := h.idle hok hrow
      simp only [okI]
      rw [decide_eq_true ⟨by omega, by omega, fun hh => by omega⟩, Bool.true_and, show servedOne left (-1) = left from by unfold servedOne; rw [if_neg (by omega)]]
      rw [show (t : Int) + 1 = ((t + 1 : Nat) : Int) from by omega]
      exact ih (t + 1) (-1) left [] (by omega) hn (.inl hz)
    | cons w ws =>
      obtain ⟨⟨i, hi, hwi, hc, hp⟩, hn⟩ := h.served hok hrow
      have hwn : w.toNat = i := by omega
      have hil : i < left.length := by rw [h.ll]; exact hi
      simp only [okI]
      rw [decide_eq_true ⟨by omega, by omega, fun _ => by rw [hwn]; exact hc⟩, Bool.true_and, show servedOne left w = left.set w.toNat (left.getD w.toNat 0 - 1) from by unfold servedOne; rw [if_pos (by omega)]]
      rw [show (t : Int) + 1 = ((t + 1 : Nat) : Int) from by omega]
      refine ih (t + 1) w _ ws (by omega) hn (.inr ?_)
      rw [sumL_set _ _ _ (by rw [hwn]; exact hil)]
      have hsum : (t : Int) + sumL left ≤ lastP l := by
        rcases hw with hw | hw
        · refine left_bound t (lastP l) l none left (custOk_from hok) h.ll (doneBy_last l 0) (fun i hi hc => hw i hi hc) (fun i hi hc => h.nx i hi hc) ⟨i, hi, ?_⟩
          by_cases hlt : (l.getD i z43).f0 < t
          · have := hw i hi hlt; omega
          · omega
        · exact hw
      omega
theorem roundOrder_ok (l : List S43) (hok : custOk l = true) : orderOk l (roundOrderP l) = true := by
  have hb := lastP_bound l hok
  unfold orderOk roundOrderP
  rw [if_pos hok, hok, Bool.true_and, decide_eq_true (by rw [roundP_length]; omega), Bool.true_and]
  have h := round_okI l hok (lastP l).toNat 0 (-1) (needs l) [] (by omega) (RoundAll.start hok) (.inl (fun i hi hc => by have := custOk_mem hok (l.getD i z43) (getD_mem hi _); omega))
  exact h

/-! roundpair -/
/-! Rounds end short needs sooner. -/
theorem endFrom_zero (w : Int) : ∀ (xs : List Int) (t e : Int), cntW w xs = 0 → endFrom w t e xs = e := by
  intro xs
  induction xs with
  | nil => intro t e _; rfl
  | cons x xs ih =>
    intro t e h
    have := (cntW_bound w xs).1
    simp only [cntW] at h
    simp only [endFrom]
    by_cases hx : x = w
    · rw [if_pos hx] at h; omega
    · rw [if_neg hx] at h ⊢; exact ih _ _ (by omega)
theorem endFrom_after (w : Int) : ∀ (xs : List Int) (t e : Int), 0 < cntW w xs → t < endFrom w t e xs := by
  intro xs
  induction xs with
  | nil => intro t e h; simp [cntW] at h
  | cons x xs ih =>
    intro t e h
    have h0 := (cntW_bound w xs).1
    simp only [cntW] at h
    simp only [endFrom]
    by_cases hz : cntW w xs = 0
    · rw [endFrom_zero w xs _ _ hz]
      by_cases hx : x = w
      · rw [if_pos hx]; omega
      · rw [if_neg hx] at h; omega
    · have := ih (t + 1) (if x = w then t + 1 else e) (by omega)
      omega
/-- Each ends at least at the need behind the coming. -/
theorem endFrom_least (l : List S43) (w : Nat) : ∀ (xs left : List Int) (t e : Int), okI l left t xs = true → 0 < cntW (w : Int) xs → max t (l.getD w z43).f0 + cntW (w : Int) xs ≤ endFrom (w : Int) t e xs := by
  intro xs
  induction xs with
  | nil => intro left t e _ h; simp [cntW] at h
  | cons x xs ih =>
    intro left t e hk h
    have h0 := (cntW_bound (w : Int) xs).1
    simp only [okI, Bool.and_eq_true, decide_eq_true_eq] at hk
    obtain ⟨⟨-, -, hc⟩, hk⟩ := hk
    simp only [cntW] at h ⊢
    simp only [endFrom]
    by_cases hx : x = (w : Int)
    · rw [if_pos hx] at h ⊢
      have hc := hc (by omega)
      rw [hx, Int.toNat_natCast] at hc
      rw [if_pos hx]
      by_cases hz : cntW (w : Int) xs = 0
      · rw [endFrom_zero _ xs _ _ hz]; omega
      · have := ih _ (t + 1) (t + 1) hk (by omega)
        omega
    · rw [if_neg hx] at h ⊢
      rw [if_neg hx]
      have := ih _ (t + 1) e hk (by omega)
      omega
def ahd (R : List Int) (x y : Int) : Prop := ∃ X Y, R = X ++ x :: Y ∧ y ∈ Y
theorem arrFrom_none {l : List S43} (h0 : ∀ i, i < l.length → (l.getD i z43).f0 = 0) (t : Int) (ht : t ≠ 0) : arrFrom l ((0 : Nat) : Int) t = [] := by
  rw [List.eq_nil_iff_forall_not_mem]
  intro x hx
  obtain ⟨j, hj, -, h⟩ := (arrFrom_iff l 0 t x).1 hx
  have := h0 j hj
  omega
theorem arrFrom_ahd : ∀ (l : List S43) (i : Nat), (∀ c ∈ l, c.f0 = 0) → ∀ a b : Nat, a < b → b < l.length → ahd (arrFrom l (i : Int) 0) ((i + a : Nat) : Int) ((i + b : Nat) : Int) := by
  intro l
  induction l with
  | nil => intro i _ a b _ hb; simp at hb
  | cons x xs ih =>
    intro i hz a b hab hb
    have hb2 : b < xs.length + 1 := by rw [List.length_cons] at hb; exact hb
    simp only [arrFrom]
    rw [if_pos (hz x (by simp))]
    have hxs : ∀ c ∈ xs, c.f0 = 0 := fun c hc => hz c (by simp [hc])
    by_cases ha : a = 0
    · refine ⟨[], arrFrom xs ((i : Int) + 1) 0, by rw [ha]; rfl, ?_⟩
      rw [show (i : Int) + 1 = ((i + 1 : Nat) : Int) from by omega, arrFrom_iff xs (i + 1) 0]
      exact ⟨b - 1, by omega, by omega, hxs _ (getD_mem (by omega) _)⟩
    · obtain ⟨X, Y, e, hy⟩ := ih (i + 1) hxs (a - 1) (b - 1) (by omega) (by omega)
      rw [show i + 1 + (a - 1) = i + a from by omega] at e
      rw [show i + 1 + (b - 1) = i + b from by omega] at hy
      refine ⟨(i : Int) :: X, Y, ?_, hy⟩
      rw [show (i : Int) + 1 = ((i + 1 : Nat) : Int) from by omega, e]; rfl
theorem round_pair (l : List S43) (hok : custOk l = true) (h0 : ∀ i, i < l.length → (l.getD i z43).f0 = 0) : ∀ (d t : Nat) (before : Int) (left row : List Int), RoundAll l t before left row → (∀ i : Nat, i < l.length → left.getD i 0 = cntW (i : Int) (roundP l d t before left row)) → ∀ (x y : Nat) (ex ey : Int), x < l.length → y < l.length → ahd (rowAt l t before left row) x y →
    (left.getD x 0 ≤ left.getD y 0 → endFrom (x : Int) t ex (roundP l d t before left row) < endFrom (y : Int) t ey (roundP l d t before left row)) ∧ (left.getD y 0 < left.getD x 0 → endFrom (y : Int) t ey (roundP l d t before left row) < endFrom (x : Int) t ex (roundP l d t before left row)) := by
  intro d
  induction d with
  | zero =>
    intro t before left row h hcnt x y ex ey hx hy hah
    obtain ⟨X, Y, e, hyY⟩ := hah
    obtain ⟨i, hi, he, -, hp⟩ := (rowAt_iff hok h (x : Int)).1 (by rw [e]; simp)
    have : x = i := by omega
    subst this
    have := hcnt x hx
    simp only [roundP, cntW] at this
    omega
  | succ d ih =>
    intro t before left row h hcnt x y ex ey hx hy hah
    obtain ⟨X, Y, e, hyY⟩ := hah
    have hpx : 0 < left.getD x 0 := by
      obtain ⟨i, hi, he, -, hp⟩ := (rowAt_iff hok h (x : Int)).1 (by rw [e]; simp)
      have : x = i := by omega
      subst this
      exact hp
    have hpy : 0 < left.getD y 0 := by
      obtain ⟨i, hi, he, -, hp⟩ := (rowAt_iff hok h (y : Int)).1 (by rw [e]; simp [hyY])
      have : y = i := by omega
      subst this
      exact hp
    have hnd := rowAt_nodup h
    have hll := h.ll
    cases hR : rowAt l t before left row with
    | nil => rw [hR] at e; simp at e
    | cons w ws =>
      obtain ⟨⟨i, hi, hw, -, hpw⟩, h'⟩ := RoundAll.served hok h hR
      have hseg : roundP l (d + 1) t before left row = w :: roundP l d (t + 1) w (left.set w.toNat (left.getD w.toNat 0 - 1)) ws := by
        simp only [roundP]; rw [hR]
      rw [hseg] at hcnt ⊢
      rw [hw, Int.toNat_natCast] at hcnt ⊢ h'
      rw [hR] at e hnd
      rw [hw] at e hnd
      have hseg2 := h'.ll
      generalize hL : left.set i (left.getD i 0 - 1) = left' at hcnt h' ⊢
      have hLi : left'.getD i 0 = left.getD i 0 - 1 := by rw [← hL]; exact getD_set_eq _ _ _ _ (by omega)
      have hLj : ∀ j, i ≠ j → left'.getD j 0 = left.getD j 0 := fun j hj => by rw [← hL]; exact getD_set_ne _ _ _ _ _ hj
      generalize hS : roundP l d ((t : Int) + 1) (i : Int) left' ws = seg at hcnt ⊢
      have hS2 : roundP l d ((t + 1 : Nat) : Int) (i : Int) left' ws = seg := by rw [← hS]; rfl
      have hcnt' : ∀ j : Nat, j < l.length → left'.getD j 0 = cntW (j : Int) seg := by
        intro j hj
        have := hcnt j hj
        simp only [cntW] at this
        by_cases hij : i = j
        · subst hij
          rw [if_pos rfl] at this
          omega
        · rw [if_neg (by omega)] at this
          rw [hLj j hij]; omega
      have hR' : rowAt l ((t + 1 : Nat) : Int) (i : Int) left' ws = ws ++ (if 0 ≤ (i : Int) ∧ 0 < left'.getD i 0 then [(i : Int)] else []) := by
        unfold rowAt
        have := arrFrom_none h0 ((t + 1 : Nat) : Int) (by omega)
        rw [show ((0 : Nat) : Int) = 0 from rfl] at this
        rw [this, List.append_nil, Int.toNat_natCast]
      have IH := ih (t + 1) (i : Int) left' ws h' (by rw [hS2]; exact hcnt')
      rw [hS2, hR'] at IH
      simp only [endFrom]
      rw [show ((t + 1 : Nat) : Int) = (t : Int) + 1 from rfl] at IH
      rw [List.nodup_cons] at hnd
      cases X with
      | nil =>
        rw [List.nil_append] at e
        obtain ⟨e1, e2⟩ := List.cons.inj e
        have hix : i = x := by omega
        subst hix
        have hiy : i ≠ y := by
          intro hc
          subst hc
          rw [e2] at hnd
          exact hnd.1 hyY
        rw [if_pos rfl, if_neg (by omega)]
        rw [hLi] at IH
        have hcy := hcnt' y hy
        have hcx := hcnt' i hx
        rw [hLj y hiy] at hcy
        by_cases hz : left.getD i 0 - 1 = 0
        · rw [endFrom_zero (i : Int) seg _ _ (by omega)]
          have := endFrom_after (y : Int) seg ((t : Int) + 1) ey (by omega)
          exact ⟨fun _ => this, fun hlt => by omega⟩
        · rw [if_pos ⟨by omega, by omega⟩] at IH
          obtain ⟨P, Q, hPQ⟩ := List.append_of_mem (show (y : Int) ∈ ws from by rw [e2]; exact hyY)
          have := IH y i ey ((t : Int) + 1) hy hx ⟨P, Q ++ [(i : Int)], by rw [hPQ]; simp, by simp⟩
          rw [hLi, hLj y hiy] at this
          exact ⟨fun hle => this.2 (by omega), fun hlt => this.1 (by omega)⟩
      | cons u X =>
        rw [List.cons_append] at e
        obtain ⟨e1, e2⟩ := List.cons.inj e
        have hxw : (x : Int) ∈ ws := by rw [e2]; simp
        have hyw : (y : Int) ∈ ws := by rw [e2]; simp [hyY]
        have hix : i ≠ x := by intro hc; subst hc; exact hnd.1 hxw
        have hiy : i ≠ y := by intro hc; subst hc; exact hnd.1 hyw
        rw [if_neg (by omega), if_neg (by omega)]
        have := IH x y ex ey hx hy ⟨X, Y ++ (if 0 ≤ (i : Int) ∧ 0 < left'.getD i 0 then [(i : Int)] else []), by rw [e2]; simp, by simp [hyY]⟩
        rw [hLj x hix, hLj y hiy] at this
        exact this

/-! roundalt -/
/-! Of two who are both there, services alternate: neither is ahead by more than one unit. -/
def altR (a b : Int) : List Int → Bool
  | [] => true
  | w :: ws => if w = a then altR b a ws else (decide (w ≠ b) && altR a b ws)
theorem altR_inner : ∀ (xs : List Int) (a b : Int), a ≠ b → ∀ (n best : Int),
    (altR a b xs = true → -1 ≤ n → n ≤ 0 → innerP a b xs n best ≤ max best 1) ∧ (altR b a xs = true → 0 ≤ n → n ≤ 1 → innerP a b xs n best ≤ max best 1) := by
  intro xs
  induction xs with
  | nil => intro a b _ n best; exact ⟨fun _ _ _ => by simp only [innerP]; omega, fun _ _ _ => by simp only [innerP]; omega⟩
  | cons w ws ih =>
    intro a b hab n best
    constructor
    · intro h h0 h1
      simp only [altR] at h
      simp only [innerP]
      by_cases hw : w = a
      · rw [if_pos hw] at h
        rw [if_pos hw, if_neg (by omega)]
        have := (ih a b hab (n + 1 - 0) (max (max best (n + 1 - 0)) (-(n + 1 - 0)))).2 h (by omega) (by omega)
        omega
      · rw [if_neg hw, Bool.and_eq_true, decide_eq_true_eq] at h
        rw [if_neg hw, if_neg h.1]
        have := (ih a b hab (n + 0 - 0) (max (max best (n + 0 - 0)) (-(n + 0 - 0)))).1 h.2 (by omega) (by omega)
        omega
    · intro h h0 h1
      simp only [altR] at h
      simp only [innerP]
      by_cases hw : w = b
      · rw [if_pos hw] at h
        rw [if_neg (by omega), if_pos hw]
        have := (ih a b hab (n + 0 - 1) (max (max best (n + 0 - 1)) (-(n + 0 - 1)))).1 h (by omega) (by omega)
        omega
      · rw [if_neg hw, Bool.and_eq_true, decide_eq_true_eq] at h
        rw [if_neg hw, if_neg h.1]
        have := (ih a b hab (n + 0 - 0) (max (max best (n + 0 - 0)) (-(n + 0 - 0)))).2 h.2 (by omega) (by omega)
        omega
theorem altR_outer : ∀ (xs : List Int) (a b : Int), a ≠ b → ∀ (best : Int), best ≤ 1 → (altR a b xs = true ∨ altR b a xs = true) → outerP a b xs best ≤ 1 := by
  intro xs
  induction xs with
  | nil => intro a b _ best hb _; exact hb
  | cons w ws ih =>
    intro a b hab best hb h
    simp only [outerP]
    have hin : innerP a b (w :: ws) 0 best ≤ 1 := by
      rcases h with h | h
      · have := (altR_inner (w :: ws) a b hab 0 best).1 h (by omega) (by omega); omega
      · have := (altR_inner (w :: ws) a b hab 0 best).2 h (by omega) (by omega); omega
    refine ih a b hab _ hin ?_
    rcases h with h | h
    · simp only [altR] at h
      by_cases hw : w = a
      · rw [if_pos hw] at h; exact .inr h
      · rw [if_neg hw, Bool.and_eq_true] at h; exact .inl h.2
    · simp only [altR] at h
      by_cases hw : w = b
      · rw [if_pos hw] at h; exact .inl h
      · rw [if_neg hw, Bool.and_eq_true] at h; exact .inr h.2
theorem round_alt (l : List S43) (hok : custOk l = true) : ∀ (d t : Nat) (before : Int) (left row : List Int), RoundAll l t before left row → (∀ i : Nat, i < l.length → left.getD i 0 = cntW (i : Int) (roundP l d t before left row)) → ∀ (x y : Nat) (ex ey : Int) (n : Nat), x < l.length → y < l.length → ahd (rowAt l t before left row) x y →
    (t : Int) + n ≤ endFrom (x : Int) t ex (roundP l d t before left row) → (t : Int) + n ≤ endFrom (y : Int) t ey (roundP l d t before left row) → altR (x : Int) (y : Int) ((roundP l d t before left row).take n) = true := by
  intro d
  induction d with
  | zero =>
    intro t before left row h hcnt x y ex ey n hx hy hah h1 h2
    simp [roundP, altR]
  | succ d ih =>
    intro t before left row h hcnt x y ex ey n hx hy hah hex hey
    cases n with
    | zero => simp [altR]
    | succ n =>
    obtain ⟨X, Y, e, hyY⟩ := hah
    have hnd := rowAt_nodup h
    have hll := h.ll
    cases hR : rowAt l t before left row with
    | nil => rw [hR] at e; simp at e
    | cons w ws =>
      obtain ⟨⟨i, hi, hw, -, hpw⟩, h'⟩ := RoundAll.served hok h hR
      have hseg : roundP l (d + 1) t before left row = w :: roundP l d (t + 1) w (left.set w.toNat (left.getD w.toNat 0 - 1)) ws := by
        simp only [roundP]; rw [hR]
      rw [hseg] at hcnt hex hey ⊢
      rw [hw, Int.toNat_natCast] at hcnt hex hey ⊢ h'
      rw [hR] at e hnd
      rw [hw] at e hnd
      generalize hL : left.set i (left.getD i 0 - 1) = left' at hcnt h' hex hey ⊢
      have hLi : left'.getD i 0 = left.getD i 0 - 1 := by rw [← hL]; exact getD_set_eq _ _ _ _ (by omega)
      have hLj : ∀ j, i ≠ j → left'.getD j 0 = left.getD j 0 := fun j hj => by rw [← hL]; exact getD_set_ne _ _ _ _ _ hj
      generalize hS : roundP l d ((t : Int) + 1) (i : Int) left' ws = seg at hcnt hex hey ⊢
      have hS2 : roundP l d ((t + 1 : Nat) : Int) (i : Int) left' ws = seg := by rw [← hS]; rfl
      have hcnt' : ∀ j : Nat, j < l.length → left'.getD j 0 = cntW (j : Int) seg := by
        intro j hj
        have := hcnt j hj
        simp only [cntW] at this
        by_cases hij : i = j
        · subst hij
          rw [if_pos rfl] at this
          omega
        · rw [if_neg (by omega)] at this
          rw [hLj j hij]; omega
      have hR' : rowAt l ((t + 1 : Nat) : Int) (i : Int) left' ws = ws ++ ((if 0 ≤ (i : Int) ∧ 0 < left'.getD i 0 then [(i : Int)] else []) ++ arrFrom l 0 ((t + 1 : Nat) : Int)) := by
        unfold rowAt
        rw [Int.toNat_natCast, List.append_assoc]
      have IH := ih (t + 1) (i : Int) left' ws h' (by rw [hS2]; exact hcnt')
      rw [hS2, hR'] at IH
      simp only [endFrom] at hex hey
      rw [show ((t + 1 : Nat) : Int) = (t : Int) + 1 from rfl] at IH
      rw [List.nodup_cons] at hnd
      rw [List.take_succ_cons]
      simp only [altR]
      cases X with
      | nil =>
        rw [List.nil_append] at e
        obtain ⟨e1, e2⟩ := List.cons.inj e
        have hix : i = x := by omega
        subst hix
        have hiy : i ≠ y := by
          intro hc
          subst hc
          rw [e2] at hnd
          exact hnd.1 hyY
        rw [if_pos rfl] at hex ⊢
        rw [if_neg (by omega)] at hey
        have hcx := hcnt' i hx
        rw [hLi] at hcx IH
        by_cases hz : left.getD i 0 - 1 = 0
        · rw [endFrom_zero (i : Int) seg _ _ (by omega)] at hex
          have : n = 0 := by omega
          subst this
          simp [altR]
        · obtain ⟨P, Q, hPQ⟩ := List.append_of_mem (show (y : Int) ∈ ws from by rw [e2]; exact hyY)
          have hmem : (i : Int) ∈ (if 0 ≤ (i : Int) ∧ 0 < left.getD i 0 - 1 then [(i : Int)] else []) ++ arrFrom l 0 ((t : Int) + 1) := by
            rw [if_pos ⟨by omega, by omega⟩]; simp
          exact IH y i ey ((t : Int) + 1) n hy hx ⟨P, Q ++ ((if 0 ≤ (i : Int) ∧ 0 < left.getD i 0 - 1 then [(i : Int)] else []) ++ arrFrom l 0 ((t : Int) + 1)), by rw [hPQ]; simp, List.mem_append_right _ hmem⟩ (by omega) (by omega)
      | cons u X =>
        rw [List.cons_append] at e
        obtain ⟨e1, e2⟩ := List.cons.inj e
        have hxw : (x : Int) ∈ ws := by rw [e2]; simp
        have hyw : (y : Int) ∈ ws := by rw [e2]; simp [hyY]
        have hix : i ≠ x := by intro hc; subst hc; exact hnd.1 hxw
        have hiy : i ≠ y := by intro hc; subst hc; exact hnd.1 hyw
        rw [if_neg (by omega)] at hex hey ⊢
        rw [decide_eq_true (show (i : Int) ≠ (y : Int) by omega), Bool.true_and]
        exact IH x y ex ey n hx hy ⟨X, Y ++ ((if 0 ≤ (i : Int) ∧ 0 < left'.getD i 0 then [(i : Int)] else []) ++ arrFrom l 0 ((t : Int) + 1)), by rw [e2]; simp, by simp [hyY]⟩ (by omega) (by omega)
/-- Any place of the order is a state of the rounds. -/
theorem round_state (l : List S43) (hok : custOk l = true) : ∀ (s D t : Nat) (before : Int) (left row : List Int), RoundAll l t before left row → (∀ i : Nat, i < l.length → left.getD i 0 = cntW (i : Int) (roundP l D t before left row)) → s ≤ D →
    ∃ before' left' row', RoundAll l (t + s) before' left' row' ∧ (roundP l D t before left row).drop s = roundP l (D - s) ((t + s : Nat) : Int) before' left' row' ∧ (∀ i : Nat, i < l.length → left'.getD i 0 = cntW (i : Int) ((roundP l D t before left row).drop s)) := by
  intro s
  induction s with
  | zero => intro D t before left row h hc _; exact ⟨before, left, row, h, rfl, hc⟩
  | succ s ih =>
    intro D t before left row h hc hs
    obtain ⟨D, rfl⟩ : ∃ m, D = m + 1 := ⟨D - 1, by omega⟩
    cases hR : rowAt l t before left row with
    | nil =>
      obtain ⟨-, hn⟩ := h.idle hok hR
      have hseg : roundP l (D + 1) t before left row = (-1) :: roundP l D ((t + 1 : Nat) : Int) (-1) left [] := by
        simp only [roundP]; rw [hR]; rfl
      rw [hseg] at hc ⊢
      obtain ⟨b', l', r', g1, g2, g3⟩ := ih D (t + 1) (-1) left [] hn (fun i hi => by
        have := hc i hi
        simp only [cntW] at this
        rw [if_neg (by omega)] at this
        omega) (by omega)
      rw [List.drop_succ_cons, show D + 1 - (s + 1) = D - s from by omega, show t + (s + 1) = t + 1 + s from by omega]
      exact ⟨b', l', r', g1, g2, g3⟩
    | cons w ws =>
      obtain ⟨⟨i, hi, hw, -, hpw⟩, h'⟩ := RoundAll.served hok h hR
      have hseg : roundP l (D + 1) t before left row = w :: roundP l D ((t + 1 : Nat) : Int) w (left.set w.toNat (left.getD w.toNat 0 - 1)) ws := by
        simp only [roundP]; rw [hR]; rfl
      rw [hseg] at hc ⊢
      have hll := h.ll
      have hwn : w.toNat = i := by omega
      obtain ⟨b', l', r', g1, g2, g3⟩ := ih D (t + 1) w (left.set w.toNat (left.getD w.toNat 0 - 1)) ws h' (fun j hj => by
        have := hc j hj
        simp only [cntW] at this
        rw [hwn] at this ⊢
        by_cases hij : i = j
        · subst hij
          rw [if_pos (by omega)] at this
          rw [getD_set_eq _ _ _ _ (by omega)]; omega
        · rw [if_neg (by omega)] at this
          rw [getD_set_ne _ _ _ _ _ hij]; omega) (by omega)
      rw [List.drop_succ_cons, show D + 1 - (s + 1) = D - s from by omega, show t + (s + 1) = t + 1 + s from by omega]
      exact ⟨b', l', r', g1, g2, g3⟩
theorem endFrom_drop (w : Int) : ∀ (s : Nat) (xs : List Int) (t e : Int), s ≤ xs.length → e ≤ t → ∃ e', e' ≤ t + s ∧ endFrom w t e xs = endFrom w (t + s) e' (xs.drop s) := by
  intro s
  induction s with
  | zero => intro xs t e _ he; exact ⟨e, by omega, by simp⟩
  | succ s ih =>
    intro xs t e hs he
    cases xs with
    | nil => simp at hs
    | cons x xs =>
      obtain ⟨e', h1, h2⟩ := ih xs (t + 1) (if x = w then t + 1 else e) (by simpa using hs) (by split <;> omega)
      refine ⟨e', by omega, ?_⟩
      simp only [endFrom]
      rw [h2, List.drop_succ_cons, show t + 1 + (s : Int) = t + ((s + 1 : Nat) : Int) from by omega]
theorem ahd_two {R : List Int} {x y : Int} (hx : x ∈ R) (hy : y ∈ R) (hne : x ≠ y) : ahd R x y ∨ ahd R y x := by
  obtain ⟨X, Y, rfl⟩ := List.append_of_mem hx
  rcases List.mem_append.1 hy with h | h
  · obtain ⟨P, Q, rfl⟩ := List.append_of_mem h
    exact .inr ⟨P, Q ++ x :: Y, by simp, by simp⟩
  · rcases List.mem_cons.1 h with h | h
    · exact absurd h.symm hne
    · exact .inl ⟨X, Y, rfl, h⟩
theorem round_ahead (l : List S43) (hok : custOk l = true) (a b : Nat) (ha : a < l.length) (hb : b < l.length) (hab : a ≠ b) : 0 ≤ aheadP l (roundOrderP l) a b ∧ aheadP l (roundOrderP l) a b ≤ 1 := by
  have ho := roundOrder_ok l hok
  unfold aheadP
  rw [if_pos ⟨ho, ⟨by omega, by omega⟩, by omega, by omega⟩]
  refine ⟨outerP_ge _ _ _ _, ?_⟩
  have e : roundOrderP l = roundP l (lastP l).toNat ((0 : Nat) : Int) (-1) (needs l) [] := by unfold roundOrderP; rw [if_pos hok]; rfl
  have hc0 : ∀ i : Nat, i < l.length → (needs l).getD i 0 = cntW (i : Int) (roundP l (lastP l).toNat ((0 : Nat) : Int) (-1) (needs l) []) := fun i hi => by rw [← e, orderOk_cnt ho i hi, needs_get]
  have hlen : (roundOrderP l).length = (lastP l).toNat := by rw [e, roundP_length]
  rw [Int.toNat_natCast, Int.toNat_natCast]
  generalize hs : (max (l.getD a z43).f0 (l.getD b z43).f0).toNat = s
  generalize hea : endFrom (a : Int) 0 0 (roundOrderP l) = ea
  generalize heb : endFrom (b : Int) 0 0 (roundOrderP l) = eb
  by_cases hse : (min ea eb).toNat ≤ s
  · rw [seg_nil _ _ _ hse]; simp [outerP]
  · have hba := (endFrom_bound (a : Int) (roundOrderP l) 0 0 (by omega) (by omega) (by omega))
    have hbb := (endFrom_bound (b : Int) (roundOrderP l) 0 0 (by omega) (by omega) (by omega))
    rw [hea] at hba
    rw [heb] at hbb
    have hsD : s ≤ (roundOrderP l).length := by omega
    obtain ⟨b', l', r', g1, g2, g3⟩ := round_state l hok s (lastP l).toNat 0 (-1) (needs l) [] (RoundAll.start hok) hc0 (by omega)
    rw [← e] at g2 g3
    rw [Nat.zero_add] at g1 g2
    obtain ⟨xa, ha1, ha2⟩ := endFrom_drop (a : Int) s (roundOrderP l) 0 0 hsD (by omega)
    obtain ⟨xb, hb1, hb2⟩ := endFrom_drop (b : Int) s (roundOrderP l) 0 0 hsD (by omega)
    rw [hea, Int.zero_add] at ha2
    rw [heb, Int.zero_add] at hb2
    have hma := custOk_mem hok _ (getD_mem ha z43)
    have hmb := custOk_mem hok _ (getD_mem hb z43)
    have pos : ∀ (w : Nat) (hw : w < l.length) (x ew : Int), x ≤ s → ew = endFrom (w : Int) (s : Int) x ((roundOrderP l).drop s) → (s : Int) < ew → 0 < l'.getD w 0 := by
      intro w hw x ew hx he hlt
      rw [g3 w hw]
      have h0 := (cntW_bound (w : Int) ((roundOrderP l).drop s)).1
      by_cases hz : cntW (w : Int) ((roundOrderP l).drop s) = 0
      · rw [endFrom_zero _ _ _ _ hz] at he; omega
      · omega
    have pa := pos a ha xa ea (by omega) ha2 (by omega)
    have pb := pos b hb xb eb (by omega) hb2 (by omega)
    have ra := (rowAt_iff hok g1 (a : Int)).2 ⟨a, ha, rfl, by omega, pa⟩
    have rb := (rowAt_iff hok g1 (b : Int)).2 ⟨b, hb, rfl, by omega, pb⟩
    have key := round_alt l hok ((lastP l).toNat - s) s b' l' r' g1 (fun i hi => by rw [← g2]; exact g3 i hi)
    rw [← g2] at key
    refine altR_outer _ _ _ (by omega) 0 (by omega) ?_
    unfold segP
    rcases ahd_two ra rb (by omega) with h | h
    · exact .inl (key a b xa xb _ ha hb h (by omega) (by omega))
    · exact .inr (key b a xb xa _ hb ha h (by omega) (by omega))

/-! roundbusy -/
/-! The rounds do not idle: in each unit somebody is served exactly if there is work. -/
def arrSum : List S43 → Int → Int
  | [], _ => 0
  | c :: cs, t => (if c.f0 = t then c.f1 else 0) + arrSum cs t
/-- The work at each time from t on, with those who come at it. -/
def worksFrom (l : List S43) : Nat → Int → Int → List Int
  | 0, _, _ => []
  | d + 1, t, v => (v + arrSum l t) :: worksFrom l d (t + 1) (max 0 (v + arrSum l t - 1))
def worksP (l : List S43) : List Int := worksFrom l 201 0 0
theorem worksFrom_length (l : List S43) : ∀ (d : Nat) (t v : Int), (worksFrom l d t v).length = d := by
  intro d
  induction d with
  | zero => intro t v; rfl
  | succ d ih => intro t v; simp only [worksFrom, List.length_cons, ih]
/-- Each unit of an order against the work at its beginning. -/
def busyI : List Int → List Int → Bool
  | [], _ => true
  | _ :: _, [] => false
  | w :: ws, x :: xs => decide ((0 ≤ w) ↔ (0 < x)) && busyI ws xs
def presW : List S43 → List Int → Int → Int
  | [], _, _ => 0
  | _ :: _, [], _ => 0
  | c :: cs, a :: bs, t => (if c.f0 ≤ t then a else 0) + presW cs bs t
theorem presW_zero : ∀ (l : List S43) (left : List Int) (t : Int), left.length = l.length → (∀ i, i < l.length → (l.getD i z43).f0 ≤ t → left.getD i 0 = 0) → presW l left t = 0 := by
  intro l
  induction l with
  | nil => intro left t _ _; rfl
  | cons c cs ih =>
    intro left t hl h
    cases left with
    | nil => simp at hl
    | cons a bs =>
      simp only [presW]
      rw [ih bs t (by simpa using hl) (fun i hi hc => h (i + 1) (by simpa using hi) hc)]
      have := h 0 (by simp)
      split
      · rename_i hc
        have e : a = 0 := this hc
        omega
      · rfl
theorem presW_nonneg : ∀ (l : List S43) (left : List Int) (t : Int), (∀ i, i < l.length → 0 ≤ left.getD i 0) → 0 ≤ presW l left t := by
  intro l
  induction l with
  | nil => intro left t _; exact Int.le_refl _
  | cons c cs ih =>
    intro left t h
    cases left with
    | nil => exact Int.le_refl _
    | cons a bs =>
      simp only [presW]
      have h1 := ih bs t (fun i hi => h (i + 1) (by simpa using hi))
      have h2 : 0 ≤ a := h 0 (by simp)
      split <;> omega
theorem presW_set : ∀ (l : List S43) (left : List Int) (t : Int) (i : Nat) (v : Int), left.length = l.length → i < l.length → (l.getD i z43).f0 ≤ t → presW l (left.set i v) t = presW l left t - left.getD i 0 + v := by
  intro l
  induction l with
  | nil => intro left t i v _ h; simp at h
  | cons c cs ih =>
    intro left t i v hl hi hc
    cases left with
    | nil => simp at hl
    | cons a bs =>
      cases i with
      | zero =>
        have hc2 : c.f0 ≤ t := hc
        simp only [List.set_cons_zero, presW, List.getD_cons_zero]
        rw [if_pos hc2, if_pos hc2]; omega
      | succ i =>
        simp only [List.set_cons_succ, presW, List.getD_cons_succ]
        rw [ih bs t i v (by simpa using hl) (by simpa using hi) hc]; omega
theorem presW_pos : ∀ (l : List S43) (left : List Int) (t : Int) (i : Nat), left.length = l.length → (∀ i, i < l.length → 0 ≤ left.getD i 0) → i < l.length → (l.getD i z43).f0 ≤ t → left.getD i 0 ≤ presW l left t := by
  intro l left t i hl hn hi hc
  have := presW_set l left t i 0 hl hi hc
  have := presW_nonneg l (left.set i 0) t (fun j hj => by
    by_cases hij : i = j
    · subst hij
      rw [getD_set_eq _ _ _ _ (by omega)]; omega
    · rw [getD_set_ne _ _ _ _ _ hij]; exact hn j hj)
  omega
theorem presW_next : ∀ (l : List S43) (left : List Int) (t : Int), left.length = l.length → (∀ i, i < l.length → (l.getD i z43).f0 = t + 1 → left.getD i 0 = (l.getD i z43).f1) → presW l left (t + 1) = presW l left t + arrSum l (t + 1) := by
  intro l
  induction l with
  | nil => intro left t _ _; rfl
  | cons c cs ih =>
    intro left t hl h
    cases left with
    | nil => simp at hl
    | cons a bs =>
      simp only [presW, arrSum]
      rw [ih bs t (by simpa using hl) (fun i hi hc => h (i + 1) (by simpa using hi) hc)]
      by_cases h1 : c.f0 = t + 1
      · have e : a = c.f1 := h 0 (by simp) h1
        rw [if_pos (by omega), if_neg (by omega), if_pos h1]; omega
      · rw [if_neg h1]
        by_cases h2 : c.f0 ≤ t
        · rw [if_pos (by omega), if_pos h2]; omega
        · rw [if_neg (by omega), if_neg h2]; omega
theorem round_busy (l : List S43) (hok : custOk l = true) : ∀ (d D t : Nat) (before : Int) (left row : List Int) (v : Int), d ≤ D → RoundAll l t before left row → v + arrSum l t = presW l left t → busyI (roundP l d t before left row) (worksFrom l D t v) = true := by
  intro d
  induction d with
  | zero => intro D t before left row v _ _ _; simp [roundP, busyI]
  | succ d ih =>
    intro D t before left row v hD h hv
    obtain ⟨D, rfl⟩ : ∃ m, D = m + 1 := ⟨D - 1, by omega⟩
    have hll := h.ll
    cases hR : rowAt l t before left row with
    | nil =>
      obtain ⟨hz, hn⟩ := h.idle hok hR
      have hseg : roundP l (d + 1) t before left row = (-1) :: roundP l d ((t + 1 : Nat) : Int) (-1) left [] := by
        simp only [roundP]; rw [hR]; rfl
      rw [hseg]
      have h0 := presW_zero l left t hll (fun i hi hc => hz i hi (by omega))
      simp only [worksFrom, busyI]
      rw [decide_eq_true (by omega), Bool.true_and, show (t : Int) + 1 = ((t + 1 : Nat) : Int) from rfl]
      refine ih D (t + 1) (-1) left [] _ (by omega) hn ?_
      have := presW_next l left t hll (fun i hi hc => h.nx i hi (by omega))
      rw [show ((t + 1 : Nat) : Int) = (t : Int) + 1 from rfl]
      omega
    | cons w ws =>
      obtain ⟨⟨i, hi, hw, hc, hpw⟩, h'⟩ := RoundAll.served hok h hR
      have hseg : roundP l (d + 1) t before left row = w :: roundP l d ((t + 1 : Nat) : Int) w (left.set w.toNat (left.getD w.toNat 0 - 1)) ws := by
        simp only [roundP]; rw [hR]; rfl
      rw [hseg]
      have hwn : w.toNat = i := by omega
      rw [hwn] at h' ⊢
      have hp := presW_pos l left t i hll h.nn hi hc
      simp only [worksFrom, busyI]
      rw [decide_eq_true (by omega), Bool.true_and, show (t : Int) + 1 = ((t + 1 : Nat) : Int) from rfl]
      refine ih D (t + 1) w _ ws _ (by omega) h' ?_
      have hs := presW_set l left t i (left.getD i 0 - 1) hll hi hc
      have := presW_next l (left.set i (left.getD i 0 - 1)) t h'.ll (fun j hj hcj => h'.nx j hj (by omega))
      rw [show ((t + 1 : Nat) : Int) = (t : Int) + 1 from rfl]
      omega
theorem presW_start (l : List S43) : (∀ c ∈ l, 0 ≤ c.f0) → presW l (needs l) 0 = arrSum l 0 := by
  induction l with
  | nil => intro _; rfl
  | cons c cs ih =>
    intro h
    have hc := h c (by simp)
    simp only [needs, List.map_cons, presW, arrSum]
    have := ih (fun x hx => h x (by simp [hx]))
    unfold needs at this
    rw [this]
    by_cases h1 : c.f0 = 0
    · rw [if_pos (by omega), if_pos h1]
    · rw [if_neg (by omega), if_neg h1]
theorem roundOrder_busy (l : List S43) (hok : custOk l = true) : busyI (roundOrderP l) (worksP l) = true := by
  have hb := lastP_bound l hok
  unfold roundOrderP worksP
  rw [if_pos hok]
  have hm := custOk_mem hok
  exact round_busy l hok (lastP l).toNat 201 0 (-1) (needs l) [] 0 (by omega) (RoundAll.start hok) (by
    have := presW_start l (fun c hc => by have := hm c hc; omega)
    rw [show ((0 : Nat) : Int) = 0 from rfl, this]; omega)

/-! setdrop -/
theorem set_append_drop {α : Type} (X : List α) (v : α) {i : Nat} (h : i < X.length) : (X.set i v).take (i + 1) = X.take i ++ [v] ∧ (X.set i v).drop (i + 1) = X.drop (i + 1) := by
  constructor
  · rw [List.take_succ_eq_append_getElem (by rw [List.length_set]; exact h), List.take_set_of_le (Nat.le_refl _), List.getElem_set_self]
  · rw [List.drop_set_of_lt (by omega)]

/-! busy_impl -/
theorem arrSum_bound (l : List S43) (t : Int) : (∀ c ∈ l, 0 ≤ c.f0 ∧ c.f0 ≤ 60 ∧ 1 ≤ c.f1 ∧ c.f1 ≤ 9) → 0 ≤ arrSum l t ∧ arrSum l t ≤ 9 * l.length := by
  induction l with
  | nil => intro _; simp [arrSum]
  | cons c cs ih =>
    intro h
    have h1 := ih (fun x hx => h x (by simp [hx]))
    have h2 := h c (by simp)
    simp only [arrSum, List.length_cons]
    split <;> omega
theorem impl_works_inner (l : List S43) (h8 : l.length ≤ 8) (hm : ∀ c ∈ l, 0 ≤ c.f0 ∧ c.f0 ≤ 60 ∧ 1 ≤ c.f1 ∧ c.f1 ≤ 9) (arr : List Int) (t : Int) : ∀ (suf : List S43) (i k : Nat) (v : Int) (R : Option (List Int)), l.drop i = suf → 0 ≤ v → v ≤ 100000 - 9 * suf.length → i ≤ l.length →
    impl_works.l0 k l (arr.set t.toNat (v + arrSum suf t)) (mx 0 (wrap64 (v + arrSum suf t - 1))) (wrap64 (t + 1)) = R → impl_works.l1 (k + suf.length + 1) l arr v t (i : Int) = R := by
  intro suf
  induction suf with
  | nil =>
    intro i k v R hd h0 h1 hi hR
    have := drop_nil hd
    simp only [impl_works.l1, List.length_nil, Nat.add_zero]
    rw [if_neg (by omega)]
    simp only [arrSum, Int.add_zero] at hR
    exact hR
  | cons x xs ih =>
    intro i k v R hd h0 h1 hi hR
    obtain ⟨hlt, hd2, hx⟩ := drop_split hd
    have hxb := hm x (by rw [← hx z43]; exact getD_mem hlt _)
    simp only [List.length_cons] at h1
    obtain ⟨K, hK⟩ : ∃ K, K = k + xs.length + 1 := ⟨_, rfl⟩
    rw [List.length_cons, show k + (xs.length + 1) + 1 = K + 1 by omega]
    simp only [impl_works.l1]
    rw [if_pos (by omega), if_pos (by omega), rd_Customer_nat, hx, w64s i (by omega)]
    have hb := arrSum_bound xs t (fun c hc => hm c (by
      have : c ∈ l.drop (i + 1) := by rw [hd2]; exact hc
      exact List.mem_of_mem_drop this))
    simp only [arrSum] at hR
    by_cases h : x.f0 = t
    · rw [if_pos h] at hR ⊢
      rw [show wrap64 (v + x.f1) = v + x.f1 from w64 (by omega) (by omega), hK]
      refine ih (i + 1) k (v + x.f1) R hd2 (by omega) (by omega) (by omega) ?_
      rw [show v + x.f1 + arrSum xs t = v + (x.f1 + arrSum xs t) from by omega]
      exact hR
    · rw [if_neg h] at hR ⊢
      rw [hK]
      refine ih (i + 1) k v R hd2 h0 (by omega) (by omega) ?_
      rw [show v + arrSum xs t = v + (0 + arrSum xs t) from by omega]
      exact hR
theorem impl_works_outer (l : List S43) (h8 : l.length ≤ 8) (hm : ∀ c ∈ l, 0 ≤ c.f0 ∧ c.f0 ≤ 60 ∧ 1 ≤ c.f1 ∧ c.f1 ≤ 9) : ∀ (d t k : Nat) (arr : List Int) (v : Int), t + d = 201 → arr.length = 201 → 0 ≤ v → v ≤ 72 * t → d * (l.length + 2) + 1 ≤ k → impl_works.l0 k l arr v t = some (arr.take t ++ worksFrom l d t v) := by
  intro d
  induction d with
  | zero =>
    intro t k arr v ht ha h0 h1 hk
    obtain ⟨k, rfl⟩ : ∃ m, k = m + 1 := ⟨k - 1, by omega⟩
    simp only [impl_works.l0, worksFrom]
    rw [if_neg (by omega), List.take_of_length_le (by omega), List.append_nil]
  | succ d ih =>
    intro t k arr v ht ha h0 h1 hk
    have hb := arrSum_bound l t hm
    rw [Nat.add_mul, Nat.one_mul] at hk
    obtain ⟨k', rfl⟩ : ∃ m, k = (m + l.length + 1) + 1 := ⟨k - (l.length + 2), by omega⟩
    simp only [impl_works.l0]
    rw [if_pos (by omega), if_pos (by omega)]
    have := impl_works_inner l h8 hm arr t l 0 k' v _ rfl h0 (by omega) (by omega) rfl
    rw [show ((0 : Nat) : Int) = 0 from rfl] at this
    rw [this, w64s t (by omega), mx_max, show wrap64 (v + arrSum l t - 1) = v + arrSum l t - 1 from w64 (by omega) (by omega), Int.toNat_natCast]
    obtain ⟨e1, -⟩ := set_append_drop arr (v + arrSum l t) (i := t) (by omega)
    rw [ih (t + 1) k' _ _ (by omega) (by rw [List.length_set]; exact ha) (by omega) (by omega) (by omega), e1]
    simp only [worksFrom, List.append_assoc, List.singleton_append]
    rw [show ((t + 1 : Nat) : Int) = (t : Int) + 1 from rfl]
theorem impl_works_is (l : List S43) (hok : custOk l = true) (k : Nat) (hk : 3000 ≤ k) : impl_works.f k l = some (worksP l) := by
  have h8 := custOk_len hok
  have hm := custOk_mem hok
  unfold impl_works.f worksP
  have : 201 * (l.length + 2) ≤ 201 * 10 := Nat.mul_le_mul_left _ (by omega)
  exact impl_works_outer l h8 hm 201 0 k z201 0 (by omega) (List.length_replicate ..) (by omega) (by omega) (by omega)
theorem worksP_length (l : List S43) : (worksP l).length = 201 := worksFrom_length l 201 0 0
theorem impl_BusyOk_loop (order arr : List Int) (ho : order.length ≤ 200) (ha : arr.length = 201) : ∀ (suf : List Int) (i k : Nat), order.drop i = suf → suf.length < k → i ≤ order.length → impl_BusyOk.l0 k order arr i = some (busyI suf (arr.drop i)) := by
  intro suf
  induction suf with
  | nil =>
    intro i k hd hk hi
    obtain ⟨k, rfl⟩ : ∃ m, k = m + 1 := ⟨k - 1, by omega⟩
    have := drop_nil hd
    simp only [impl_BusyOk.l0, busyI]
    rw [if_neg (by omega)]
  | cons x xs ih =>
    intro i k hd hk hi
    obtain ⟨k, rfl⟩ : ∃ m, k = m + 1 := ⟨k - 1, by omega⟩
    obtain ⟨hlt, hd2, hx⟩ := drop_split hd
    simp only [List.length_cons] at hk
    have hia : i < arr.length := by omega
    rw [List.drop_eq_getElem_cons hia]
    simp only [impl_BusyOk.l0, busyI]
    rw [if_pos (by omega), if_pos (by omega), if_pos (by omega), rd_nat, rd_nat, hx, w64s i (by omega), ih (i + 1) k hd2 (by omega) (by omega), getD_lt hia]
    by_cases h1 : 0 ≤ x <;> by_cases h2 : 0 < arr[i] <;> simp [h1, h2]
theorem impl_BusyOk_is (l : List S43) (order : List Int) (hl : l.length ≤ 1048576) (k : Nat) (hk : l.length + 3000 ≤ k) : impl_BusyOk.f k l order = some (orderOk l order && (decide ((order.length : Int) = lastP l) && busyI order (worksP l))) := by
  unfold impl_BusyOk.f
  rw [impl_OrderOk_is l order hl k (by omega), Option.bind_some]
  by_cases h : orderOk l order = true
  · obtain ⟨hok, h200, -⟩ := orderOk_parts h
    have h8 := custOk_len hok
    rw [if_pos h, impl_lastLeave_is l hok k (by omega), Option.bind_some, h, Bool.true_and]
    by_cases h2 : (order.length : Int) = lastP l
    · rw [if_pos h2, impl_works_is l hok k (by omega), Option.bind_some, if_pos (worksP_length l), decide_eq_true h2, Bool.true_and]
      have := impl_BusyOk_loop order (worksP l) h200 (worksP_length l) order 0 k rfl (by omega) (by omega)
      rw [show ((0 : Nat) : Int) = 0 from rfl, List.drop_zero] at this
      exact this
    · rw [if_neg h2, decide_eq_false h2, Bool.false_and]
  · rw [if_neg h, Bool.eq_false_iff.2 h, Bool.false_and]

/-! law_RoundOrder -/
theorem law_row (l : List S43) (hok : custOk l = true) : ∀ (d i k : Nat), i + d = l.length → 20 * d + 60000 ≤ k → laws_FnRoundOrder.l0 k l (roundOrderP l) (i : Int) = some true := by
  have h8 := custOk_len hok
  intro d
  induction d with
  | zero =>
    intro i k hi hk
    obtain ⟨k, rfl⟩ : ∃ m, k = m + 1 := ⟨k - 1, by omega⟩
    simp only [laws_FnRoundOrder.l0]
    have hb := lastP_bound l hok
    have hlen : (roundOrderP l).length = (lastP l).toNat := by unfold roundOrderP; rw [if_pos hok, roundP_length]
    rw [if_neg (by omega), impl_BusyOk_is l _ (by omega) k (by omega), roundOrder_ok l hok, decide_eq_true (show ((roundOrderP l).length : Int) = lastP l by omega), roundOrder_busy l hok, Option.bind_some, if_pos (by decide), alive_is k (by omega)]; rfl
  | succ d ih =>
    intro i k hi hk
    obtain ⟨k, rfl⟩ : ∃ m, k = m + 1 := ⟨k - 1, by omega⟩
    simp only [laws_FnRoundOrder.l0]
    rw [if_pos (by omega)]
    have inner : ∀ (e j k : Nat), j + e = i → 20 * d + 60001 + e ≤ k → laws_FnRoundOrder.l1 k l (roundOrderP l) (i : Int) (j : Int) = some true := by
      intro e
      induction e with
      | zero =>
        intro j k hj hk
        obtain ⟨k, rfl⟩ : ∃ m, k = m + 1 := ⟨k - 1, by omega⟩
        simp only [laws_FnRoundOrder.l1]
        rw [if_neg (by omega), w64s i (by omega)]
        exact ih (i + 1) k (by omega) (by omega)
      | succ e ihe =>
        intro j k hj hk
        obtain ⟨k, rfl⟩ : ∃ m, k = m + 1 := ⟨k - 1, by omega⟩
        simp only [laws_FnRoundOrder.l1]
        have hr := round_ahead l hok i j (by omega) (by omega) (by omega)
        rw [if_pos (by omega), impl_AheadBy_is l _ (by omega) _ _ k (by omega), Option.bind_some, if_neg (by omega), if_neg (by omega), w64s j (by omega)]
        exact ihe (j + 1) k (by omega) (by omega)
    exact inner i 0 k (by omega) (by omega)
theorem FnRoundOrder : laws_FnRoundOrder.Pure := by
  intro l0 hl hl2 hb
  obtain ⟨K, hK⟩ : ∃ K, K = 70000 := ⟨_, rfl⟩
  refine ⟨K + 1, ?_⟩
  unfold laws_FnRoundOrder.f
  by_cases hbig : (l0.length : Int) > 1048576
  · rw [if_pos hbig]
  · rw [if_neg hbig]
    have hd : ∃ r, spec_DrawRoundOrder.f (K + 1) l0 = some r ∧ r.length ≤ 200 := by
      unfold spec_DrawRoundOrder.f
      obtain ⟨s, e0, hs, hls⟩ := open_ok (bytes_of hb)
      rw [e0, Option.bind_some]; dsimp only
      obtain ⟨r, q, e, h1, h2, h3⟩ := l20Customers_ok hs hls 9 (by omega) (K + 1) (by omega) 0 (by omega) (by omega)
      rw [e, Option.bind_some]
      exact ⟨r, rfl, h1⟩
    obtain ⟨r, e, h1⟩ := hd
    have hlen := roundOrderP_len r
    rw [e, Option.bind_some, impl_RoundOrder_is r (by omega) _ (by omega), Option.bind_some, spec_RoundOrder_is r (by omega) _ (by omega), Option.bind_some, sameInts_is _ (by omega) _ (by omega), Option.bind_some, if_pos rfl, spec_CustomersOk_is r (by omega) _ (by omega), Option.bind_some]
    by_cases h : custOk r = true
    · have h8 := custOk_len h
      rw [if_pos h]
      exact law_row r h r.length 0 (K + 1) (by omega) (by omega)
    · rw [if_neg h]
      have : roundOrderP r = [] := by unfold roundOrderP; rw [if_neg h]
      rw [this, if_pos (by simp), alive_is _ (by omega)]; rfl

end Go.Proofs.Ytbljbcgooenjfaa.Pure
