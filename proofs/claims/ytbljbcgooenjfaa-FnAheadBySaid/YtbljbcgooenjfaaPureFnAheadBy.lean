/- The pure part of the proof of FnAheadBy: the printed functions answer true, for every drawn or given argument within the row's own bounds; no further condition. -/
import Derived.Test.YtbljbcgooenjfaaPFnAheadByx13
import Derived.Laws.BitsLemmas
namespace Go.Proofs.Ytbljbcgooenjfaa.Pure
open Go.RowKit Go.Proofs.Ytbljbcgooenjfaa.PFnAheadBy Go.Proofs.YtbljbcgooenjfaaW.PrintWords Go.Proofs.YtbljbcgooenjfaaW.PrintLast Go.Proofs.YtbljbcgooenjfaaW.PrintMore
set_option linter.unusedVariables false
set_option linter.unusedSimpArgs false
/-! base -/
theorem w64 {x : Int} (h0 : -9223372036854775808 ≤ x) (h1 : x ≤ 9223372036854775807) : wrap64 x = x := by
  unfold wrap64
  omega
theorem w64s (n : Nat) (h : n ≤ 4611686018427387904) : wrap64 ((n : Int) + 1) = ((n + 1 : Nat) : Int) := by
  unfold wrap64
  omega
theorem drop_split {α : Type} {l : List α} {i : Nat} {x : α} {xs : List α} (h : l.drop i = x :: xs) : i < l.length ∧ l.drop (i + 1) = xs ∧ ∀ d, l.getD i d = x := by
  have hi : i < l.length := by
    have h2 : 0 < (l.drop i).length := by rw [h]; simp
    rw [List.length_drop] at h2
    omega
  rw [List.drop_eq_getElem_cons hi] at h
  injection h with h1 h2
  exact ⟨hi, h2, fun d => by rw [List.getD_eq_getElem?_getD, List.getElem?_eq_getElem hi, h1]; rfl⟩
theorem drop_nil {α : Type} {l : List α} {i : Nat} (h : l.drop i = []) : l.length ≤ i := List.drop_eq_nil_iff.1 h
theorem getD_lt {α : Type} {l : List α} {i : Nat} (h : i < l.length) (d : α) : l.getD i d = l[i] := by
  rw [List.getD_eq_getElem?_getD, List.getElem?_eq_getElem h]; rfl
theorem rd_nat (l : List Int) (i : Nat) : rd l (i : Int) = l.getD i 0 := by
  unfold rd
  rw [Int.toNat_natCast]
theorem getD_mem {α : Type} {l : List α} {i : Nat} (h : i < l.length) (d : α) : l.getD i d ∈ l := by
  rw [getD_lt h]; exact List.getElem_mem h
theorem take_succ_getD {α : Type} {l : List α} {i : Nat} (h : i < l.length) (d : α) : l.take (i + 1) = l.take i ++ [l.getD i d] := by
  rw [getD_lt h, List.take_succ_eq_append_getElem h]
theorem mx_max (a b : Int) : mx a b = max a b := by
  unfold mx; omega
theorem mn_min (a b : Int) : mn a b = min a b := by
  unfold mn; omega
theorem bind_of {α β : Type} {o : Option α} {r : α} {f : α → Option β} {s : Option β} (h : o = some r) (h2 : f r = s) : o.bind f = s := by rw [h]; exact h2
theorem getD_snoc_last {α : Type} (l : List α) (x d : α) {i : Nat} (h : l.length = i) : (l ++ [x]).getD i d = x := by
  subst h
  rw [List.getD_eq_getElem?_getD, List.getElem?_append_right (Nat.le_refl _), Nat.sub_self]
  rfl
theorem getD_snoc_lt {α : Type} (l r : List α) (d : α) {i : Nat} (h : i < l.length) : (l ++ r).getD i d = l.getD i d := by
  rw [List.getD_eq_getElem?_getD, List.getElem?_append_left h, List.getD_eq_getElem?_getD]

/-! pick -/
theorem xor_small (a b : Int) (ha : 0 ≤ a) (ha2 : a < 1099511627776) (hb : 0 ≤ b) (hb2 : b < 1099511627776) : 0 ≤ Go.bits .xor .i64 a b ∧ Go.bits .xor .i64 a b < 1099511627776 := by
  obtain ⟨x, rfl⟩ := Int.eq_ofNat_of_zero_le ha
  obtain ⟨y, rfl⟩ := Int.eq_ofNat_of_zero_le hb
  have hx : x < 2 ^ 40 := by have : (x : Int) < 1099511627776 := ha2; omega
  have hy : y < 2 ^ 40 := by have : (y : Int) < 1099511627776 := hb2; omega
  have hz : x ^^^ y < 2 ^ 40 := Nat.xor_lt_two_pow hx hy
  have e : Go.bits .xor .i64 (x : Int) (y : Int) = ((x ^^^ y : Nat) : Int) := by
    have hx' : x % 2 ^ IntKind.i64.bits = x := Nat.mod_eq_of_lt (Nat.lt_of_lt_of_le hx (Nat.pow_le_pow_right (by decide) (by decide)))
    have hy' : y % 2 ^ IntKind.i64.bits = y := Nat.mod_eq_of_lt (Nat.lt_of_lt_of_le hy (Nat.pow_le_pow_right (by decide) (by decide)))
    simp only [bits, BitVec.ofInt_natCast, BitVec.toNat_xor, BitVec.toNat_ofNat, hx', hy']
    rw [IntKind.wrap_i64]
    omega
  rw [e]
  omega
theorem tmod_in (x n : Int) (hx : 0 ≤ x) (hn : 1 ≤ n) : 0 ≤ Int.tmod x n ∧ Int.tmod x n < n := by
  rw [Int.tmod_eq_emod_of_nonneg hx]
  exact ⟨Int.emod_nonneg _ (by omega), Int.emod_lt_of_pos _ (by omega)⟩
theorem rd_byte {s : List Int} (hs : ∀ x ∈ s, 0 ≤ x ∧ x ≤ 255) (i : Int) : 0 ≤ rd s i ∧ rd s i ≤ 255 := by
  unfold rd
  by_cases h : i.toNat < s.length
  · exact hs _ (getD_mem h 0)
  · rw [List.getD_eq_getElem?_getD, List.getElem?_eq_none (by omega)]; simp
/-- The reader: what it draws lies in 0..n-1, and its place goes on by one. -/
theorem pick_ok {k : Nat} (hk : 1 ≤ k) {s : List Int} (hs : ∀ x ∈ s, 0 ≤ x ∧ x ≤ 255) (hl : s.length ≤ 2000) (p : Int) (hp : 0 ≤ p) (hp2 : p ≤ 1000000) (n : Int) :
    ∃ v, spec_l20Rd_pick.f k s p n = some (v, p + 1) ∧ 0 ≤ v ∧ (1 ≤ n → v < n) ∧ (n < 1 → v = 0) := by
  obtain ⟨k, rfl⟩ : ∃ m, k = m + 1 := ⟨k - 1, by omega⟩
  have hw : wrap64 (p + 1) = p + 1 := w64 (by omega) (by omega)
  unfold spec_l20Rd_pick.f
  by_cases hn : n < 1
  · refine ⟨0, ?_, by omega, by omega, fun _ => rfl⟩
    rw [if_pos hn, hw]
    simp only [spec_l20Rd_pick.j0]
    rw [if_pos trivial]
  · rw [if_neg hn, hw]
    simp only [spec_l20Rd_pick.j0]
    by_cases he : (s.length : Int) = 0
    · refine ⟨0, ?_, by omega, by omega, fun _ => rfl⟩
      rw [if_pos (by simpa using he)]
    · have hpp : wrap64 (p + 1 - 1) = p := by rw [w64 (by omega) (by omega)]; omega
      rw [if_neg (by simpa using he), hpp]
      have hn0 : ¬ n = 0 := by omega
      have hb := fun i => rd_byte hs i
      by_cases hlt : p < (s.length : Int)
      · have hr := hb p
        have hwr : wrap64 (rd s p) = rd s p := w64 (by omega) (by omega)
        rw [if_pos hlt, if_pos hp, if_neg hn0, hwr]
        have ht := tmod_in (rd s p) n hr.1 (by omega)
        exact ⟨_, rfl, ht.1, fun _ => ht.2, fun h => absurd h hn⟩
      · have hL : 1 ≤ (s.length : Int) := by omega
        have e7 : wrap64 (p * 7) = p * 7 := w64 (by omega) (by omega)
        have e73 : wrap64 (p * 7 + 3) = p * 7 + 3 := w64 (by omega) (by omega)
        have t1 := tmod_in p (s.length : Int) hp hL
        have t2 := tmod_in (p * 7 + 3) (s.length : Int) (by omega) hL
        have r1 := hb (Int.tmod p (s.length : Int))
        have r2 := hb (Int.tmod (p * 7 + 3) (s.length : Int))
        rw [if_neg hlt, if_neg he, if_pos t1.1, if_pos t1.2, e7, e73, if_pos t2.1, if_pos t2.2, if_neg hn0]
        generalize rd s (Int.tmod p (s.length : Int)) = a at *
        generalize rd s (Int.tmod (p * 7 + 3) (s.length : Int)) = b at *
        have hq : Int.tdiv p (s.length : Int) = p / (s.length : Int) := Int.tdiv_eq_ediv_of_nonneg hp
        have q0 : 0 ≤ p / (s.length : Int) := Int.ediv_nonneg hp (by omega)
        have q1 : p / (s.length : Int) ≤ p := Int.ediv_le_self _ hp
        rw [hq]
        generalize p / (s.length : Int) = q at *
        have ea : wrap64 a = a := w64 (by omega) (by omega)
        have eb : wrap64 b = b := w64 (by omega) (by omega)
        have ea2 : wrap64 (a * 131) = a * 131 := w64 (by omega) (by omega)
        have eb2 : wrap64 (b * 1117) = b * 1117 := w64 (by omega) (by omega)
        have ep : wrap64 (p * 29) = p * 29 := w64 (by omega) (by omega)
        have eq_ : wrap64 q = q := w64 (by omega) (by omega)
        have eq2 : wrap64 (q * 53) = q * 53 := w64 (by omega) (by omega)
        have e1 : wrap64 (a * 131 + b * 1117) = a * 131 + b * 1117 := w64 (by omega) (by omega)
        have e2 : wrap64 (a * 131 + b * 1117 + p * 29) = a * 131 + b * 1117 + p * 29 := w64 (by omega) (by omega)
        have e3 : wrap64 (a * 131 + b * 1117 + p * 29 + q * 53) = a * 131 + b * 1117 + p * 29 + q * 53 := w64 (by omega) (by omega)
        rw [ea, eb, ea2, eb2, ep, eq_, eq2, e1, e2, e3]
        have hX0 : 0 ≤ a * 131 + b * 1117 + p * 29 + q * 53 := by omega
        have hX1 : a * 131 + b * 1117 + p * 29 + q * 53 < 1099511627776 := by omega
        generalize a * 131 + b * 1117 + p * 29 + q * 53 = X at *
        have hd : Int.tdiv X 64 = X / 64 := Int.tdiv_eq_ediv_of_nonneg hX0
        have ed : wrap64 (X / 64) = X / 64 := w64 (by omega) (by omega)
        rw [hd, ed]
        have hx := xor_small X (X / 64) hX0 hX1 (by omega) (by omega)
        have ht := tmod_in (Go.bits .xor .i64 X (X / 64)) n hx.1 (by omega)
        exact ⟨_, rfl, ht.1, fun _ => ht.2, fun h => absurd h hn⟩
theorem odd_ok {k : Nat} (hk : 1 ≤ k) {s : List Int} (hs : ∀ x ∈ s, 0 ≤ x ∧ x ≤ 255) (hl : s.length ≤ 2000) (p : Int) (hp : 0 ≤ p) (hp2 : p ≤ 1000000) (n : Int) (hn : n ≤ 1000) :
    ∃ b q, spec_l20Rd_odd.f k s p n = some (b, q) ∧ p ≤ q ∧ q ≤ p + 1 ∧ (n ≤ 0 → b = false) := by
  unfold spec_l20Rd_odd.f
  by_cases h : n > 0
  · obtain ⟨v, hv, -⟩ := pick_ok hk hs hl p hp hp2 n
    rw [if_pos h, hv]
    exact ⟨_, _, rfl, by simp only; omega, by simp only; omega, fun hh => by omega⟩
  · rw [if_neg h]
    exact ⟨_, _, rfl, by omega, by omega, fun _ => rfl⟩
theorem open_ok {s : List Int} (hs : ∀ x ∈ s, 0 ≤ x ∧ x ≤ 255) : ∃ t, spec_l20Open.f s = some (t, 0) ∧ (∀ x ∈ t, 0 ≤ x ∧ x ≤ 255) ∧ t.length ≤ 2000 := by
  unfold spec_l20Open.f
  by_cases h : (s.length : Int) > 2000
  · rw [if_pos h, if_pos (by omega)]
    exact ⟨_, rfl, fun x hx => hs x (List.mem_of_mem_take hx), by rw [List.length_take]; omega⟩
  · rw [if_neg h]
    exact ⟨_, rfl, hs, by omega⟩
theorem bytes_of {l : List Int} (h : ∀ x ∈ l, (Lit.int .u8 x).wf = true) : ∀ x ∈ l, 0 ≤ x ∧ x ≤ 255 := by
  intro x hx
  have := h x hx
  simp only [Lit.wf, IntKind.min, IntKind.max, IntKind.signed, IntKind.bits, Bool.and_eq_true, decide_eq_true_eq, Bool.false_eq_true, if_false] at this
  omega

/-! l1in -/
theorem spec_l1In_is (a b c : Int) : spec_l1In.f a b c = some (decide (b ≤ a ∧ a ≤ c)) := by
  unfold spec_l1In.f
  by_cases h : a ≥ b
  · rw [if_pos h]
    congr 1
    apply decide_eq_decide.2
    omega
  · rw [if_neg h]
    congr 1
    symm
    exact decide_eq_false (by omega)

/-! customers -/
/-- Customers, as both texts ask: seen from a place on, with the one ahead. -/
def custFrom : Option S43 → List S43 → Bool
  | _, [] => true
  | none, c :: cs => decide (0 ≤ c.f0 ∧ c.f0 ≤ 60 ∧ 1 ≤ c.f1 ∧ c.f1 ≤ 9) && custFrom (some c) cs
  | some p, c :: cs => decide (0 ≤ c.f0 ∧ c.f0 ≤ 60 ∧ 1 ≤ c.f1 ∧ c.f1 ≤ 9 ∧ p.f0 ≤ c.f0) && custFrom (some c) cs
def custOk (l : List S43) : Bool := custFrom none l && decide (l.length ≤ 8)
theorem rd_Customer_nat (l : List S43) (i : Nat) : rd_T43 l (i : Int) = l.getD i z43 := by
  unfold rd_T43
  rw [Int.toNat_natCast]
theorem cust_bad {p : Option S43} {x : S43} {xs : List S43} (h : ¬ (0 ≤ x.f0 ∧ x.f0 ≤ 60 ∧ 1 ≤ x.f1 ∧ x.f1 ≤ 9)) : custFrom p (x :: xs) = false := by
  cases p with
  | none => simp only [custFrom, decide_eq_false h, Bool.false_and]
  | some q => simp only [custFrom, decide_eq_false (show ¬ (0 ≤ x.f0 ∧ x.f0 ≤ 60 ∧ 1 ≤ x.f1 ∧ x.f1 ≤ 9 ∧ q.f0 ≤ x.f0) from fun hh => h ⟨hh.1, hh.2.1, hh.2.2.1, hh.2.2.2.1⟩), Bool.false_and]
theorem cust_bad2 {p x : S43} {xs : List S43} (h : x.f0 < p.f0) : custFrom (some p) (x :: xs) = false := by
  simp only [custFrom, decide_eq_false (show ¬ (0 ≤ x.f0 ∧ x.f0 ≤ 60 ∧ 1 ≤ x.f1 ∧ x.f1 ≤ 9 ∧ p.f0 ≤ x.f0) from fun hh => by omega), Bool.false_and]
theorem impl_CustomersOk_loop (l : List S43) (hl : l.length ≤ 1048576) : ∀ (suf : List S43) (i k : Nat), l.drop i = suf → suf.length < k → i ≤ l.length →
    impl_CustomersOk.l0 k l l (l.length : Int) i = some (custFrom (if i = 0 then none else some (l.getD (i - 1) z43)) suf && decide (l.length ≤ 8)) := by
  intro suf
  induction suf with
  | nil =>
    intro i k hd hk hi
    obtain ⟨k, rfl⟩ : ∃ m, k = m + 1 := ⟨k - 1, by omega⟩
    have := drop_nil hd
    simp only [impl_CustomersOk.l0]
    rw [if_neg (by omega)]
    congr 1
    have e : (decide ((l.length : Int) ≤ 8)) = decide (l.length ≤ 8) := decide_eq_decide.2 (by omega)
    rw [e]
    split <;> simp [custFrom]
  | cons x xs ih =>
    intro i k hd hk hi
    obtain ⟨k, rfl⟩ : ∃ m, k = m + 1 := ⟨k - 1, by omega⟩
    obtain ⟨hlt, hd2, hx⟩ := drop_split hd
    simp only [impl_CustomersOk.l0]
    rw [if_pos (by omega), if_pos (by omega), if_pos (by omega), rd_Customer_nat, hx, w64s i (by omega), ih (i + 1) k hd2 (by simp at hk; omega) (by omega)]
    rw [if_neg (show ¬ i + 1 = 0 by omega), show i + 1 - 1 = i from rfl, hx]
    by_cases h1 : x.f0 < 0
    · rw [if_pos h1, cust_bad (by omega), Bool.false_and]
    rw [if_neg h1]
    by_cases h2 : x.f0 > 60
    · rw [if_pos h2, cust_bad (by omega), Bool.false_and]
    rw [if_neg h2]
    by_cases hi0 : i = 0
    · subst hi0
      rw [if_neg (by omega)]
      by_cases h3 : x.f1 < 1
      · rw [if_pos h3, cust_bad (by omega), Bool.false_and]
      rw [if_neg h3]
      by_cases h4 : x.f1 > 9
      · rw [if_pos h4, cust_bad (by omega), Bool.false_and]
      rw [if_neg h4, if_pos rfl]
      have e : decide (0 ≤ x.f0 ∧ x.f0 ≤ 60 ∧ 1 ≤ x.f1 ∧ x.f1 ≤ 9) = true := decide_eq_true (by omega)
      simp only [custFrom, e, Bool.true_and]
    · rw [if_pos (by omega), show wrap64 ((i : Int) - 1) = ((i - 1 : Nat) : Int) from by rw [w64 (by omega) (by omega)]; omega, if_pos (by omega), if_pos (by omega), rd_Customer_nat, if_neg hi0]
      by_cases h5 : x.f0 < (l.getD (i - 1) z43).f0
      · rw [if_pos h5, cust_bad2 h5, Bool.false_and]
      rw [if_neg h5]
      by_cases h3 : x.f1 < 1
      · rw [if_pos h3, cust_bad (by omega), Bool.false_and]
      rw [if_neg h3]
      by_cases h4 : x.f1 > 9
      · rw [if_pos h4, cust_bad (by omega), Bool.false_and]
      rw [if_neg h4]
      have e : decide (0 ≤ x.f0 ∧ x.f0 ≤ 60 ∧ 1 ≤ x.f1 ∧ x.f1 ≤ 9 ∧ (l.getD (i - 1) z43).f0 ≤ x.f0) = true := decide_eq_true (by omega)
      simp only [custFrom, e, Bool.true_and]
theorem impl_CustomersOk_is (l : List S43) (hl : l.length ≤ 1048576) (k : Nat) (hk : l.length < k) : impl_CustomersOk.f k l = some (custOk l) := by
  unfold impl_CustomersOk.f
  exact impl_CustomersOk_loop l hl l 0 k rfl hk (by omega)

/-! custspec -/
theorem spec_CustomersOk_loop (l : List S43) (hl : l.length ≤ 1048576) : ∀ (suf : List S43) (i k : Nat), l.drop i = suf → suf.length < k → i ≤ l.length →
    spec_CustomersOk.l0 k l i = some (custFrom (if i = 0 then none else some (l.getD (i - 1) z43)) suf && decide (l.length ≤ 8)) := by
  intro suf
  induction suf with
  | nil =>
    intro i k hd hk hi
    obtain ⟨k, rfl⟩ : ∃ m, k = m + 1 := ⟨k - 1, by omega⟩
    have := drop_nil hd
    simp only [spec_CustomersOk.l0]
    rw [if_neg (by omega)]
    congr 1
    have e : (decide ((l.length : Int) ≤ 8)) = decide (l.length ≤ 8) := decide_eq_decide.2 (by omega)
    rw [e]
    split <;> simp [custFrom]
  | cons x xs ih =>
    intro i k hd hk hi
    obtain ⟨k, rfl⟩ : ∃ m, k = m + 1 := ⟨k - 1, by omega⟩
    obtain ⟨hlt, hd2, hx⟩ := drop_split hd
    simp only [spec_CustomersOk.l0]
    rw [if_pos (by omega), if_pos (by omega), rd_Customer_nat, hx, spec_l1In_is, spec_l1In_is, w64s i (by omega), ih (i + 1) k hd2 (by simp at hk; omega) (by omega)]
    simp only [Option.bind_some, decide_eq_true_eq]
    rw [if_neg (show ¬ i + 1 = 0 by omega), show i + 1 - 1 = i from rfl, hx]
    by_cases h1 : 0 ≤ x.f0 ∧ x.f0 ≤ 60
    · rw [if_pos h1]
      by_cases h2 : 1 ≤ x.f1 ∧ x.f1 ≤ 9
      · rw [if_pos h2]
        by_cases hi0 : i = 0
        · subst hi0
          rw [if_neg (by omega), if_pos rfl]
          have e : decide (0 ≤ x.f0 ∧ x.f0 ≤ 60 ∧ 1 ≤ x.f1 ∧ x.f1 ≤ 9) = true := decide_eq_true (by omega)
          simp only [custFrom, e, Bool.true_and]
        · rw [if_pos (by omega), show wrap64 ((i : Int) - 1) = ((i - 1 : Nat) : Int) from by rw [w64 (by omega) (by omega)]; omega, if_pos (by omega), if_pos (by omega), rd_Customer_nat, if_neg hi0]
          by_cases h5 : x.f0 < (l.getD (i - 1) z43).f0
          · rw [if_pos h5, cust_bad2 h5, Bool.false_and]
          rw [if_neg h5]
          have e : decide (0 ≤ x.f0 ∧ x.f0 ≤ 60 ∧ 1 ≤ x.f1 ∧ x.f1 ≤ 9 ∧ (l.getD (i - 1) z43).f0 ≤ x.f0) = true := decide_eq_true (by omega)
          simp only [custFrom, e, Bool.true_and]
      · rw [if_neg h2, cust_bad (by omega), Bool.false_and]
    · rw [if_neg h1, cust_bad (by omega), Bool.false_and]
theorem spec_CustomersOk_is (l : List S43) (hl : l.length ≤ 1048576) (k : Nat) (hk : l.length < k) : spec_CustomersOk.f k l = some (custOk l) := by
  unfold spec_CustomersOk.f
  exact spec_CustomersOk_loop l hl l 0 k rfl hk (by omega)

/-! custfacts -/
theorem custFrom_tail {p : Option S43} {x : S43} {xs : List S43} (h : custFrom p (x :: xs) = true) : (0 ≤ x.f0 ∧ x.f0 ≤ 60 ∧ 1 ≤ x.f1 ∧ x.f1 ≤ 9) ∧ custFrom (some x) xs = true ∧ ∀ q, p = some q → q.f0 ≤ x.f0 := by
  cases p with
  | none =>
    simp only [custFrom, Bool.and_eq_true, decide_eq_true_eq] at h
    exact ⟨h.1, h.2, fun q e => by cases e⟩
  | some q =>
    simp only [custFrom, Bool.and_eq_true, decide_eq_true_eq] at h
    exact ⟨⟨h.1.1, h.1.2.1, h.1.2.2.1, h.1.2.2.2.1⟩, h.2, fun q' e => by cases e; exact h.1.2.2.2.2⟩
theorem custFrom_mem {l : List S43} : ∀ {p : Option S43}, custFrom p l = true → ∀ c ∈ l, 0 ≤ c.f0 ∧ c.f0 ≤ 60 ∧ 1 ≤ c.f1 ∧ c.f1 ≤ 9 := by
  induction l with
  | nil => intro p _ c hc; cases hc
  | cons x xs ih =>
    intro p h c hc
    obtain ⟨h1, h2, -⟩ := custFrom_tail h
    rcases List.mem_cons.1 hc with rfl | hc
    · exact h1
    · exact ih h2 c hc
theorem custFrom_le {l : List S43} : ∀ {p : S43}, custFrom (some p) l = true → ∀ c ∈ l, p.f0 ≤ c.f0 := by
  induction l with
  | nil => intro p _ c hc; cases hc
  | cons x xs ih =>
    intro p h c hc
    obtain ⟨h1, h2, h3⟩ := custFrom_tail h
    have hp := h3 p rfl
    rcases List.mem_cons.1 hc with rfl | hc
    · exact hp
    · have := ih h2 c hc; omega
theorem custOk_from {l : List S43} (h : custOk l = true) : custFrom none l = true := by
  unfold custOk at h
  rw [Bool.and_eq_true] at h
  exact h.1
theorem custOk_len {l : List S43} (h : custOk l = true) : l.length ≤ 8 := by
  unfold custOk at h
  rw [Bool.and_eq_true] at h
  exact of_decide_eq_true h.2
theorem custOk_mem {l : List S43} (h : custOk l = true) : ∀ c ∈ l, 0 ≤ c.f0 ∧ c.f0 ≤ 60 ∧ 1 ≤ c.f1 ∧ c.f1 ≤ 9 := custFrom_mem (custOk_from h)
theorem custFrom_adj {l : List S43} : ∀ {p : Option S43}, custFrom p l = true → ∀ i, i + 1 < l.length → (l.getD i z43).f0 ≤ (l.getD (i + 1) z43).f0 := by
  induction l with
  | nil => intro p _ i h; simp at h
  | cons x xs ih =>
    intro p h i hi
    obtain ⟨h1, h2, -⟩ := custFrom_tail h
    cases i with
    | zero => exact custFrom_le h2 (xs.getD 0 z43) (getD_mem (by simpa using hi) _)
    | succ i => exact ih h2 i (by simpa using hi)

/-! alive -/
theorem alive_is (k : Nat) (hk : 2 ≤ k) : laws_alive.f k = some true := by
  unfold laws_alive.f
  rw [impl_CustomersOk_is _ (by simp) k (by simp; omega)]
  simp only [Option.bind_some]
  rw [if_pos (by decide), impl_CustomersOk_is _ (by simp) k (by simp; omega)]
  rfl

/-! drawcust -/
theorem l20Customers_loop {s : List Int} (hs : ∀ x ∈ s, 0 ≤ x ∧ x ≤ 255) (hl : s.length ≤ 2000) (m wide high : Int) (hm : m ≤ 1000) : ∀ (d : Nat) (k : Nat) (l : List S43) (t p : Int), d + 2 ≤ k → 0 ≤ p → p + 2 * d + 4 ≤ 1000000 → l.length + d ≤ 100 →
    ∃ r q, spec_l20Customers.l0 k m l t wide high d s p = some (r, q) ∧ r.length ≤ 200 ∧ p ≤ q ∧ q ≤ p + 2 * d + 4 := by
  intro d
  induction d with
  | zero =>
    intro k l t p hk hp hp2 hll
    obtain ⟨k, rfl⟩ : ∃ m, k = m + 1 := ⟨k - 1, by omega⟩
    simp only [spec_l20Customers.l0]
    rw [if_neg (by omega)]
    obtain ⟨b, q, e, hq1, hq2, -⟩ := odd_ok (k := k) (by omega) hs hl p hp (by omega) m hm
    rw [e]; simp only [Option.bind_some]
    cases b with
    | false => rw [if_neg (by simp)]; exact ⟨_, _, rfl, by omega, by omega, by omega⟩
    | true =>
      rw [if_pos rfl]
      obtain ⟨v, e2, hv⟩ := pick_ok (k := k) (by omega) hs hl q (by omega) (by omega) 3
      rw [e2]; simp only [Option.bind_some]
      by_cases v0 : v = 0
      · rw [if_pos v0]; exact ⟨_, _, rfl, by simp, by omega, by omega⟩
      · rw [if_neg v0]
        by_cases v1 : v = 1
        · rw [if_pos v1, if_pos (by omega)]; exact ⟨_, _, rfl, by rw [List.length_append]; simp; omega, by omega, by omega⟩
        · rw [if_neg v1]
          obtain ⟨v2, e3, hv2, hv3, -⟩ := pick_ok (k := k) (by omega) hs hl (q + 1) (by omega) (by omega) 2
          have hv3 := hv3 (by omega)
          rw [e3]; simp only [Option.bind_some]
          rw [if_pos hv2, if_pos (by simp; omega)]
          exact ⟨_, _, rfl, by simp, by omega, by omega⟩
  | succ d ih =>
    intro k l t p hk hp hp2 hll
    obtain ⟨k, rfl⟩ : ∃ m, k = m + 1 := ⟨k - 1, by omega⟩
    simp only [spec_l20Customers.l0]
    rw [if_pos (by omega)]
    obtain ⟨v, e, -⟩ := pick_ok (k := k) (by omega) hs hl p hp (by omega) high
    rw [e]; simp only [Option.bind_some]
    rw [if_pos (by omega)]
    obtain ⟨v2, e2, -⟩ := pick_ok (k := k) (by omega) hs hl (p + 1) (by omega) (by omega) (wrap64 (wide + 1))
    rw [e2]; simp only [Option.bind_some]
    rw [show wrap64 (((d + 1 : Nat) : Int) - 1) = (d : Int) from by rw [w64 (by omega) (by omega)]; omega]
    obtain ⟨r, q, e3, h1, h2, h3⟩ := ih k (l ++ [⟨t, wrap64 (1 + v)⟩]) (wrap64 (t + v2)) (p + 1 + 1) (by omega) (by omega) (by omega) (by rw [List.length_append]; simp; omega)
    exact ⟨r, q, e3, h1, by omega, by omega⟩
theorem l20Customers_ok {s : List Int} (hs : ∀ x ∈ s, 0 ≤ x ∧ x ≤ 255) (hl : s.length ≤ 2000) (m : Int) (hm : m ≤ 1000) (k : Nat) (hk : 20 ≤ k) (p : Int) (hp : 0 ≤ p) (hp2 : p ≤ 100000) :
    ∃ r q, spec_l20Customers.f k s p m = some (r, q) ∧ r.length ≤ 200 ∧ p ≤ q ∧ q ≤ p + 30 := by
  unfold spec_l20Customers.f
  obtain ⟨v0, e0, -⟩ := pick_ok (k := k) (by omega) hs hl p hp (by omega) 3
  rw [e0]; simp only [Option.bind_some]
  obtain ⟨v, e, -⟩ := pick_ok (k := k) (by omega) hs hl (p + 1) (by omega) (by omega) 5
  rw [e]; simp only [Option.bind_some]
  obtain ⟨v1, e1, h10, h11, -⟩ := pick_ok (k := k) (by omega) hs hl (p + 1 + 1) (by omega) (by omega) 2
  have h11 := h11 (by omega)
  rw [e1]; simp only [Option.bind_some]
  rw [if_pos h10, if_pos (by simp; omega)]
  obtain ⟨v2, e2, hv2, hv3, -⟩ := pick_ok (k := k) (by omega) hs hl (p + 1 + 1 + 1) (by omega) (by omega) 9
  have hv3 := hv3 (by omega)
  rw [e2]; simp only [Option.bind_some]
  obtain ⟨r, q, e3, h1, h2, h3⟩ := l20Customers_loop hs hl m (wrap64 (1 + v)) (rd [3, 9] v1) hm v2.toNat k [] v0 (p + 1 + 1 + 1 + 1) (by omega) (by omega) (by omega) (by simp only [List.length_nil]; omega)
  rw [show ((v2.toNat : Nat) : Int) = v2 from by omega] at e3
  exact ⟨r, q, e3, h1, by omega, by omega⟩

/-! orders -/
/-! Orders: for each unit of time who is served. -/
def needs (l : List S43) : List Int := l.map (·.f1)
def servedOne (left : List Int) (w : Int) : List Int := if 0 ≤ w then left.set w.toNat (left.getD w.toNat 0 - 1) else left
def okI (l : List S43) : List Int → Int → List Int → Bool
  | left, _, [] => left.all (fun n => decide (n = 0))
  | left, t, w :: ws => decide (-1 ≤ w ∧ w < (l.length : Int) ∧ (0 ≤ w → (l.getD w.toNat z43).f0 ≤ t)) && okI l (servedOne left w) (t + 1) ws
def orderOk (l : List S43) (order : List Int) : Bool := custOk l && (decide (order.length ≤ 200) && okI l (needs l) 0 order)
theorem orderOk_parts {l : List S43} {order : List Int} (h : orderOk l order = true) : custOk l = true ∧ order.length ≤ 200 ∧ okI l (needs l) 0 order = true := by
  unfold orderOk at h
  rw [Bool.and_eq_true, Bool.and_eq_true, decide_eq_true_eq] at h
  exact h
theorem needs_length (l : List S43) : (needs l).length = l.length := by unfold needs; rw [List.length_map]
theorem servedOne_length (left : List Int) (w : Int) : (servedOne left w).length = left.length := by
  unfold servedOne; split
  · rw [List.length_set]
  · rfl
theorem needs_get (l : List S43) (i : Nat) : (needs l).getD i 0 = (l.getD i z43).f1 := by
  unfold needs
  rw [List.getD_eq_getElem?_getD, List.getD_eq_getElem?_getD, List.getElem?_map]
  cases l[i]? <;> rfl
theorem getD_set_eq {α : Type} (X : List α) (i : Nat) (v d : α) (h : i < X.length) : (X.set i v).getD i d = v := by
  rw [getD_lt (by rw [List.length_set]; exact h), List.getElem_set_self]
theorem getD_set_ne {α : Type} (X : List α) (i j : Nat) (v d : α) (h : i ≠ j) : (X.set i v).getD j d = X.getD j d := by
  rw [List.getD_eq_getElem?_getD, List.getElem?_set_ne h, List.getD_eq_getElem?_getD]
/-- How often one is served. -/
def cntW (w : Int) : List Int → Int
  | [] => 0
  | x :: xs => (if x = w then 1 else 0) + cntW w xs
theorem cntW_append (w : Int) (a b : List Int) : cntW w (a ++ b) = cntW w a + cntW w b := by
  induction a with
  | nil => simp [cntW]
  | cons x xs ih => simp only [List.cons_append, cntW, ih]; omega
theorem cntW_bound (w : Int) (a : List Int) : 0 ≤ cntW w a ∧ cntW w a ≤ a.length := by
  induction a with
  | nil => simp [cntW]
  | cons x xs ih => simp only [cntW, List.length_cons]; split <;> omega
theorem okI_cnt (l : List S43) : ∀ (ws left : List Int) (t : Int), left.length = l.length → okI l left t ws = true → ∀ i, i < left.length → left.getD i 0 = cntW (i : Int) ws := by
  intro ws
  induction ws with
  | nil =>
    intro left t hl h i hi
    simp only [okI, List.all_eq_true, decide_eq_true_eq] at h
    simp only [cntW]
    exact h _ (getD_mem hi _)
  | cons w ws ih =>
    intro left t hl h i hi
    simp only [okI, Bool.and_eq_true, decide_eq_true_eq] at h
    obtain ⟨⟨h1, h2, -⟩, h4⟩ := h
    have := ih (servedOne left w) (t + 1) (by rw [servedOne_length]; exact hl) h4 i (by rw [servedOne_length]; exact hi)
    simp only [cntW]
    rw [← this]
    unfold servedOne
    by_cases hw : 0 ≤ w
    · rw [if_pos hw]
      by_cases e : w = (i : Int)
      · rw [if_pos e, show w.toNat = i from by omega, getD_set_eq _ _ _ _ hi]; omega
      · rw [if_neg e, getD_set_ne _ _ _ _ _ (by omega)]; omega
    · rw [if_neg hw, if_neg (by omega)]; omega
theorem orderOk_cnt {l : List S43} {order : List Int} (h : orderOk l order = true) (i : Nat) (hi : i < l.length) : cntW (i : Int) order = (l.getD i z43).f1 := by
  obtain ⟨-, -, h3⟩ := orderOk_parts h
  rw [← okI_cnt l order (needs l) 0 (needs_length l) h3 i (by rw [needs_length]; exact hi), needs_get]
theorem okI_neg (l : List S43) : ∀ (ws left : List Int) (t : Int), left.length = l.length → (∃ i, i < left.length ∧ left.getD i 0 < 0) → okI l left t ws = false := by
  intro ws left t hl ⟨i, hi, hneg⟩
  by_cases h : okI l left t ws = true
  · have := okI_cnt l ws left t hl h i hi
    have := cntW_bound (i : Int) ws
    omega
  · simpa using h
theorem needs_bound {l : List S43} (hok : custOk l = true) : ∀ x ∈ needs l, 0 ≤ x ∧ x ≤ 9 := by
  intro x hx
  unfold needs at hx
  obtain ⟨c, hc, rfl⟩ := List.mem_map.1 hx
  have := custOk_mem hok c hc
  omega

/-! leftof -/
theorem impl_leftOf_loop (l : List S43) (hl : l.length ≤ 1048576) : ∀ (suf : List S43) (i k : Nat) (out : List Int), l.drop i = suf → suf.length < k → i ≤ l.length → out.length ≤ i → impl_leftOf.l0 k out l (l.length : Int) i = some (out ++ needs suf) := by
  intro suf
  induction suf with
  | nil =>
    intro i k out hd hk hi ho
    obtain ⟨k, rfl⟩ : ∃ m, k = m + 1 := ⟨k - 1, by omega⟩
    have := drop_nil hd
    simp only [impl_leftOf.l0]
    rw [if_neg (by omega)]
    simp [needs]
  | cons x xs ih =>
    intro i k out hd hk hi ho
    obtain ⟨k, rfl⟩ : ∃ m, k = m + 1 := ⟨k - 1, by omega⟩
    obtain ⟨hlt, hd2, hx⟩ := drop_split hd
    simp only [impl_leftOf.l0]
    rw [if_pos (by omega), if_pos (by omega), if_pos (by omega), if_pos (by omega), rd_Customer_nat, hx, w64s i (by omega)]
    rw [ih (i + 1) k _ hd2 (by simp at hk; omega) (by omega) (by rw [List.length_append]; simp; omega)]
    simp [needs]
theorem impl_leftOf_is (l : List S43) (hl : l.length ≤ 1048576) (k : Nat) (hk : l.length < k) : impl_leftOf.f k l = some (needs l) := by
  unfold impl_leftOf.f
  exact impl_leftOf_loop l hl l 0 k [] rfl hk (by omega) (by simp)

/-! orderok -/
theorem impl_OrderOk_end (left : List Int) (hl : left.length ≤ 1048576) : ∀ (suf : List Int) (i k : Nat), left.drop i = suf → suf.length < k → i ≤ left.length → impl_OrderOk.l1 k left (left.length : Int) i = some (suf.all (fun n => decide (n = 0))) := by
  intro suf
  induction suf with
  | nil =>
    intro i k hd hk hi
    obtain ⟨k, rfl⟩ : ∃ m, k = m + 1 := ⟨k - 1, by omega⟩
    have := drop_nil hd
    simp only [impl_OrderOk.l1]
    rw [if_neg (by omega)]
    rfl
  | cons x xs ih =>
    intro i k hd hk hi
    obtain ⟨k, rfl⟩ : ∃ m, k = m + 1 := ⟨k - 1, by omega⟩
    obtain ⟨hlt, hd2, hx⟩ := drop_split hd
    simp only [impl_OrderOk.l1]
    rw [if_pos (by omega), if_pos (by omega), if_pos (by omega), rd_nat, hx, w64s i (by omega), ih (i + 1) k hd2 (by simp at hk; omega) (by omega)]
    by_cases h : x = 0
    · rw [if_pos h, h]; simp
    · rw [if_neg h]; simp [h]
theorem servedOne_bound {left : List Int} {w : Int} {B : Int} (h : ∀ x ∈ left, -B ≤ x ∧ x ≤ 9) (hw : w.toNat < left.length) : ∀ x ∈ servedOne left w, -(B + 1) ≤ x ∧ x ≤ 9 := by
  intro x hx
  unfold servedOne at hx
  split at hx
  · rcases List.mem_or_eq_of_mem_set hx with hx | hx
    · have := h x hx; omega
    · have := h _ (getD_mem hw 0); omega
  · have := h x hx; omega
theorem impl_OrderOk_loop (l : List S43) (h8 : l.length ≤ 8) (order : List Int) (ho : order.length ≤ 200) : ∀ (suf : List Int) (i k : Nat) (left : List Int), order.drop i = suf → 2 * suf.length + 20 ≤ k → i ≤ order.length → left.length = l.length → (∀ x ∈ left, -(i : Int) ≤ x ∧ x ≤ 9) →
    impl_OrderOk.l0 k l left order (order.length : Int) i = some (okI l left i suf) := by
  intro suf
  induction suf with
  | nil =>
    intro i k left hd hk hi hl hb
    obtain ⟨k, rfl⟩ : ∃ m, k = m + 1 := ⟨k - 1, by omega⟩
    have := drop_nil hd
    simp only [impl_OrderOk.l0]
    rw [if_neg (by omega)]
    exact impl_OrderOk_end left (by omega) left 0 k rfl (by omega) (by omega)
  | cons w ws ih =>
    intro i k left hd hk hi hl hb
    obtain ⟨k, rfl⟩ : ∃ m, k = m + 2 := ⟨k - 2, by omega⟩
    obtain ⟨hlt, hd2, hx⟩ := drop_split hd
    simp only [List.length_cons] at hk
    simp only [impl_OrderOk.l0, impl_OrderOk.j2, okI]
    rw [if_pos (by omega), if_pos (by omega), if_pos (by omega), rd_nat, hx]
    by_cases h1 : w < -1
    · rw [if_pos h1, decide_eq_false (by omega), Bool.false_and, if_pos trivial]
    rw [if_neg h1]
    by_cases h2 : w ≥ (l.length : Int)
    · rw [if_pos h2, decide_eq_false (by omega), Bool.false_and, if_pos trivial]
    rw [if_neg h2]
    have hih := ih (i + 1) k (servedOne left w) hd2 (by omega) (by omega) (by rw [servedOne_length]; exact hl)
    by_cases h3 : w ≥ 0
    · have hwl : w.toNat < left.length := by omega
      have hwb := hb (left.getD w.toNat 0) (getD_mem hwl _)
      have hih2 := hih (by have := servedOne_bound hb hwl; intro x hx; have := this x hx; omega)
      have e : servedOne left w = left.set w.toNat (wrap64 (rd left w - 1)) := by
        unfold servedOne rd
        rw [if_pos h3, show wrap64 (left.getD w.toNat 0 - 1) = left.getD w.toNat 0 - 1 from w64 (by omega) (by omega)]
      rw [if_pos h3, if_pos (show (0 : Int) ≤ w by omega), if_pos (show w < (l.length : Int) by omega), if_pos (show w < (left.length : Int) by omega), ← e, w64s i (by omega), hih2, if_pos h3]
      rw [show rd_T43 l w = l.getD w.toNat z43 from rfl]
      rw [show ((i + 1 : Nat) : Int) = (i : Int) + 1 from by omega]
      by_cases h4 : (l.getD w.toNat z43).f0 > (i : Int)
      · rw [if_pos (by simpa using h4), decide_eq_false (by intro h; have := h.2.2 h3; omega), Bool.false_and]
      · rw [if_neg (by simpa using h4), decide_eq_true ⟨by omega, by omega, fun _ => by omega⟩, Bool.true_and]
        (try simp); (try omega)
    · have e : servedOne left w = left := by unfold servedOne; rw [if_neg h3]
      rw [e] at hih ⊢
      have hih2 := hih (fun x hx => by have := hb x hx; omega)
      rw [if_neg h3, if_neg (by simp), if_neg h3, w64s i (by omega), hih2, decide_eq_true ⟨by omega, by omega, fun h => absurd h h3⟩, Bool.true_and]
      rw [show ((i + 1 : Nat) : Int) = (i : Int) + 1 from by omega]
theorem impl_OrderOk_is (l : List S43) (order : List Int) (hl : l.length ≤ 1048576) (k : Nat) (hk : l.length + 430 ≤ k) : impl_OrderOk.f k l order = some (orderOk l order) := by
  obtain ⟨k, rfl⟩ : ∃ m, k = m + 1 := ⟨k - 1, by omega⟩
  have neg : impl_OrderOk.j0 (k + 1) l order true = some false := by simp [impl_OrderOk.j0]
  unfold impl_OrderOk.f orderOk
  rw [impl_CustomersOk_is l hl (k + 1) (by omega), neg]
  simp only [Option.bind_some]
  by_cases hok : custOk l = true
  · have h8 := custOk_len hok
    rw [if_pos hok, hok, Bool.true_and]
    by_cases h2 : (order.length : Int) > 200
    · rw [decide_eq_true h2, neg, decide_eq_false (by omega), Bool.false_and]
    · rw [decide_eq_false h2]
      simp only [impl_OrderOk.j0]
      rw [if_neg (by simp), impl_leftOf_is l hl k (by omega)]
      simp only [Option.bind_some]
      rw [decide_eq_true (by omega), Bool.true_and]
      exact impl_OrderOk_loop l h8 order (by omega) order 0 k (needs l) rfl (by omega) (by omega) (needs_length l) (fun x hx => by have := needs_bound hok x hx; omega)
  · rw [if_neg hok, Bool.not_eq_true _ |>.mp hok, Bool.false_and]

/-! orderok_spec -/
def okS (l : List S43) (fin : Bool) : List Int → Int → List Int → Bool
  | left, _, [] => left.all (fun n => decide (n ≤ 0)) && fin
  | left, t, w :: ws => if -1 ≤ w ∧ w ≤ (l.length : Int) - 1 then (if 0 ≤ w then (if (l.getD w.toNat z43).f0 ≤ t ∧ ¬ left.getD w.toNat 0 = 0 then okS l fin (left.set w.toNat (wrap64 (left.getD w.toNat 0 - 1))) (t + 1) ws else false) else okS l fin left (t + 1) ws) else false
theorem okS_false (l : List S43) : ∀ (ws left : List Int) (t : Int), okS l false left t ws = false := by
  intro ws
  induction ws with
  | nil => intro left t; simp [okS]
  | cons w ws ih => intro left t; simp only [okS, ih]; split <;> (try split) <;> (try split) <;> rfl
theorem okS_okI (l : List S43) (fin : Bool) : ∀ (ws left : List Int) (t : Int), left.length = l.length → (∀ x ∈ left, 0 ≤ x ∧ x ≤ 9) → okS l fin left t ws = (okI l left t ws && fin) := by
  intro ws
  induction ws with
  | nil =>
    intro left t hl hb
    simp only [okS, okI]
    congr 1
    rw [Bool.eq_iff_iff, List.all_eq_true, List.all_eq_true]
    simp only [decide_eq_true_eq]
    constructor
    · intro h x hx; have := h x hx; have := hb x hx; omega
    · intro h x hx; have := h x hx; omega
  | cons w ws ih =>
    intro left t hl hb
    simp only [okS, okI]
    by_cases h1 : -1 ≤ w ∧ w ≤ (l.length : Int) - 1
    · rw [if_pos h1]
      by_cases h2 : 0 ≤ w
      · have hwl : w.toNat < left.length := by omega
        have hwb := hb _ (getD_mem hwl 0)
        rw [if_pos h2]
        by_cases h3 : (l.getD w.toNat z43).f0 ≤ t
        · rw [decide_eq_true ⟨h1.1, by omega, fun _ => h3⟩, Bool.true_and]
          by_cases h4 : left.getD w.toNat 0 = 0
          · rw [if_neg (fun h => h.2 h4)]
            rw [okI_neg l ws (servedOne left w) (t + 1) (by rw [servedOne_length]; exact hl) ⟨w.toNat, by rw [servedOne_length]; exact hwl, by unfold servedOne; rw [if_pos h2, getD_set_eq _ _ _ _ hwl]; omega⟩, Bool.false_and]
          · rw [if_pos ⟨h3, h4⟩, show wrap64 (left.getD w.toNat 0 - 1) = left.getD w.toNat 0 - 1 from w64 (by omega) (by omega)]
            rw [ih _ (t + 1) (by rw [List.length_set]; exact hl) ?_]
            · unfold servedOne; rw [if_pos h2]
            · intro x hx
              rcases List.mem_or_eq_of_mem_set hx with hx | hx
              · exact hb x hx
              · omega
        · rw [if_neg (fun h => h3 h.1), decide_eq_false (fun h => h3 (h.2.2 h2)), Bool.false_and, Bool.false_and]
      · rw [if_neg h2, ih left (t + 1) hl hb, decide_eq_true ⟨h1.1, by omega, fun h => absurd h h2⟩, Bool.true_and]
        unfold servedOne; rw [if_neg h2]
    · rw [if_neg h1, decide_eq_false (by omega), Bool.false_and, Bool.false_and]
theorem spec_OrderOk_left (l : List S43) (order : List Int) (hl : l.length ≤ 1048576) (r : Bool) (K : Nat) (hnext : ∀ k, K ≤ k → spec_OrderOk.l1 k l order (needs l) 0 = some r) : ∀ (suf : List S43) (i k : Nat) (out : List Int), l.drop i = suf → K + suf.length + 1 ≤ k → i ≤ l.length → out = needs (l.take i) → spec_OrderOk.l0 k l order out i = some r := by
  intro suf
  induction suf with
  | nil =>
    intro i k out hd hk hi ho
    obtain ⟨k, rfl⟩ : ∃ m, k = m + 1 := ⟨k - 1, by omega⟩
    have := drop_nil hd
    simp only [spec_OrderOk.l0]
    rw [if_neg (by omega), ho, List.take_of_length_le (by omega)]
    exact hnext k (by simp at hk; omega)
  | cons x xs ih =>
    intro i k out hd hk hi ho
    obtain ⟨k, rfl⟩ : ∃ m, k = m + 1 := ⟨k - 1, by omega⟩
    obtain ⟨hlt, hd2, hx⟩ := drop_split hd
    simp only [spec_OrderOk.l0]
    have hol : out.length = i := by rw [ho, needs_length, List.length_take]; omega
    rw [if_pos (by omega), if_pos (by omega), if_pos (by omega), rd_Customer_nat, hx, w64s i (by omega)]
    exact ih (i + 1) k _ hd2 (by simp at hk; omega) (by omega) (by rw [ho, take_succ_getD hlt z43, hx]; simp [needs])
theorem spec_OrderOk_end (l : List S43) (order : List Int) (hl : l.length ≤ 1048576) (left : List Int) (hll : left.length = l.length) : ∀ (suf : List Int) (i k : Nat), left.drop i = suf → l.length + suf.length + 1 < k → i ≤ left.length → spec_OrderOk.l2 k l order left i = some (suf.all (fun n => decide (n ≤ 0)) && (custOk l && decide (order.length ≤ 200))) := by
  intro suf
  induction suf with
  | nil =>
    intro i k hd hk hi
    obtain ⟨k, rfl⟩ : ∃ m, k = m + 1 := ⟨k - 1, by omega⟩
    have := drop_nil hd
    simp only [spec_OrderOk.l2]
    rw [if_neg (by omega), spec_CustomersOk_is l hl k (by simp at hk; omega)]
    simp only [Option.bind_some, List.all_nil, Bool.true_and]
    have e : (decide ((order.length : Int) ≤ 200)) = decide (order.length ≤ 200) := decide_eq_decide.2 (by omega)
    by_cases h : custOk l = true
    · rw [if_pos h, h, e, Bool.true_and]
    · rw [if_neg h, Bool.not_eq_true _ |>.mp h, Bool.false_and]
  | cons x xs ih =>
    intro i k hd hk hi
    obtain ⟨k, rfl⟩ : ∃ m, k = m + 1 := ⟨k - 1, by omega⟩
    obtain ⟨hlt, hd2, hx⟩ := drop_split hd
    simp only [spec_OrderOk.l2]
    rw [if_pos (by omega), if_pos (by omega), rd_nat, hx, w64s i (by omega), ih (i + 1) k hd2 (by simp at hk; omega) (by omega)]
    by_cases h : x > 0
    · rw [if_pos h, List.all_cons, decide_eq_false (show ¬ x ≤ 0 by omega), Bool.false_and, Bool.false_and]
    · rw [if_neg h, List.all_cons, decide_eq_true (show x ≤ 0 by omega), Bool.true_and]
theorem spec_OrderOk_loop (l : List S43) (order : List Int) (hl : l.length ≤ 1048576) (ho : order.length ≤ 1048576) : ∀ (suf : List Int) (i k : Nat) (left : List Int), order.drop i = suf → 2 * suf.length + 2 * l.length + 3 < k → i ≤ order.length → left.length = l.length →
    spec_OrderOk.l1 k l order left i = some (okS l (custOk l && decide (order.length ≤ 200)) left i suf) := by
  intro suf
  induction suf with
  | nil =>
    intro i k left hd hk hi hll
    obtain ⟨k, rfl⟩ : ∃ m, k = m + 1 := ⟨k - 1, by omega⟩
    have := drop_nil hd
    simp only [spec_OrderOk.l1]
    rw [if_neg (by omega)]
    exact spec_OrderOk_end l order hl left hll left 0 k rfl (by simp at hk; omega) (by omega)
  | cons w ws ih =>
    intro i k left hd hk hi hll
    obtain ⟨k, rfl⟩ : ∃ m, k = m + 2 := ⟨k - 2, by omega⟩
    obtain ⟨hlt, hd2, hx⟩ := drop_split hd
    simp only [List.length_cons] at hk
    have hih := fun left hll => ih (i + 1) k left hd2 (by omega) (by omega) hll
    simp only [spec_OrderOk.l1, spec_OrderOk.j2, okS]
    rw [if_pos (by omega), if_pos (by omega), rd_nat, hx, spec_l1In_is, show wrap64 ((l.length : Int) - 1) = (l.length : Int) - 1 from w64 (by omega) (by omega), w64s i (by omega)]
    simp only [Option.bind_some, decide_eq_true_eq]
    rw [show (i : Int) + 1 = ((i + 1 : Nat) : Int) from by omega]
    by_cases h1 : -1 ≤ w ∧ w ≤ (l.length : Int) - 1
    · rw [if_pos h1, if_pos h1]
      by_cases h2 : 0 ≤ w
      · have hwl : w.toNat < left.length := by omega
        have g1 : w < (l.length : Int) := by omega
        have g2 : w < (left.length : Int) := by omega
        simp only [ge_iff_le, h2, g1, g2, if_true]
        rw [show rd_T43 l w = l.getD w.toNat z43 from rfl, show rd left w = left.getD w.toNat 0 from rfl, hih _ (by rw [List.length_set]; exact hll)]
        by_cases h3 : (l.getD w.toNat z43).f0 > (i : Int)
        · rw [if_pos h3, if_neg (show ¬ ((l.getD w.toNat z43).f0 ≤ (i : Int) ∧ ¬ left.getD w.toNat 0 = 0) from fun h => by omega)]
        · rw [if_neg h3]
          by_cases h4 : left.getD w.toNat 0 = 0
          · rw [if_pos (show (left.getD w.toNat 0 == 0) = true by rw [h4]; rfl), if_neg (show ¬ ((l.getD w.toNat z43).f0 ≤ (i : Int) ∧ ¬ left.getD w.toNat 0 = 0) from fun h => h.2 h4)]
          · rw [if_neg (show ¬ (left.getD w.toNat 0 == 0) = true by rw [beq_iff_eq]; exact h4), if_pos (show ((l.getD w.toNat z43).f0 ≤ (i : Int) ∧ ¬ left.getD w.toNat 0 = 0) from ⟨by omega, h4⟩)]
      · simp only [ge_iff_le, h2, if_false]
        rw [hih left hll]
        simp
    · rw [if_neg h1, if_neg h1, if_pos trivial]
theorem spec_OrderOk_is (l : List S43) (order : List Int) (hl : l.length ≤ 1048576) (ho : order.length ≤ 1048576) (k : Nat) (hk : 2 * order.length + 3 * l.length + 6 ≤ k) : spec_OrderOk.f k l order = some (orderOk l order) := by
  unfold spec_OrderOk.f
  have e : okS l (custOk l && decide (order.length ≤ 200)) (needs l) 0 order = orderOk l order := by
    unfold orderOk
    by_cases hok : custOk l = true
    · rw [okS_okI l _ order (needs l) 0 (needs_length l) (needs_bound hok), hok, Bool.true_and, Bool.true_and, Bool.and_comm]
    · rw [Bool.not_eq_true _ |>.mp hok, Bool.false_and, Bool.false_and, okS_false]
  rw [← e]
  exact spec_OrderOk_left l order hl _ (2 * order.length + 2 * l.length + 4) (fun k hk => spec_OrderOk_loop l order hl ho order 0 k (needs l) rfl (by omega) (by omega) (needs_length l)) l 0 k [] rfl (by omega) (by omega) rfl

/-! units -/
/-- Units of one from a unit on up to another. -/
def unitsP (order : List Int) (w : Int) (a b : Nat) : Int := cntW w ((order.drop a).take (b - a))
theorem impl_unitsIn_loop (order : List Int) (w : Int) (ho : order.length ≤ 1048576) (b : Int) (hb : b ≤ 1048576) : ∀ (d i k : Nat) (n : Int), (d : Int) + i = b ∨ (b ≤ i ∧ d = 0) → 2 * d + 3 ≤ k → 0 ≤ n → n ≤ i →
    impl_unitsIn.l0 k order w b n i = some (n + cntW w ((order.drop i).take d)) := by
  intro d
  induction d with
  | zero =>
    intro i k n hd hk h0 h1
    obtain ⟨k, rfl⟩ : ∃ m, k = m + 2 := ⟨k - 2, by omega⟩
    simp only [impl_unitsIn.l0, impl_unitsIn.j1]
    rw [if_neg (by omega), if_neg (by simp)]
    simp [cntW]
  | succ d ih =>
    intro i k n hd hk h0 h1
    obtain ⟨k, rfl⟩ : ∃ m, k = m + 2 := ⟨k - 2, by omega⟩
    simp only [impl_unitsIn.l0, impl_unitsIn.j1]
    rw [if_pos (by omega)]
    by_cases hlt : i < order.length
    · have hdr : order.drop i = order.getD i 0 :: order.drop (i + 1) := by rw [getD_lt hlt]; exact List.drop_eq_getElem_cons hlt
      have hih := fun n => ih (i + 1) k n (by omega) (by omega)
      rw [if_pos (by simpa using hlt), if_pos (by omega), if_pos (by omega), rd_nat, hdr, w64s i (by omega), show wrap64 (n + 1) = n + 1 from w64 (by omega) (by omega), List.take_succ_cons]
      simp only [cntW]
      by_cases h : order.getD i 0 = w
      · rw [if_pos h, if_pos h, hih (n + 1) (by omega) (by omega)]; congr 1; omega
      · rw [if_neg h, if_neg h, hih n (by omega) (by omega)]; congr 1; omega
    · rw [if_neg (by simpa using hlt), List.drop_eq_nil_of_le (by omega)]
      simp [cntW]
theorem impl_unitsIn_is (order : List Int) (w : Int) (ho : order.length ≤ 1048576) (a b : Nat) (hb : b ≤ 1000) (k : Nat) (hk : 2010 ≤ k) : impl_unitsIn.f k order w a b = some (unitsP order w a b) := by
  unfold impl_unitsIn.f unitsP
  have h := impl_unitsIn_loop order w ho (b : Int) (by omega) (b - a) a k 0 (by omega) (by omega) (by omega) (by omega)
  rw [Int.zero_add] at h
  exact h
theorem unitsP_split (order : List Int) (w : Int) (a m b : Nat) (h1 : a ≤ m) (h2 : m ≤ b) : unitsP order w a b = unitsP order w a m + unitsP order w m b := by
  unfold unitsP
  rw [← cntW_append]
  congr 1
  rw [show b - a = (m - a) + (b - m) from by omega, List.take_add, List.drop_drop, show a + (m - a) = m from by omega]
theorem unitsP_bound (order : List Int) (w : Int) (a b : Nat) (h : a ≤ b) : 0 ≤ unitsP order w a b ∧ unitsP order w a b ≤ (b : Int) - a := by
  unfold unitsP
  have h1 := cntW_bound w ((order.drop a).take (b - a))
  have h2 : ((order.drop a).take (b - a)).length ≤ b - a := by rw [List.length_take]; omega
  omega

/-! orders2 -/
theorem okI_mem (l : List S43) : ∀ (ws left : List Int) (t : Int), okI l left t ws = true → ∀ w ∈ ws, -1 ≤ w ∧ w < (l.length : Int) := by
  intro ws
  induction ws with
  | nil => intro left t _ w hw; cases hw
  | cons x xs ih =>
    intro left t h w hw
    simp only [okI, Bool.and_eq_true, decide_eq_true_eq] at h
    rcases List.mem_cons.1 hw with rfl | hw
    · exact ⟨h.1.1, h.1.2.1⟩
    · exact ih _ _ h.2 w hw
theorem orderOk_mem {l : List S43} {order : List Int} (h : orderOk l order = true) : ∀ w ∈ order, -1 ≤ w ∧ w < (l.length : Int) := okI_mem l order _ _ (orderOk_parts h).2.2

/-! ends -/
/-- When the last unit of one ends: e, or behind the last such unit from t on. -/
def endFrom (w : Int) : Int → Int → List Int → Int
  | _, e, [] => e
  | t, e, x :: xs => endFrom w (t + 1) (if x = w then t + 1 else e) xs
def endsP (n : Nat) (order : List Int) : List Int := (List.range n).map fun (i : Nat) => endFrom (i : Int) 0 0 order
theorem endsP_length (n : Nat) (order : List Int) : (endsP n order).length = n := by unfold endsP; simp
theorem endsP_get (n : Nat) (order : List Int) (i : Nat) (h : i < n) : (endsP n order).getD i 0 = endFrom (i : Int) 0 0 order := by
  rw [getD_lt (by rw [endsP_length]; exact h)]
  unfold endsP
  rw [List.getElem_map, List.getElem_range]
theorem endFrom_bound (w : Int) : ∀ (order : List Int) (t e : Int), 0 ≤ t → 0 ≤ e → e ≤ t → 0 ≤ endFrom w t e order ∧ endFrom w t e order ≤ t + order.length := by
  intro order
  induction order with
  | nil => intro t e h0 h1 h2; simp [endFrom]; omega
  | cons x xs ih =>
    intro t e h0 h1 h2
    have := ih (t + 1) (if x = w then t + 1 else e) (by omega) (by split <;> omega) (by split <;> omega)
    simp only [endFrom, List.length_cons]
    omega
theorem list_ext_getD {a b : List Int} (h : a.length = b.length) (hg : ∀ i, i < a.length → a.getD i 0 = b.getD i 0) : a = b := by
  apply List.ext_getElem h
  intro i h1 h2
  have := hg i h1
  rw [getD_lt h1, getD_lt h2] at this
  exact this
theorem impl_endsOf_loop (n : Nat) (order : List Int) (ho : order.length ≤ 1048576) (hw : ∀ w ∈ order, w < (n : Int)) : ∀ (suf : List Int) (i k : Nat) (X : List Int), order.drop i = suf → suf.length < k → i ≤ order.length → X.length = n →
    ∃ r, impl_endsOf.l0 k X order (order.length : Int) i = some r ∧ r.length = n ∧ ∀ j, j < n → r.getD j 0 = endFrom (j : Int) i (X.getD j 0) suf := by
  intro suf
  induction suf with
  | nil =>
    intro i k X hd hk hi hX
    obtain ⟨k, rfl⟩ : ∃ m, k = m + 1 := ⟨k - 1, by omega⟩
    have := drop_nil hd
    simp only [impl_endsOf.l0]
    rw [if_neg (by omega)]
    exact ⟨X, rfl, hX, fun j hj => rfl⟩
  | cons x xs ih =>
    intro i k X hd hk hi hX
    obtain ⟨k, rfl⟩ : ∃ m, k = m + 1 := ⟨k - 1, by omega⟩
    obtain ⟨hlt, hd2, hx⟩ := drop_split hd
    have hxn := hw x (by rw [← hx 0]; exact getD_mem hlt _)
    simp only [List.length_cons] at hk
    simp only [impl_endsOf.l0]
    rw [if_pos (by omega), if_pos (by omega), if_pos (by omega), rd_nat, hx, w64s i (by omega)]
    by_cases h : x ≥ 0
    · rw [if_pos h, if_pos (show (0 : Int) ≤ x from h), if_pos (by omega)]
      obtain ⟨r, e, hl, hr⟩ := ih (i + 1) k (X.set x.toNat ((i + 1 : Nat) : Int)) hd2 (by omega) (by omega) (by rw [List.length_set]; exact hX)
      refine ⟨r, e, hl, fun j hj => ?_⟩
      rw [hr j hj]
      simp only [endFrom]
      rw [show ((i + 1 : Nat) : Int) = (i : Int) + 1 from by omega]
      congr 1
      by_cases e2 : x = (j : Int)
      · rw [if_pos e2, show x.toNat = j from by omega, getD_set_eq _ _ _ _ (by omega)]
      · rw [if_neg e2, getD_set_ne _ _ _ _ _ (by omega)]
    · rw [if_neg h]
      obtain ⟨r, e, hl, hr⟩ := ih (i + 1) k X hd2 (by omega) (by omega) hX
      refine ⟨r, e, hl, fun j hj => ?_⟩
      rw [hr j hj]
      simp only [endFrom]
      rw [if_neg (by omega), show ((i + 1 : Nat) : Int) = (i : Int) + 1 from by omega]
theorem impl_endsOf_is (l : List S43) (order : List Int) (hl : l.length ≤ 1048576) (ho : order.length ≤ 1048576) (hw : ∀ w ∈ order, w < (l.length : Int)) (k : Nat) (hk : order.length < k) : impl_endsOf.f k l order = some (endsP l.length order) := by
  unfold impl_endsOf.f
  rw [if_pos (by omega), if_pos (by omega)]
  obtain ⟨r, e, hr, hg⟩ := impl_endsOf_loop l.length order ho hw order 0 k (List.replicate ((l.length : Int)).toNat 0) rfl hk (by omega) (by simp)
  rw [show ((0 : Nat) : Int) = 0 from rfl] at e
  rw [e]
  congr 1
  refine list_ext_getD (by rw [hr, endsP_length]) (fun i hi => ?_)
  rw [hr] at hi
  rw [hg i hi, endsP_get _ _ _ hi]
  congr 1
  rw [getD_lt (by simp; omega), List.getElem_replicate]

/-! ends_spec -/
theorem spec_EndsOf_inner (l : List S43) (order : List Int) (ho : order.length ≤ 1048576) (out : List Int) (w : Nat) (hout : out.length ≤ 100) (r : List Int) (K : Nat) (hw8 : w ≤ 100) : ∀ (suf : List Int) (i k : Nat) (e : Int), order.drop i = suf → K + suf.length + 1 ≤ k → i ≤ order.length →
    (∀ k', K ≤ k' → spec_EndsOf.l0 k' l order (out ++ [endFrom (w : Int) i e suf]) ((w + 1 : Nat) : Int) = some r) → spec_EndsOf.l1 k l order out w e i = some r := by
  intro suf
  induction suf with
  | nil =>
    intro i k e hd hk hi h
    obtain ⟨k, rfl⟩ : ∃ m, k = m + 1 := ⟨k - 1, by omega⟩
    have := drop_nil hd
    rw [spec_EndsOf.l1]
    rw [if_neg (by omega), if_pos (by omega), w64s w (by omega)]
    exact h k (by simp at hk; omega)
  | cons x xs ih =>
    intro i k e hd hk hi h
    obtain ⟨k, rfl⟩ : ∃ m, k = m + 1 := ⟨k - 1, by omega⟩
    obtain ⟨hlt, hd2, hx⟩ := drop_split hd
    simp only [List.length_cons] at hk
    rw [spec_EndsOf.l1]
    rw [if_pos (by omega), if_pos (by omega), rd_nat, hx, w64s i (by omega)]
    simp only [endFrom] at h
    rw [show (i : Int) + 1 = ((i + 1 : Nat) : Int) from by omega] at h
    by_cases hc : x = (w : Int)
    · rw [if_pos hc]
      rw [if_pos hc] at h
      exact ih (i + 1) k _ hd2 (by omega) (by omega) h
    · rw [if_neg hc]
      rw [if_neg hc] at h
      exact ih (i + 1) k _ hd2 (by omega) (by omega) h
theorem spec_EndsOf_loop (l : List S43) (order : List Int) (hok : orderOk l order = true) : ∀ (d i k : Nat) (out : List Int), i + d = l.length → 210 * d + 500 ≤ k → out = endsP i order → spec_EndsOf.l0 k l order out i = some (endsP l.length order) := by
  obtain ⟨h1, h2, h3⟩ := orderOk_parts hok
  have h8 := custOk_len h1
  intro d
  induction d with
  | zero =>
    intro i k out he hk ho
    obtain ⟨k, rfl⟩ : ∃ m, k = m + 2 := ⟨k - 2, by omega⟩
    rw [spec_EndsOf.l0]
    rw [if_neg (by omega), spec_EndsOf.j1, if_neg (by simp), ho, show i = l.length from by omega]
  | succ d ih =>
    intro i k out he hk ho
    obtain ⟨k, rfl⟩ : ∃ m, k = m + 2 := ⟨k - 2, by omega⟩
    have hol : out.length = i := by rw [ho, endsP_length]
    rw [spec_EndsOf.l0]
    rw [if_pos (by omega), spec_OrderOk_is l order (by omega) (by omega) _ (by omega), hok]
    simp only [Option.bind_some]
    rw [spec_EndsOf.j1, if_pos rfl]
    refine spec_EndsOf_inner l order (by omega) out i (by omega) _ (210 * d + 500) (by omega) order 0 k 0 rfl (by omega) (by omega) (fun k' hk' => ?_)
    refine ih (i + 1) k' _ (by omega) hk' ?_
    rw [ho]
    unfold endsP
    rw [List.range_succ, List.map_append]
    rfl
theorem spec_EndsOf_is (l : List S43) (order : List Int) (hl : l.length ≤ 1048576) (ho : order.length ≤ 1048576) (k : Nat) (hk : 2 * order.length + 3 * l.length + 2500 ≤ k) : spec_EndsOf.f k l order = some (if orderOk l order = true then endsP l.length order else []) := by
  unfold spec_EndsOf.f
  by_cases hok : orderOk l order = true
  · have h8 := custOk_len (orderOk_parts hok).1
    rw [if_pos hok]
    exact spec_EndsOf_loop l order hok l.length 0 k [] (by omega) (by omega) rfl
  · rw [if_neg hok]
    obtain ⟨k, rfl⟩ : ∃ m, k = m + 2 := ⟨k - 2, by omega⟩
    rw [spec_EndsOf.l0]
    by_cases h : (0 : Int) < (l.length : Int)
    · rw [if_pos h, spec_OrderOk_is l order hl ho _ (by omega), Bool.not_eq_true _ |>.mp hok]
      simp only [Option.bind_some]
      rw [spec_EndsOf.j1, if_neg (by simp)]
    · rw [if_neg h, spec_EndsOf.j1, if_neg (by simp)]

/-! ahead -/
/-- The greatest difference on the way, from one beginning on. -/
def innerP (a b : Int) : List Int → Int → Int → Int
  | [], _, best => best
  | x :: xs, n, best => innerP a b xs (n + (if x = a then 1 else 0) - (if x = b then 1 else 0)) (max (max best (n + (if x = a then 1 else 0) - (if x = b then 1 else 0))) (-(n + (if x = a then 1 else 0) - (if x = b then 1 else 0))))
def outerP (a b : Int) : List Int → Int → Int
  | [], best => best
  | x :: xs, best => outerP a b xs (innerP a b (x :: xs) 0 best)
/-- What of an order lies between two times. -/
def segP (order : List Int) (s e : Nat) : List Int := (order.drop s).take (e - s)
def aheadP (l : List S43) (order : List Int) (a b : Int) : Int :=
  if orderOk l order = true ∧ (0 ≤ a ∧ a ≤ (l.length : Int) - 1) ∧ 0 ≤ b ∧ b ≤ (l.length : Int) - 1 then
    outerP a b (segP order (max (l.getD a.toNat z43).f0 (l.getD b.toNat z43).f0).toNat (min (endFrom a 0 0 order) (endFrom b 0 0 order)).toNat) 0
  else -1
theorem innerP_ge (a b : Int) : ∀ (xs : List Int) (n best : Int), best ≤ innerP a b xs n best := by
  intro xs
  induction xs with
  | nil => intro n best; exact Int.le_refl _
  | cons x xs ih => intro n best; simp only [innerP]; refine Int.le_trans ?_ (ih _ _); omega
theorem innerP_le (a b : Int) : ∀ (xs : List Int) (n best B : Int), best ≤ B → n + xs.length ≤ B → -n + xs.length ≤ B → innerP a b xs n best ≤ B := by
  intro xs
  induction xs with
  | nil => intro n best B h _ _; exact h
  | cons x xs ih =>
    intro n best B h h1 h2
    simp only [innerP, List.length_cons] at *
    refine ih _ _ B ?_ ?_ ?_ <;> split <;> split <;> omega
theorem outerP_le (a b : Int) : ∀ (xs : List Int) (best B : Int), best ≤ B → (xs.length : Int) ≤ B → outerP a b xs best ≤ B := by
  intro xs
  induction xs with
  | nil => intro best B h _; exact h
  | cons x xs ih =>
    intro best B h h1
    simp only [outerP]
    refine ih _ B (innerP_le a b _ 0 best B h (by omega) (by omega)) (by simp only [List.length_cons] at h1; omega)
theorem outerP_ge (a b : Int) : ∀ (xs : List Int) (best : Int), best ≤ outerP a b xs best := by
  intro xs
  induction xs with
  | nil => intro best; exact Int.le_refl _
  | cons x xs ih => intro best; simp only [outerP]; exact Int.le_trans (innerP_ge a b _ 0 best) (ih _)
theorem seg_cons (order : List Int) (s e : Nat) (h : s < e) (he : e ≤ order.length) : segP order s e = order.getD s 0 :: segP order (s + 1) e := by
  unfold segP
  have hs : s < order.length := by omega
  have hdr : order.drop s = order.getD s 0 :: order.drop (s + 1) := by rw [getD_lt hs]; exact List.drop_eq_getElem_cons hs
  rw [hdr, show e - s = (e - (s + 1)) + 1 from by omega, List.take_succ_cons]
theorem seg_nil (order : List Int) (s e : Nat) (h : e ≤ s) : segP order s e = [] := by
  unfold segP
  rw [show e - s = 0 from by omega, List.take_zero]
theorem seg_length (order : List Int) (s e : Nat) : (segP order s e).length ≤ e - s := by unfold segP; rw [List.length_take]; omega

/-! ahead_spec -/
theorem spec_Ahead_inner (order ends : List Int) (a b : Int) (ha : 0 ≤ a ∧ a < (ends.length : Int)) (hb : 0 ≤ b ∧ b < (ends.length : Int)) (last : Nat) (hlast : min (rd ends a) (rd ends b) = (last : Int)) (hlo : last ≤ order.length) (hl200 : last ≤ 200) (s : Nat) (r : Int) (K : Nat) :
    ∀ (d i k : Nat) (n best : Int), i + d = last ∨ (d = 0 ∧ last ≤ i) → K + d + 1 ≤ k → -1000 - (i : Int) ≤ n → n ≤ 1000 + i → s ≤ 400 → i ≤ 400 → 
    (∀ k', K ≤ k' → spec_AheadBy.l0 k' order a b ends (innerP a b (segP order i last) n best) ((s + 1 : Nat) : Int) = some r) → spec_AheadBy.l1 k order a b ends best s n i = some r := by
  intro d
  induction d with
  | zero =>
    intro i k n best he hk h1 h2 hs hi h
    obtain ⟨k, rfl⟩ : ∃ m, k = m + 1 := ⟨k - 1, by omega⟩
    rw [seg_nil _ _ _ (by omega)] at h
    rw [spec_AheadBy.l1]
    rw [if_pos ha.1, if_pos ha.2, if_pos hb.1, if_pos hb.2, mn_min, hlast, if_neg (by omega), w64s s (by omega)]
    exact h k (by omega)
  | succ d ih =>
    intro i k n best he hk h1 h2 hs hi h
    obtain ⟨k, rfl⟩ : ∃ m, k = m + 1 := ⟨k - 1, by omega⟩
    rw [seg_cons _ _ _ (by omega) hlo] at h
    simp only [innerP] at h
    have hih := fun n best h1 h2 => ih (i + 1) k n best (by omega) (by omega) h1 h2 hs (by omega)
    rw [spec_AheadBy.l1]
    rw [if_pos ha.1, if_pos ha.2, if_pos hb.1, if_pos hb.2, mn_min, hlast, if_pos (by omega), if_pos (by omega), if_pos (by omega), rd_nat, w64s i (by omega)]
    by_cases hA : order.getD i 0 = a
    · by_cases hB : order.getD i 0 = b
      · rw [if_pos hA, if_pos hB] at h
        rw [if_pos hA, if_pos hB, show wrap64 (wrap64 (n + 1) - 1) = n + 1 - 1 from by rw [show wrap64 (n + 1) = n + 1 from w64 (by omega) (by omega)]; exact w64 (by omega) (by omega), show wrap64 (-(n + 1 - 1)) = -(n + 1 - 1) from w64 (by omega) (by omega), mx_max, mx_max]
        exact hih _ _ (by omega) (by omega) h
      · rw [if_pos hA, if_neg hB] at h
        rw [if_pos hA, if_neg hB, show wrap64 (n + 1) = n + 1 - 0 from by rw [w64 (by omega) (by omega)]; omega, show wrap64 (-(n + 1 - 0)) = -(n + 1 - 0) from w64 (by omega) (by omega), mx_max, mx_max]
        exact hih _ _ (by omega) (by omega) h
    · by_cases hB : order.getD i 0 = b
      · rw [if_neg hA, if_pos hB] at h
        rw [if_neg hA, if_pos hB, show wrap64 (n - 1) = n + 0 - 1 from by rw [w64 (by omega) (by omega)]; omega, show wrap64 (-(n + 0 - 1)) = -(n + 0 - 1) from w64 (by omega) (by omega), mx_max, mx_max]
        exact hih _ _ (by omega) (by omega) h
      · rw [if_neg hA, if_neg hB, show n + 0 - 0 = n from by omega] at h
        rw [if_neg hA, if_neg hB, show wrap64 (-n) = -n from w64 (by omega) (by omega), mx_max, mx_max]
        exact hih _ _ (by omega) (by omega) h
theorem spec_Ahead_loop (order ends : List Int) (a b : Int) (ha : 0 ≤ a ∧ a < (ends.length : Int)) (hb : 0 ≤ b ∧ b < (ends.length : Int)) (last : Nat) (hlast : min (rd ends a) (rd ends b) = (last : Int)) (hlo : last ≤ order.length) (hl200 : last ≤ 200) :
    ∀ (d i k : Nat) (best : Int), i + d = last ∨ (d = 0 ∧ last ≤ i) → 210 * d + 1 ≤ k → i ≤ 400 → spec_AheadBy.l0 k order a b ends best i = some (outerP a b (segP order i last) best) := by
  intro d
  induction d with
  | zero =>
    intro i k best he hk hi
    obtain ⟨k, rfl⟩ : ∃ m, k = m + 1 := ⟨k - 1, by omega⟩
    rw [spec_AheadBy.l0]
    rw [if_pos ha.1, if_pos ha.2, if_pos hb.1, if_pos hb.2, mn_min, hlast, if_neg (by omega), seg_nil _ _ _ (by omega)]
    rfl
  | succ d ih =>
    intro i k best he hk hi
    obtain ⟨k, rfl⟩ : ∃ m, k = m + 1 := ⟨k - 1, by omega⟩
    rw [spec_AheadBy.l0]
    rw [if_pos ha.1, if_pos ha.2, if_pos hb.1, if_pos hb.2, mn_min, hlast, if_pos (by omega)]
    refine spec_Ahead_inner order ends a b ha hb last hlast hlo hl200 i _ (210 * d + 1) (d + 1) i k 0 best (by omega) (by omega) (by omega) (by omega) (by omega) (by omega) (fun k' hk' => ?_)
    rw [ih (i + 1) k' _ (by omega) hk' (by omega), seg_cons order i last (by omega) hlo]
    rfl
theorem spec_AheadBy_is (l : List S43) (order : List Int) (hl : l.length ≤ 1048576) (ho : order.length ≤ 1048576) (a b : Int) (k : Nat) (hk : 2 * order.length + 3 * l.length + 50000 ≤ k) : spec_AheadBy.f k l order a b = some (aheadP l order a b) := by
  obtain ⟨k, rfl⟩ : ∃ m, k = m + 1 := ⟨k - 1, by omega⟩
  have neg : spec_AheadBy.j0 (k + 1) l order a b true = some (-1) := by simp [spec_AheadBy.j0]
  unfold spec_AheadBy.f aheadP
  rw [spec_OrderOk_is l order hl ho (k + 1) (by omega), spec_l1In_is, spec_l1In_is, neg, show wrap64 ((l.length : Int) - 1) = (l.length : Int) - 1 from w64 (by omega) (by omega)]
  simp only [Option.bind_some, decide_eq_true_eq]
  by_cases h : orderOk l order = true
  · rw [if_pos h]
    by_cases h1 : 0 ≤ a ∧ a ≤ (l.length : Int) - 1
    · rw [if_pos h1]
      by_cases h2 : 0 ≤ b ∧ b ≤ (l.length : Int) - 1
      · rw [decide_eq_true h2, if_pos ⟨h, h1, h2⟩]
        obtain ⟨p1, p2, p3⟩ := orderOk_parts h
        have hA := custOk_mem p1 (l.getD a.toNat z43) (getD_mem (by omega) _)
        have hB := custOk_mem p1 (l.getD b.toNat z43) (getD_mem (by omega) _)
        have ea : rd (endsP l.length order) a = endFrom a 0 0 order := by unfold rd; rw [endsP_get _ _ _ (by omega), show ((a.toNat : Nat) : Int) = a from by omega]
        have eb : rd (endsP l.length order) b = endFrom b 0 0 order := by unfold rd; rw [endsP_get _ _ _ (by omega), show ((b.toNat : Nat) : Int) = b from by omega]
        have ba := endFrom_bound a order 0 0 (by omega) (by omega) (by omega)
        have bb := endFrom_bound b order 0 0 (by omega) (by omega) (by omega)
        simp only [spec_AheadBy.j0, Bool.not_true]
        rw [if_neg (by simp), spec_EndsOf_is l order hl ho k (by omega), if_pos h]
        simp only [Option.bind_some]
        rw [if_pos h1.1, if_pos (by omega), if_pos h2.1, if_pos (by omega), mx_max]
        rw [show rd_T43 l a = l.getD a.toNat z43 from rfl, show rd_T43 l b = l.getD b.toNat z43 from rfl]
        have hloop := spec_Ahead_loop order (endsP l.length order) a b ⟨h1.1, by rw [endsP_length]; omega⟩ ⟨h2.1, by rw [endsP_length]; omega⟩ (min (endFrom a 0 0 order) (endFrom b 0 0 order)).toNat (by rw [ea, eb]; omega) (by omega) (by omega) ((min (endFrom a 0 0 order) (endFrom b 0 0 order)).toNat - (max (l.getD a.toNat z43).f0 (l.getD b.toNat z43).f0).toNat) (max (l.getD a.toNat z43).f0 (l.getD b.toNat z43).f0).toNat k 0 (by omega) (by omega) (by omega)
        rw [show (((max (l.getD a.toNat z43).f0 (l.getD b.toNat z43).f0).toNat : Nat) : Int) = max (l.getD a.toNat z43).f0 (l.getD b.toNat z43).f0 from by omega] at hloop
        exact hloop
      · rw [decide_eq_false h2, Bool.not_false, neg, if_neg (fun h => h2 h.2.2)]
    · rw [if_neg h1, if_neg (fun h => h1 h.2.1)]
  · rw [if_neg h, if_neg (fun hh => h hh.1)]

/-! ahead_impl -/
/-- The difference of units from s up to t. -/
theorem diff_next (order : List Int) (a b : Int) (s t : Nat) (hst : s ≤ t) (ht : t < order.length) : unitsP order a s (t + 1) - unitsP order b s (t + 1) = (unitsP order a s t - unitsP order b s t) + (if order.getD t 0 = a then 1 else 0) - (if order.getD t 0 = b then 1 else 0) := by
  have one : ∀ w, unitsP order w t (t + 1) = if order.getD t 0 = w then 1 else 0 := by
    intro w
    unfold unitsP
    have hdr : order.drop t = order.getD t 0 :: order.drop (t + 1) := by rw [getD_lt ht]; exact List.drop_eq_getElem_cons ht
    rw [show t + 1 - t = 1 from by omega, hdr, List.take_succ_cons, List.take_zero]
    simp only [cntW]
    omega
  rw [unitsP_split order a s t (t + 1) hst (by omega), unitsP_split order b s t (t + 1) hst (by omega), one a, one b]
  omega
theorem impl_Ahead_inner (order : List Int) (a b : Int) (ho : order.length ≤ 200) (last : Nat) (hlo : last ≤ order.length) (s : Nat) (hs : s ≤ 400) (r : Int) (K : Nat) (hK : 2020 ≤ K) :
    ∀ (d i k : Nat) (best : Int), i + d = last → K + d + 2 ≤ k → s ≤ i → 
    (∀ k', K ≤ k' → impl_AheadBy.l0 k' order a b (innerP a b (segP order i last) (unitsP order a s i - unitsP order b s i) (max (max best (unitsP order a s i - unitsP order b s i)) (-(unitsP order a s i - unitsP order b s i)))) (last : Int) ((s + 1 : Nat) : Int) = some r) → impl_AheadBy.l1 k order a b best (last : Int) s i = some r := by
  intro d
  induction d with
  | zero =>
    intro i k best he hk hsi h
    obtain ⟨k, rfl⟩ : ∃ m, k = m + 1 := ⟨k - 1, by omega⟩
    have h1 := unitsP_bound order a s i hsi
    have h2 := unitsP_bound order b s i hsi
    rw [seg_nil _ _ _ (by omega)] at h
    simp only [innerP] at h
    rw [impl_AheadBy.l1]
    rw [if_pos (by omega), impl_unitsIn_is order a (by omega) s i (by omega) _ (by omega), impl_unitsIn_is order b (by omega) s i (by omega) _ (by omega)]
    simp only [Option.bind_some]
    rw [show wrap64 (unitsP order a s i - unitsP order b s i) = unitsP order a s i - unitsP order b s i from w64 (by omega) (by omega), show wrap64 (-(unitsP order a s i - unitsP order b s i)) = -(unitsP order a s i - unitsP order b s i) from w64 (by omega) (by omega), w64s i (by omega), mx_max, mx_max]
    obtain ⟨k, rfl⟩ : ∃ m, k = m + 1 := ⟨k - 1, by omega⟩
    rw [impl_AheadBy.l1]
    rw [if_neg (by omega), w64s s (by omega)]
    exact h k (by omega)
  | succ d ih =>
    intro i k best he hk hsi h
    obtain ⟨k, rfl⟩ : ∃ m, k = m + 1 := ⟨k - 1, by omega⟩
    have h1 := unitsP_bound order a s i hsi
    have h2 := unitsP_bound order b s i hsi
    rw [impl_AheadBy.l1]
    rw [if_pos (by omega), impl_unitsIn_is order a (by omega) s i (by omega) _ (by omega), impl_unitsIn_is order b (by omega) s i (by omega) _ (by omega)]
    simp only [Option.bind_some]
    rw [show wrap64 (unitsP order a s i - unitsP order b s i) = unitsP order a s i - unitsP order b s i from w64 (by omega) (by omega), show wrap64 (-(unitsP order a s i - unitsP order b s i)) = -(unitsP order a s i - unitsP order b s i) from w64 (by omega) (by omega), w64s i (by omega), mx_max, mx_max]
    refine ih (i + 1) k _ (by omega) (by omega) (by omega) (fun k' hk' => ?_)
    have := h k' hk'
    rw [seg_cons order i last (by omega) hlo] at this
    simp only [innerP] at this
    rw [diff_next order a b s i hsi (by omega)]
    exact this
theorem impl_Ahead_loop (order : List Int) (a b : Int) (ho : order.length ≤ 200) (last : Nat) (hlo : last ≤ order.length) :
    ∀ (d i k : Nat) (best : Int), i + d = last + 1 ∨ (d = 0 ∧ last < i) → 210 * d + 2100 ≤ k → i ≤ 400 → 0 ≤ best → impl_AheadBy.l0 k order a b best (last : Int) i = some (outerP a b (segP order i last) best) := by
  intro d
  induction d with
  | zero =>
    intro i k best he hk hi h0
    obtain ⟨k, rfl⟩ : ∃ m, k = m + 1 := ⟨k - 1, by omega⟩
    rw [impl_AheadBy.l0]
    rw [if_neg (by omega), seg_nil _ _ _ (by omega)]
    rfl
  | succ d ih =>
    intro i k best he hk hi h0
    obtain ⟨k, rfl⟩ : ∃ m, k = m + 1 := ⟨k - 1, by omega⟩
    rw [impl_AheadBy.l0]
    rw [if_pos (by omega)]
    have z : ∀ w, unitsP order w i i = 0 := by intro w; unfold unitsP; rw [Nat.sub_self, List.take_zero]; rfl
    refine impl_Ahead_inner order a b ho last hlo i (by omega) _ (210 * d + 2100) (by omega) (last - i) i k best (by omega) (by omega) (by omega) (fun k' hk' => ?_)
    rw [z a, z b, show (0 : Int) - 0 = 0 from rfl, show max (max best 0) (-0) = best from by omega]
    rw [ih (i + 1) k' _ (by omega) hk' (by omega) (Int.le_trans h0 (innerP_ge a b _ 0 best))]
    by_cases hlt : i < last
    · rw [seg_cons order i last hlt hlo]; rfl
    · rw [seg_nil order i last (by omega), seg_nil order (i + 1) last (by omega)]; rfl
theorem impl_AheadBy_is (l : List S43) (order : List Int) (hl : l.length ≤ 1048576) (a b : Int) (k : Nat) (hk : l.length + 50000 ≤ k) : impl_AheadBy.f k l order a b = some (aheadP l order a b) := by
  obtain ⟨k, rfl⟩ : ∃ m, k = m + 1 := ⟨k - 1, by omega⟩
  have neg : impl_AheadBy.j0 (k + 1) l order a b true = some (-1) := by simp [impl_AheadBy.j0]
  unfold impl_AheadBy.f aheadP
  rw [impl_OrderOk_is l order hl (k + 1) (by omega), neg]
  simp only [Option.bind_some]
  by_cases h : orderOk l order = true
  · rw [if_pos h]
    by_cases h1 : a < 0
    · rw [if_pos h1, if_neg (fun h => by omega)]
    rw [if_neg h1]
    by_cases h2 : a ≥ (l.length : Int)
    · rw [if_pos h2, if_neg (fun h => by omega)]
    rw [if_neg h2]
    by_cases h3 : b < 0
    · rw [if_pos h3, if_neg (fun h => by omega)]
    rw [if_neg h3]
    by_cases h4 : b ≥ (l.length : Int)
    · rw [decide_eq_true h4, neg, if_neg (fun h => by omega)]
    obtain ⟨p1, p2, p3⟩ := orderOk_parts h
    have hA := custOk_mem p1 (l.getD a.toNat z43) (getD_mem (by omega) _)
    have hB := custOk_mem p1 (l.getD b.toNat z43) (getD_mem (by omega) _)
    have ea : rd (endsP l.length order) a = endFrom a 0 0 order := by unfold rd; rw [endsP_get _ _ _ (by omega), show ((a.toNat : Nat) : Int) = a from by omega]
    have eb : rd (endsP l.length order) b = endFrom b 0 0 order := by unfold rd; rw [endsP_get _ _ _ (by omega), show ((b.toNat : Nat) : Int) = b from by omega]
    have ba := endFrom_bound a order 0 0 (by omega) (by omega) (by omega)
    have bb := endFrom_bound b order 0 0 (by omega) (by omega) (by omega)
    rw [decide_eq_false h4, if_pos ⟨h, by omega, by omega, by omega⟩]
    simp only [impl_AheadBy.j0]
    rw [if_neg (by simp), impl_endsOf_is l order hl (by omega) (fun w hw => (orderOk_mem h w hw).2) k (by omega)]
    simp only [Option.bind_some]
    rw [if_pos (show (0 : Int) ≤ a by omega), if_pos (show a < (l.length : Int) by omega), if_pos (show (0 : Int) ≤ b by omega), if_pos (show b < (l.length : Int) by omega), endsP_length, if_pos (show a < (l.length : Int) by omega), if_pos (show b < (l.length : Int) by omega), mx_max, mn_min, ea, eb]
    rw [show rd_T43 l a = l.getD a.toNat z43 from rfl, show rd_T43 l b = l.getD b.toNat z43 from rfl]
    have hloop := impl_Ahead_loop order a b p2 (min (endFrom a 0 0 order) (endFrom b 0 0 order)).toNat (by omega) ((min (endFrom a 0 0 order) (endFrom b 0 0 order)).toNat + 1 - (max (l.getD a.toNat z43).f0 (l.getD b.toNat z43).f0).toNat) (max (l.getD a.toNat z43).f0 (l.getD b.toNat z43).f0).toNat k 0 (by omega) (by omega) (by omega) (by omega)
    rw [show (((max (l.getD a.toNat z43).f0 (l.getD b.toNat z43).f0).toNat : Nat) : Int) = max (l.getD a.toNat z43).f0 (l.getD b.toNat z43).f0 from by omega, show (((min (endFrom a 0 0 order) (endFrom b 0 0 order)).toNat : Nat) : Int) = min (endFrom a 0 0 order) (endFrom b 0 0 order) from by omega] at hloop
    exact hloop
  · rw [if_neg h, if_neg (fun hh => h hh.1)]

/-! aheadfacts -/
/-! Ahead both ways; of one and the same; at most what one of both needs. -/
theorem innerP_symm (a b : Int) : ∀ (xs : List Int) (n best : Int), innerP b a xs (-n) best = innerP a b xs n best := by
  intro xs
  induction xs with
  | nil => intro n best; rfl
  | cons x xs ih =>
    intro n best
    simp only [innerP]
    rw [← ih]
    generalize (if x = a then (1 : Int) else 0) = u
    generalize (if x = b then (1 : Int) else 0) = v
    rw [show -n + v - u = -(n + u - v) from by omega, show - -(n + u - v) = n + u - v from by omega]
    congr 1
    omega
theorem outerP_symm (a b : Int) : ∀ (xs : List Int) (best : Int), outerP b a xs best = outerP a b xs best := by
  intro xs
  induction xs with
  | nil => intro best; rfl
  | cons x xs ih =>
    intro best
    simp only [outerP]
    rw [ih]
    have := innerP_symm a b (x :: xs) 0 best
    rw [show (-(0 : Int)) = 0 from rfl] at this
    rw [this]
theorem aheadP_symm (l : List S43) (order : List Int) (a b : Int) : aheadP l order b a = aheadP l order a b := by
  unfold aheadP
  rw [outerP_symm, Int.max_comm, Int.min_comm]
  by_cases h : orderOk l order = true ∧ (0 ≤ a ∧ a ≤ (l.length : Int) - 1) ∧ 0 ≤ b ∧ b ≤ (l.length : Int) - 1
  · rw [if_pos h, if_pos ⟨h.1, h.2.2, h.2.1⟩]
  · rw [if_neg h, if_neg (fun g => h ⟨g.1, g.2.2, g.2.1⟩)]
theorem innerP_self (a : Int) : ∀ (xs : List Int) (best : Int), 0 ≤ best → innerP a a xs 0 best = best := by
  intro xs
  induction xs with
  | nil => intro best _; rfl
  | cons x xs ih =>
    intro best h
    simp only [innerP]
    generalize (if x = a then (1 : Int) else 0) = u
    rw [show (0 : Int) + u - u = 0 from by omega, show max (max best 0) (-0) = best from by omega]
    exact ih best h
theorem outerP_self (a : Int) : ∀ (xs : List Int) (best : Int), 0 ≤ best → outerP a a xs best = best := by
  intro xs
  induction xs with
  | nil => intro best _; rfl
  | cons x xs ih =>
    intro best h
    simp only [outerP]
    rw [innerP_self a _ best h]
    exact ih best h
theorem innerP_cnt (a b : Int) : ∀ (xs : List Int) (n best B : Int), best ≤ B → n + cntW a xs ≤ B → -n + cntW b xs ≤ B → innerP a b xs n best ≤ B := by
  intro xs
  induction xs with
  | nil => intro n best B h _ _; exact h
  | cons x xs ih =>
    intro n best B h h1 h2
    have ca := (cntW_bound a xs).1
    have cb := (cntW_bound b xs).1
    simp only [innerP, cntW] at *
    have hu : (0 : Int) ≤ (if x = a then 1 else 0) := by split <;> omega
    generalize (if x = a then (1 : Int) else 0) = u at *
    have hv : (0 : Int) ≤ (if x = b then 1 else 0) := by split <;> omega
    generalize (if x = b then (1 : Int) else 0) = v at *
    refine ih _ _ B ?_ ?_ ?_ <;> omega
theorem outerP_cnt (a b : Int) : ∀ (xs : List Int) (best B : Int), best ≤ B → cntW a xs ≤ B → cntW b xs ≤ B → outerP a b xs best ≤ B := by
  intro xs
  induction xs with
  | nil => intro best B h _ _; exact h
  | cons x xs ih =>
    intro best B h h1 h2
    simp only [outerP]
    refine ih _ B (innerP_cnt a b _ 0 best B h (by omega) (by omega)) ?_ ?_
    · simp only [cntW] at h1; split at h1 <;> omega
    · simp only [cntW] at h2; split at h2 <;> omega
theorem cntW_seg (w : Int) (order : List Int) (s e : Nat) : cntW w (segP order s e) ≤ cntW w order := by
  unfold segP
  have h1 : cntW w order = cntW w (order.take s) + cntW w (order.drop s) := by rw [← cntW_append, List.take_append_drop]
  have h2 : cntW w (order.drop s) = cntW w ((order.drop s).take (e - s)) + cntW w ((order.drop s).drop (e - s)) := by rw [← cntW_append, List.take_append_drop]
  have := (cntW_bound w (order.take s)).1
  have := (cntW_bound w ((order.drop s).drop (e - s))).1
  omega

/-! lastp -/
def needSum : List S43 → Int
  | [] => 0
  | x :: xs => x.f1 + needSum xs
theorem needSum_bound (l : List S43) (hm : ∀ c ∈ l, 0 ≤ c.f0 ∧ c.f0 ≤ 60 ∧ 1 ≤ c.f1 ∧ c.f1 ≤ 9) : (l.length : Int) ≤ needSum l ∧ needSum l ≤ 9 * l.length := by
  induction l with
  | nil => simp [needSum]
  | cons x xs ih =>
    have := ih (fun b hb => hm b (List.mem_cons_of_mem _ hb))
    have := hm x (by simp)
    simp only [needSum, List.length_cons]
    omega
/-- The greatest of m and of all times of coming with the needs from there on. -/
def lastFrom : List S43 → Int → Int
  | [], m => m
  | x :: xs, m => lastFrom xs (max m (x.f0 + needSum (x :: xs)))
def lastP (l : List S43) : Int := lastFrom l 0
theorem lastFrom_ge (l : List S43) : ∀ m, m ≤ lastFrom l m := by
  induction l with
  | nil => intro m; exact Int.le_refl _
  | cons x xs ih => intro m; have := ih (max m (x.f0 + needSum (x :: xs))); simp only [lastFrom]; omega
theorem lastFrom_le (l : List S43) : ∀ m B, m ≤ B → (∀ i, i < l.length → (l.getD i z43).f0 + needSum (l.drop i) ≤ B) → lastFrom l m ≤ B := by
  induction l with
  | nil => intro m B h _; exact h
  | cons x xs ih =>
    intro m B h hB
    have h0 := hB 0 (by simp)
    simp only [List.getD_cons_zero, List.drop_zero] at h0
    exact ih _ B (by omega) (fun i hi => hB (i + 1) (by simpa using hi))
/-- Each comes, and all from there on are served, before M. -/
def doneBy : List S43 → Int → Prop
  | [], _ => True
  | x :: xs, M => x.f0 + needSum (x :: xs) ≤ M ∧ doneBy xs M
theorem doneBy_mono (l : List S43) : ∀ {M N : Int}, M ≤ N → doneBy l M → doneBy l N := by
  induction l with
  | nil => intro M N _ _; trivial
  | cons x xs ih => intro M N h hd; exact ⟨by have := hd.1; omega, ih h hd.2⟩
theorem doneBy_last (l : List S43) : ∀ m, doneBy l (lastFrom l m) := by
  induction l with
  | nil => intro m; trivial
  | cons x xs ih =>
    intro m
    refine ⟨?_, ih _⟩
    have := lastFrom_ge xs (max m (x.f0 + needSum (x :: xs)))
    simp only [lastFrom]
    omega
theorem lastP_bound (l : List S43) (hok : custOk l = true) : 0 ≤ lastP l ∧ lastP l ≤ 132 := by
  have hm := custOk_mem hok
  have hl := custOk_len hok
  refine ⟨lastFrom_ge l 0, lastFrom_le l 0 132 (by omega) (fun i hi => ?_)⟩
  have h1 := hm (l.getD i z43) (getD_mem hi _)
  have h2 := needSum_bound (l.drop i) (fun c hc => hm c (List.mem_of_mem_drop hc))
  rw [List.length_drop] at h2
  omega

/-! lastspec -/
theorem doneBy_get : ∀ {l : List S43} {M : Int}, doneBy l M → ∀ j, j < l.length → (l.getD j z43).f0 + needSum (l.drop j) ≤ M := by
  intro l
  induction l with
  | nil => intro M _ j h; simp at h
  | cons x xs ih =>
    intro M hd j hj
    cases j with
    | zero => exact hd.1
    | succ j => exact ih hd.2 j (by simpa using hj)
theorem spec_LastLeave_loop (l : List S43) (h8 : l.length ≤ 8) (hm : ∀ c ∈ l, 0 ≤ c.f0 ∧ c.f0 ≤ 60 ∧ 1 ≤ c.f1 ∧ c.f1 ≤ 9) : ∀ (n k : Nat) (best : Int), n ≤ l.length → n < k → 0 ≤ best →
    ∃ r, spec_LastLeave.l0 k l best (needSum (l.drop n)) ((n : Int) - 1) = some r ∧ best ≤ r ∧ (∀ j, j < n → (l.getD j z43).f0 + needSum (l.drop j) ≤ r) ∧ ∀ B, best ≤ B → (∀ j, j < n → (l.getD j z43).f0 + needSum (l.drop j) ≤ B) → r ≤ B := by
  intro n
  induction n with
  | zero =>
    intro k best hn hk h0
    obtain ⟨k, rfl⟩ : ∃ m, k = m + 1 := ⟨k - 1, by omega⟩
    simp only [spec_LastLeave.l0]
    rw [if_neg (by omega)]
    exact ⟨best, rfl, Int.le_refl _, fun j hj => by omega, fun B h _ => h⟩
  | succ n ih =>
    intro k best hn hk h0
    obtain ⟨k, rfl⟩ : ∃ m, k = m + 1 := ⟨k - 1, by omega⟩
    have hlt : n < l.length := by omega
    have hdr : l.drop n = l.getD n z43 :: l.drop (n + 1) := by rw [getD_lt hlt]; exact List.drop_eq_getElem_cons hlt
    have hns : needSum (l.drop n) = (l.getD n z43).f1 + needSum (l.drop (n + 1)) := by rw [hdr]; rfl
    have hb := needSum_bound (l.drop n) (fun c hc => hm c (List.mem_of_mem_drop hc))
    have hb2 := needSum_bound (l.drop (n + 1)) (fun c hc => hm c (List.mem_of_mem_drop hc))
    rw [List.length_drop] at hb hb2
    have hxb := hm (l.getD n z43) (getD_mem hlt _)
    simp only [spec_LastLeave.l0]
    rw [show (((n + 1 : Nat) : Int) - 1) = (n : Int) from by omega, if_pos (by omega), if_pos (by omega), if_pos (by omega), rd_Customer_nat, mx_max, show wrap64 (needSum (l.drop (n + 1)) + (l.getD n z43).f1) = needSum (l.drop n) from by rw [w64 (by omega) (by omega)]; omega, show wrap64 ((l.getD n z43).f0 + needSum (l.drop n)) = (l.getD n z43).f0 + needSum (l.drop n) from w64 (by omega) (by omega), show wrap64 ((n : Int) - 1) = (n : Int) - 1 from w64 (by omega) (by omega)]
    obtain ⟨r, e, h1, h2, h3⟩ := ih k (max best ((l.getD n z43).f0 + needSum (l.drop n))) (by omega) (by omega) (by omega)
    refine ⟨r, e, by omega, fun j hj => ?_, fun B hB hj => h3 B ?_ (fun j hj2 => hj j (by omega))⟩
    · by_cases e2 : j = n
      · subst e2; omega
      · exact h2 j (by omega)
    · have := hj n (by omega); omega
theorem spec_LastLeave_is (l : List S43) (hok : custOk l = true) (k : Nat) (hk : 20 ≤ k) : spec_LastLeave.f k l = some (lastP l) := by
  have h8 := custOk_len hok
  have hm := custOk_mem hok
  unfold spec_LastLeave.f
  rw [spec_CustomersOk_is l (by omega) k (by omega)]
  simp only [Option.bind_some]
  rw [if_pos hok, show wrap64 ((l.length : Int) - 1) = (l.length : Int) - 1 from w64 (by omega) (by omega)]
  obtain ⟨r, e, h1, h2, h3⟩ := spec_LastLeave_loop l h8 hm l.length k 0 (by omega) (by omega) (by omega)
  rw [List.drop_eq_nil_of_le (Nat.le_refl _)] at e
  rw [show (0 : Int) = needSum [] from rfl] at *
  rw [e]
  congr 1
  have g1 := lastFrom_ge l 0
  have g2 := h3 (lastP l) g1 (fun j hj => doneBy_get (doneBy_last l 0) j hj)
  have g3 := lastFrom_le l 0 r h1 h2
  have e3 : lastP l = lastFrom l 0 := rfl
  omega

/-! rounds -/
/-! Rounds: who was served goes behind, then those who come; the head is served. -/
def arrFrom : List S43 → Int → Int → List Int
  | [], _, _ => []
  | x :: xs, i, t => (if x.f0 = t then [i] else []) ++ arrFrom xs (i + 1) t
def rowAt (l : List S43) (t before : Int) (left row : List Int) : List Int :=
  (row ++ (if 0 ≤ before ∧ 0 < left.getD before.toNat 0 then [before] else [])) ++ arrFrom l 0 t
def roundP (l : List S43) : Nat → Int → Int → List Int → List Int → List Int
  | 0, _, _, _, _ => []
  | d + 1, t, before, left, row =>
    match rowAt l t before left row with
    | [] => -1 :: roundP l d (t + 1) (-1) left []
    | w :: ws => w :: roundP l d (t + 1) w (left.set w.toNat (left.getD w.toNat 0 - 1)) ws
def roundOrderP (l : List S43) : List Int := if custOk l = true then roundP l (lastP l).toNat 0 (-1) (needs l) [] else []
theorem arrFrom_mem : ∀ (l : List S43) (i t : Int), ∀ x ∈ arrFrom l i t, i ≤ x ∧ x < i + l.length := by
  intro l
  induction l with
  | nil => intro i t x hx; cases hx
  | cons c cs ih =>
    intro i t x hx
    simp only [arrFrom] at hx
    rcases List.mem_append.1 hx with hx | hx
    · split at hx
      · rw [List.mem_singleton.1 hx]; simp only [List.length_cons]; omega
      · cases hx
    · have := ih (i + 1) t x hx
      simp only [List.length_cons]; omega
theorem arrFrom_length : ∀ (l : List S43) (i t : Int), (arrFrom l i t).length ≤ l.length := by
  intro l
  induction l with
  | nil => intro i t; simp [arrFrom]
  | cons c cs ih =>
    intro i t
    have := ih (i + 1) t
    simp only [arrFrom, List.length_append, List.length_cons]
    split <;> simp <;> omega
theorem roundP_length (l : List S43) : ∀ (d : Nat) (t b : Int) (left row : List Int), (roundP l d t b left row).length = d := by
  intro d
  induction d with
  | zero => intro t b left row; rfl
  | succ d ih =>
    intro t b left row
    simp only [roundP]
    split <;> simp [ih]
/-- What a state of the rounds keeps. -/
structure RoundInv (l : List S43) (i : Nat) (before : Int) (left row : List Int) : Prop where
  bl : -1 ≤ before
  bh : before < (l.length : Int)
  ll : left.length = l.length
  lb : ∀ x ∈ left, -(i : Int) ≤ x ∧ x ≤ 9
  rm : ∀ x ∈ row, 0 ≤ x ∧ x < (l.length : Int)
  rl : row.length ≤ 9 * i
theorem rowAt_mem {l : List S43} {i : Nat} {before : Int} {left row : List Int} (h : RoundInv l i before left row) (t : Int) : ∀ x ∈ rowAt l t before left row, 0 ≤ x ∧ x < (l.length : Int) := by
  intro x hx
  unfold rowAt at hx
  rcases List.mem_append.1 hx with hx | hx
  · rcases List.mem_append.1 hx with hx | hx
    · exact h.rm x hx
    · split at hx
      · rename_i hb
        rw [List.mem_singleton.1 hx]; exact ⟨hb.1, h.bh⟩
      · cases hx
  · have := arrFrom_mem l 0 t x hx; omega
theorem rowAt_length {l : List S43} (h8 : l.length ≤ 8) {i : Nat} {before : Int} {left row : List Int} (h : RoundInv l i before left row) (t : Int) : (rowAt l t before left row).length ≤ 9 * (i + 1) := by
  unfold rowAt
  rw [List.length_append, List.length_append]
  have := arrFrom_length l 0 t
  have := h.rl
  split <;> simp <;> omega
theorem RoundInv.next {l : List S43} (h8 : l.length ≤ 8) {i : Nat} {before : Int} {left row : List Int} (h : RoundInv l i before left row) {t w : Int} {ws : List Int} (e : rowAt l t before left row = w :: ws) : RoundInv l (i + 1) w (left.set w.toNat (left.getD w.toNat 0 - 1)) ws := by
  have hm := rowAt_mem h t
  have hl := rowAt_length h8 h t
  rw [e] at hm hl
  have hw := hm w (by simp)
  simp only [List.length_cons] at hl
  refine ⟨by omega, hw.2, by rw [List.length_set]; exact h.ll, fun x hx => ?_, fun x hx => hm x (List.mem_cons_of_mem _ hx), by omega⟩
  rcases List.mem_or_eq_of_mem_set hx with hx | hx
  · have := h.lb x hx; omega
  · have := h.lb _ (getD_mem (show w.toNat < left.length by rw [h.ll]; omega) 0); omega
theorem RoundInv.idle {l : List S43} {i : Nat} {before : Int} {left row : List Int} (h : RoundInv l i before left row) : RoundInv l (i + 1) (-1) left [] :=
  ⟨by omega, by omega, h.ll, fun x hx => by have := h.lb x hx; omega, (fun x hx => by cases hx), by simp⟩
theorem RoundInv.start {l : List S43} (hok : custOk l = true) : RoundInv l 0 (-1) (needs l) [] :=
  ⟨by omega, by omega, needs_length l, fun x hx => by have := needs_bound hok x hx; omega, (fun x hx => by cases hx), by simp⟩

/-! rounds_spec -/
theorem spec_Round_arr (l : List S43) (h8 : l.length ≤ 8) (left out : List Int) (t : Int) (r : List Int) (K : Nat) : ∀ (suf : List S43) (i k : Nat) (row : List Int), l.drop i = suf → K + suf.length + 1 ≤ k → i ≤ l.length → row.length + suf.length ≤ 100000 →
    (∀ k', K + 1 ≤ k' → spec_RoundOrder.l2 k' l out left (row ++ arrFrom suf i t) t (l.length : Int) = some r) → spec_RoundOrder.l2 k l out left row t i = some r := by
  intro suf
  induction suf with
  | nil =>
    intro i k row hd hk hi hr h
    have := drop_nil hd
    have e : (i : Int) = (l.length : Int) := by omega
    rw [e]
    have := h k (by simp at hk; omega)
    simpa [arrFrom] using this
  | cons x xs ih =>
    intro i k row hd hk hi hr h
    obtain ⟨k, rfl⟩ : ∃ m, k = m + 1 := ⟨k - 1, by omega⟩
    obtain ⟨hlt, hd2, hx⟩ := drop_split hd
    simp only [List.length_cons] at hk hr
    rw [spec_RoundOrder.l2]
    rw [if_pos (by omega), if_pos (by omega), rd_Customer_nat, hx, w64s i (by omega)]
    by_cases hc : x.f0 = t
    · rw [if_pos hc, if_pos (by omega)]
      refine ih (i + 1) k (row ++ [(i : Int)]) hd2 (by omega) (by omega) (by rw [List.length_append]; simp; omega) (fun k' hk' => ?_)
      have := h k' hk'
      simp only [arrFrom, if_pos hc] at this
      rw [List.append_assoc, show ((i + 1 : Nat) : Int) = (i : Int) + 1 from by omega]
      exact this
    · rw [if_neg hc]
      refine ih (i + 1) k row hd2 (by omega) (by omega) (by omega) (fun k' hk' => ?_)
      have := h k' hk'
      simp only [arrFrom, if_neg hc, List.nil_append] at this
      rw [show ((i + 1 : Nat) : Int) = (i : Int) + 1 from by omega]
      exact this
theorem spec_Round_loop (l : List S43) (hok : custOk l = true) (n : Nat) (hn : n ≤ 200) (hnl : lastP l = (n : Int)) : ∀ (d i k : Nat) (before : Int) (left row out : List Int), i + d = n → 16 * d + 40 ≤ k → RoundInv l i before left row → out.length = i →
    spec_RoundOrder.l1 k l out left row before i = some (out ++ roundP l d i before left row) := by
  have h8 := custOk_len hok
  intro d
  induction d with
  | zero =>
    intro i k before left row out he hk hI ho
    obtain ⟨k, rfl⟩ : ∃ m, k = m + 1 := ⟨k - 1, by omega⟩
    rw [spec_RoundOrder.l1, spec_LastLeave_is l hok k (by omega)]
    simp only [Option.bind_some]
    rw [hnl, if_neg (by omega)]
    simp [roundP]
  | succ d ih =>
    intro i k before left row out he hk hI ho
    obtain ⟨k, rfl⟩ : ∃ m, k = m + 3 := ⟨k - 3, by omega⟩
    have hrl := hI.rl
    have fin : ∀ k', 16 * d + 40 + 1 ≤ k' → spec_RoundOrder.l2 k' l out left (rowAt l i before left row) i (l.length : Int) = some (out ++ roundP l (d + 1) i before left row) := by
      intro k' hk'
      obtain ⟨k', rfl⟩ : ∃ m, k' = m + 1 := ⟨k' - 1, by omega⟩
      have hm := rowAt_mem hI (i : Int)
      rw [spec_RoundOrder.l2]
      rw [if_neg (by omega)]
      simp only [roundP]
      cases hrow : rowAt l (i : Int) before left row with
      | nil =>
        rw [if_neg (by simp), if_pos (by omega), w64s i (by omega)]
        rw [ih (i + 1) k' (-1) left [] _ (by omega) (by omega) hI.idle (by rw [List.length_append, ho]; rfl)]
        simp
      | cons w ws =>
        rw [hrow] at hm
        have hw := hm w (by simp)
        have hwl : w.toNat < left.length := by rw [hI.ll]; omega
        have hwb := hI.lb _ (getD_mem hwl 0)
        have hnx := hI.next h8 hrow
        simp only [show rd (w :: ws) 0 = w from rfl, show rd left w = left.getD w.toNat 0 from rfl]
        rw [if_pos (by simp only [List.length_cons]; omega), if_pos (by simp only [List.length_cons]; omega), if_pos (by simp only [List.length_cons]; omega), if_pos hw.1, if_pos (by rw [hI.ll]; exact hw.2), if_pos (by omega), w64s i (by omega), show wrap64 (left.getD w.toNat 0 - 1) = left.getD w.toNat 0 - 1 from w64 (by omega) (by omega)]
        rw [show (w :: ws).drop (1 : Int).toNat = ws from rfl]
        rw [ih (i + 1) k' w _ ws _ (by omega) (by omega) hnx (by rw [List.length_append, ho]; rfl)]
        simp
    have arr : ∀ (row2 : List Int) k', 16 * d + 51 ≤ k' → row2.length ≤ 5000 → row2 ++ arrFrom l 0 i = rowAt l i before left row → spec_RoundOrder.j3 k' l out left row2 i = some (out ++ roundP l (d + 1) i before left row) := by
      intro row2 k' hk' hr2 hre
      obtain ⟨k', rfl⟩ : ∃ m, k' = m + 1 := ⟨k' - 1, by omega⟩
      rw [spec_RoundOrder.j3]
      refine spec_Round_arr l h8 left out i _ (16 * d + 40) l 0 k' row2 rfl (by omega) (by omega) (by omega) (fun k'' hk'' => ?_)
      rw [show ((0 : Nat) : Int) = 0 from rfl, hre]
      exact fin k'' hk''
    rw [spec_RoundOrder.l1, spec_LastLeave_is l hok _ (by omega)]
    simp only [Option.bind_some]
    rw [hnl, if_pos (by omega)]
    by_cases hb : before ≥ 0
    · rw [if_pos hb, if_pos (show (0 : Int) ≤ before from hb), if_pos (by rw [hI.ll]; exact hI.bh), spec_RoundOrder.j2]
      rw [show rd left before = left.getD before.toNat 0 from rfl]
      by_cases hp : left.getD before.toNat 0 > 0
      · rw [if_pos (by rw [decide_eq_true_eq]; exact hp), if_pos (by omega)]
        refine arr (row ++ [before]) (k + 1) (by omega) (by rw [List.length_append]; simp; omega) ?_
        unfold rowAt
        rw [if_pos ⟨hb, hp⟩]
      · rw [if_neg (by rw [decide_eq_true_eq]; exact hp)]
        refine arr row (k + 1) (by omega) (by omega) ?_
        unfold rowAt
        rw [if_neg (fun h => hp h.2)]
        simp
    · rw [if_neg hb, spec_RoundOrder.j2, if_neg (by simp)]
      refine arr row (k + 1) (by omega) (by omega) ?_
      unfold rowAt
      rw [if_neg (fun h => hb h.1)]
      simp
theorem spec_Round_left (l : List S43) (hl : l.length ≤ 1048576) (r : List Int) (K : Nat) (hnext : ∀ k, K ≤ k → spec_RoundOrder.l1 k l [] (needs l) [] (-1) 0 = some r) : ∀ (suf : List S43) (i k : Nat) (out : List Int), l.drop i = suf → K + suf.length + 1 ≤ k → i ≤ l.length → out = needs (l.take i) → spec_RoundOrder.l0 k l [] out i = some r := by
  intro suf
  induction suf with
  | nil =>
    intro i k out hd hk hi ho
    obtain ⟨k, rfl⟩ : ∃ m, k = m + 1 := ⟨k - 1, by omega⟩
    have := drop_nil hd
    rw [spec_RoundOrder.l0]
    rw [if_neg (by omega), ho, List.take_of_length_le (by omega)]
    exact hnext k (by simp at hk; omega)
  | cons x xs ih =>
    intro i k out hd hk hi ho
    obtain ⟨k, rfl⟩ : ∃ m, k = m + 1 := ⟨k - 1, by omega⟩
    obtain ⟨hlt, hd2, hx⟩ := drop_split hd
    rw [spec_RoundOrder.l0]
    have hol : out.length = i := by rw [ho, needs_length, List.length_take]; omega
    rw [if_pos (by omega), if_pos (by omega), if_pos (by omega), rd_Customer_nat, hx, w64s i (by omega)]
    exact ih (i + 1) k _ hd2 (by simp at hk; omega) (by omega) (by rw [ho, take_succ_getD hlt z43, hx]; simp [needs])
theorem spec_RoundOrder_is (l : List S43) (hl : l.length ≤ 1048576) (k : Nat) (hk : l.length + 3000 ≤ k) : spec_RoundOrder.f k l = some (roundOrderP l) := by
  unfold spec_RoundOrder.f roundOrderP
  simp only [Option.bind_some]
  rw [spec_CustomersOk_is l hl k (by omega)]
  simp only [Option.bind_some]
  by_cases hok : custOk l = true
  · have hb := lastP_bound l hok
    rw [if_pos hok, if_pos hok]
    refine spec_Round_left l hl _ 2900 (fun k hk => ?_) l 0 k [] rfl (by omega) (by omega) rfl
    exact spec_Round_loop l hok (lastP l).toNat (by omega) (by omega) (lastP l).toNat 0 k (-1) (needs l) [] [] (by omega) (by omega) (RoundInv.start hok) rfl
  · rw [if_neg hok, if_neg hok]

/-! roundlen -/
theorem roundOrderP_len (l : List S43) : (roundOrderP l).length ≤ 200 := by
  unfold roundOrderP
  split
  · rename_i hok
    have := lastP_bound _ hok
    rw [roundP_length]; omega
  · simp

/-! drawserved -/
/-! What spec.l20Served draws: customers and an order, both short. -/
theorem l4Pick_loop (l : List S43) (left : List Int) (hl : l.length ≤ 1048576) (hll : left.length = l.length) (t rule : Int) : ∀ (d i k : Nat) (w : Int), i + d = l.length → 3 * d + 1 ≤ k → -1 ≤ w → w < (l.length : Int) → ∃ r, spec_l4Pick.l0 k l left t rule w (i : Int) = some r ∧ -1 ≤ r ∧ r < (l.length : Int) := by
  intro d
  induction d with
  | zero =>
    intro i k w hi hk h1 h2
    obtain ⟨k, rfl⟩ : ∃ m, k = m + 1 := ⟨k - 1, by omega⟩
    simp only [spec_l4Pick.l0]
    rw [if_neg (by omega)]
    exact ⟨w, rfl, h1, h2⟩
  | succ d ih =>
    intro i k w hi hk h1 h2
    obtain ⟨k, rfl⟩ : ∃ m, k = m + 1 := ⟨k - 1, by omega⟩
    have a : ∀ (k : Nat) (w : Int), 3 * d + 1 ≤ k → -1 ≤ w → w < (l.length : Int) → ∃ r, spec_l4Pick.l0 k l left t rule w ((i + 1 : Nat) : Int) = some r ∧ -1 ≤ r ∧ r < (l.length : Int) := fun k w hk => ih (i + 1) k w (by omega) hk
    have b : ∀ (k : Nat) (x : Bool), 3 * d + 2 ≤ k → 0 ≤ w → ∃ r, spec_l4Pick.j2 k l left t rule w (i : Int) x = some r ∧ -1 ≤ r ∧ r < (l.length : Int) := by
      intro k x hk hw
      obtain ⟨k, rfl⟩ : ∃ m, k = m + 1 := ⟨k - 1, by omega⟩
      simp only [spec_l4Pick.j2]
      rw [w64s i (by omega)]
      cases x with
      | true => rw [if_pos rfl]; exact a _ _ (by omega) (by omega) (by omega)
      | false =>
        rw [if_neg (by simp)]
        by_cases h3 : rule = 3
        · rw [if_pos h3, if_pos (by omega), if_pos (by omega), if_pos hw, if_pos (by omega)]
          split
          · exact a _ _ (by omega) (by omega) (by omega)
          · exact a _ _ (by omega) h1 h2
        · rw [if_neg h3]; exact a _ _ (by omega) h1 h2
    have c : ∀ (k : Nat) (x : Bool), 3 * d + 3 ≤ k → ∃ r, spec_l4Pick.j1 k l left t rule w (i : Int) x = some r ∧ -1 ≤ r ∧ r < (l.length : Int) := by
      intro k x hk
      obtain ⟨k, rfl⟩ : ∃ m, k = m + 1 := ⟨k - 1, by omega⟩
      simp only [spec_l4Pick.j1]
      rw [w64s i (by omega)]
      cases x with
      | true => rw [if_pos rfl]; exact a _ _ (by omega) h1 h2
      | false =>
        rw [if_neg (by simp)]
        by_cases hw : w < 0
        · rw [if_pos hw]; exact a _ _ (by omega) (by omega) (by omega)
        · rw [if_neg hw]
          by_cases r1 : rule = 1
          · rw [if_pos r1]; exact a _ _ (by omega) (by omega) (by omega)
          · rw [if_neg r1]
            by_cases r2 : rule = 2
            · rw [if_pos r2, if_pos (by omega), if_pos (by omega), if_pos (by omega), if_pos (by omega)]
              exact b _ _ (by omega) (by omega)
            · rw [if_neg r2]; exact b _ _ (by omega) (by omega)
    simp only [spec_l4Pick.l0]
    rw [if_pos (by omega), if_pos (by omega)]
    split
    · exact c _ _ (by omega)
    · rw [if_pos (by omega)]; exact c _ _ (by omega)
theorem spec_OrderBy_run (l : List S43) (hok : custOk l = true) (rule : Int) : ∀ (d i k : Nat) (out left : List Int), (i : Int) + d = lastP l → d + 40 ≤ k → left.length = l.length → out.length = i → ∃ r, spec_OrderBy.l1 k l rule out left (i : Int) = some r ∧ r.length ≤ 200 := by
  have h8 := custOk_len hok
  have hb := lastP_bound l hok
  intro d
  induction d with
  | zero =>
    intro i k out left hi hk hll ho
    obtain ⟨k, rfl⟩ : ∃ m, k = m + 1 := ⟨k - 1, by omega⟩
    simp only [spec_OrderBy.l1]
    rw [spec_LastLeave_is l hok k (by omega)]; simp only [Option.bind_some]
    rw [if_neg (by omega)]
    exact ⟨out, rfl, by omega⟩
  | succ d ih =>
    intro i k out left hi hk hll ho
    obtain ⟨k, rfl⟩ : ∃ m, k = m + 1 := ⟨k - 1, by omega⟩
    simp only [spec_OrderBy.l1]
    rw [spec_LastLeave_is l hok k (by omega)]; simp only [Option.bind_some]
    rw [if_pos (by omega)]
    obtain ⟨w, e, h1, h2⟩ := l4Pick_loop l left (by omega) hll (i : Int) rule l.length 0 k (-1) (by omega) (by omega) (by omega) (by omega)
    unfold spec_l4Pick.f
    rw [show ((0 : Nat) : Int) = 0 from rfl] at e
    rw [e]; simp only [Option.bind_some]
    rw [if_pos (by omega), w64s i (by omega)]
    by_cases hw : w ≥ 0
    · rw [if_pos hw, if_pos (by omega), if_pos (by omega)]
      exact ih (i + 1) k _ _ (by omega) (by omega) (by rw [List.length_set]; exact hll) (by rw [List.length_append, ho]; rfl)
    · rw [if_neg hw]
      exact ih (i + 1) k _ _ (by omega) (by omega) hll (by rw [List.length_append, ho]; rfl)
theorem spec_OrderBy_left (l : List S43) (hl : l.length ≤ 1048576) (rule : Int) (r : List Int) (K : Nat) (hnext : ∀ k, K ≤ k → spec_OrderBy.l1 k l rule [] (needs l) 0 = some r) : ∀ (suf : List S43) (i k : Nat) (out : List Int), l.drop i = suf → K + suf.length + 1 ≤ k → i ≤ l.length → out = needs (l.take i) → spec_OrderBy.l0 k l rule [] out i = some r := by
  intro suf
  induction suf with
  | nil =>
    intro i k out hd hk hi ho
    obtain ⟨k, rfl⟩ : ∃ m, k = m + 1 := ⟨k - 1, by omega⟩
    have := drop_nil hd
    rw [spec_OrderBy.l0]
    rw [if_neg (by omega), ho, List.take_of_length_le (by omega)]
    exact hnext k (by simp at hk; omega)
  | cons x xs ih =>
    intro i k out hd hk hi ho
    obtain ⟨k, rfl⟩ : ∃ m, k = m + 1 := ⟨k - 1, by omega⟩
    obtain ⟨hlt, hd2, hx⟩ := drop_split hd
    rw [spec_OrderBy.l0]
    have hol : out.length = i := by rw [ho, needs_length, List.length_take]; omega
    rw [if_pos (by omega), if_pos (by omega), if_pos (by omega), rd_Customer_nat, hx, w64s i (by omega)]
    exact ih (i + 1) k _ hd2 (by simp at hk; omega) (by omega) (by rw [ho, take_succ_getD hlt z43, hx]; simp [needs])
theorem spec_OrderBy_ok (l : List S43) (hl : l.length ≤ 1048576) (rule : Int) (k : Nat) (hk : l.length + 300 ≤ k) : ∃ r, spec_OrderBy.f k l rule = some r ∧ r.length ≤ 200 := by
  unfold spec_OrderBy.f
  simp only [Option.bind_some]
  rw [spec_CustomersOk_is l hl k (by omega)]
  simp only [Option.bind_some]
  obtain ⟨k, rfl⟩ : ∃ m, k = m + 1 := ⟨k - 1, by omega⟩
  by_cases hok : custOk l = true
  · have hb := lastP_bound l hok
    rw [if_pos hok, spec_l1In_is]
    simp only [Option.bind_some, spec_OrderBy.j0]
    split
    · exact ⟨_, rfl, by simp⟩
    · obtain ⟨r, e, hr⟩ : ∃ r, (∀ k, 200 ≤ k → spec_OrderBy.l1 k l rule [] (needs l) 0 = some r) ∧ r.length ≤ 200 := by
        obtain ⟨r, e, hr⟩ := spec_OrderBy_run l hok rule (lastP l).toNat 0 200 [] (needs l) (by omega) (by omega) (needs_length l) rfl
        refine ⟨r, fun k hk => ?_, hr⟩
        obtain ⟨r2, e2, -⟩ := spec_OrderBy_run l hok rule (lastP l).toNat 0 k [] (needs l) (by omega) (by omega) (needs_length l) rfl
        have mono : ∀ d, spec_OrderBy.l1 (200 + d) l rule [] (needs l) ((0 : Nat) : Int) = some r := by
          intro d
          induction d with
          | zero => exact e
          | succ d ih => exact (spec_OrderBy.mono_l (200 + d)).2.2 _ _ _ _ _ _ ih
        have := mono (k - 200)
        rw [show 200 + (k - 200) = k from by omega] at this
        exact this
      exact ⟨r, spec_OrderBy_left l hl rule r 200 e l 0 k [] rfl (by omega) (by omega) rfl, hr⟩
  · rw [if_neg hok]
    simp only [spec_OrderBy.j0]
    rw [if_pos trivial]
    exact ⟨_, rfl, by simp⟩
theorem l20Order_end {s : List Int} (hs : ∀ x ∈ s, 0 ≤ x ∧ x ≤ 255) (hl : s.length ≤ 2000) (n : Int) (hn : n ≤ 1000) (out : List Int) (ho : out.length ≤ 190) (p : Int) (hp : 0 ≤ p) (hp2 : p ≤ 4000) (k : Nat) (hk : 10 ≤ k) :
    ∃ r q, spec_l20Order.j3 k n out s p = some (r, q) ∧ r.length ≤ 200 ∧ 0 ≤ q ∧ q ≤ 5000 := by
  obtain ⟨k, rfl⟩ : ∃ m, k = m + 1 := ⟨k - 1, by omega⟩
  have h4 : ∀ (x : Bool) (p : Int) (k : Nat), 5 ≤ k → 0 ≤ p → p ≤ 4001 → (x = true → 0 < out.length) → ∃ r q, spec_l20Order.j4 k out x s p = some (r, q) ∧ r.length ≤ 200 ∧ 0 ≤ q ∧ q ≤ 5000 := by
    intro x p k hk hp hp2 hx
    obtain ⟨k, rfl⟩ : ∃ m, k = m + 1 := ⟨k - 1, by omega⟩
    simp only [spec_l20Order.j4]
    cases x with
    | false => rw [if_neg (by simp)]; exact ⟨_, _, rfl, by omega, by omega, by omega⟩
    | true =>
      have hx := hx rfl
      rw [if_pos rfl]
      obtain ⟨v, e, -⟩ := pick_ok (k := k) (by omega) hs hl p hp (by omega) 3
      rw [e]; simp only [Option.bind_some]
      by_cases v0 : v = 0
      · rw [if_pos v0, if_pos (by omega)]
        exact ⟨_, _, rfl, by rw [List.length_drop]; omega, by omega, by omega⟩
      · rw [if_neg v0]
        by_cases v1 : v = 1
        · rw [if_pos v1]
          obtain ⟨a, e1, a0, a1, -⟩ := pick_ok (k := k) (by omega) hs hl (p + 1) (by omega) (by omega) (out.length : Int)
          have a1 := a1 (by omega)
          rw [e1]; simp only [Option.bind_some]
          obtain ⟨b, e2, -⟩ := pick_ok (k := k) (by omega) hs hl (p + 1 + 1) (by omega) (by omega) 9
          rw [e2]; simp only [Option.bind_some]
          rw [if_pos a0, if_pos a1]
          exact ⟨_, _, rfl, by rw [List.length_set]; omega, by omega, by omega⟩
        · rw [if_neg v1, if_pos (by omega)]
          exact ⟨_, _, rfl, by rw [List.length_append]; simp only [List.length_cons, List.length_nil]; omega, by omega, by omega⟩
  simp only [spec_l20Order.j3]
  obtain ⟨b, q, e, hq1, hq2, -⟩ := odd_ok (k := k) (by omega) hs hl p hp (by omega) n hn
  rw [e]; simp only [Option.bind_some]
  split
  · exact h4 _ _ _ (by omega) (by omega) (by omega) (fun h => by rw [decide_eq_true_eq] at h; omega)
  · exact h4 _ _ _ (by omega) (by omega) (by omega) (fun h => by simp at h)
theorem l20Order_run {s : List Int} (hs : ∀ x ∈ s, 0 ≤ x ∧ x ≤ 255) (hl : s.length ≤ 2000) (n : Int) (hn : n ≤ 1000) (l : List S43) (h8 : l.length ≤ 8) (idle : Bool) : ∀ (d i k : Nat) (out left : List Int) (p : Int), i + d = 190 → 12 * d + 20 ≤ k → left.length = l.length → out.length = i → 0 ≤ p → p + 2 * d ≤ 4000 →
    ∃ r q, spec_l20Order.l1 k l n out left idle (i : Int) s p = some (r, q) ∧ r.length ≤ 200 ∧ 0 ≤ q ∧ q ≤ 5000 := by
  intro d
  induction d with
  | zero =>
    intro i k out left p hi hk hll ho hp hp2
    obtain ⟨k, rfl⟩ : ∃ m, k = m + 1 := ⟨k - 1, by omega⟩
    simp only [spec_l20Order.l1]
    rw [if_neg (by omega)]
    exact l20Order_end hs hl n hn out (by omega) p hp (by omega) k (by omega)
  | succ d ih =>
    intro i k out left p hi hk hll ho hp hp2
    obtain ⟨k, rfl⟩ : ∃ m, k = m + 1 := ⟨k - 1, by omega⟩
    simp only [spec_l20Order.l1]
    rw [if_pos (by omega)]
    have hnext : ∀ (k : Nat) (out' left' : List Int) (p' : Int), 12 * d + 20 ≤ k → out'.length = i + 1 → left'.length = l.length → p ≤ p' → p' ≤ p + 2 → ∃ r q, spec_l20Order.l1 k l n out' left' idle ((i + 1 : Nat) : Int) s p' = some (r, q) ∧ r.length ≤ 200 ∧ 0 ≤ q ∧ q ≤ 5000 :=
      fun k out' left' p' hk ho hl' h1 h2 => ih (i + 1) k out' left' p' (by omega) hk hl' ho (by omega) (by omega)
    have inner : ∀ (e j k : Nat) (there : List Int) (more : Bool), j + e = l.length → 12 * d + 22 + e ≤ k → there.length ≤ j → (∀ w ∈ there, 0 ≤ w ∧ w < (l.length : Int)) → ∃ r q, spec_l20Order.l2 k l n out left idle (i : Int) there more (j : Int) s p = some (r, q) ∧ r.length ≤ 200 ∧ 0 ≤ q ∧ q ≤ 5000 := by
      intro e
      induction e with
      | zero =>
        intro j k there more hj hk ht hm
        obtain ⟨k, rfl⟩ : ∃ m, k = m + 1 := ⟨k - 1, by omega⟩
        have hidle : ∀ (x : List Int), x.length = 1 → (out ++ x).length = i + 1 := fun x hx => by rw [List.length_append, ho, hx]
        simp only [spec_l20Order.l2]
        rw [if_neg (by omega)]
        cases more with
        | false => rw [if_neg (by simp)]; exact l20Order_end hs hl n hn out (by omega) p hp (by omega) k (by omega)
        | true =>
          rw [if_pos rfl, w64s i (by omega)]
          by_cases h0 : (there.length : Int) = 0
          · rw [if_pos h0, if_pos (by omega)]
            exact hnext k _ _ p (by omega) (hidle _ rfl) hll (by omega) (by omega)
          · rw [if_neg h0]
            have who : ∀ (p' : Int), p ≤ p' → p' ≤ p + 1 → ∃ r q, ((spec_l20Rd_pick.f k s p' (there.length : Int)).bind fun bt288 => (if 0 ≤ bt288.1 then (if bt288.1 < (there.length : Int) then (if 0 ≤ (rd there bt288.1) then (if (rd there bt288.1) < (left.length : Int) then (if out.length < 17592186044416 then (spec_l20Order.l1 k l n (out ++ [rd there bt288.1]) (left.set ((rd there bt288.1) : Int).toNat (wrap64 ((rd left (rd there bt288.1)) - 1))) idle ((i + 1 : Nat) : Int) s bt288.2) else (none)) else (none)) else (none)) else (none)) else (none))) = some (r, q) ∧ r.length ≤ 200 ∧ 0 ≤ q ∧ q ≤ 5000 := by
              intro p' h1 h2
              obtain ⟨a, e1, a0, a1, -⟩ := pick_ok (k := k) (by omega) hs hl p' (by omega) (by omega) (there.length : Int)
              have a1 := a1 (by omega)
              rw [e1]; simp only [Option.bind_some]
              have hr : rd there a ∈ there := by
                rw [show a = ((a.toNat : Nat) : Int) from by omega, rd_nat]
                exact getD_mem (by omega) 0
              obtain ⟨m1, m2⟩ := hm _ hr
              rw [if_pos a0, if_pos a1, if_pos m1, if_pos (by omega), if_pos (by omega)]
              exact hnext k _ _ _ (by omega) (hidle _ rfl) (by rw [List.length_set]; exact hll) (by omega) (by omega)
            split
            · split
              · obtain ⟨v, ev, -⟩ := pick_ok (k := k) (by omega) hs hl p hp (by omega) 8
                rw [ev]; simp only [Option.bind_some]
                split
                · rw [if_pos (by omega)]
                  exact hnext k _ _ _ (by omega) (hidle _ rfl) hll (by omega) (by omega)
                · exact who (p + 1) (by omega) (by omega)
              · exact who p (by omega) (by omega)
            · exact who p (by omega) (by omega)
      | succ e ihe =>
        intro j k there more hj hk ht hm
        obtain ⟨k, rfl⟩ : ∃ m, k = m + 1 := ⟨k - 1, by omega⟩
        have st : ∀ (more : Bool), ∃ r q, spec_l20Order.l2 k l n out left idle (i : Int) there more ((j + 1 : Nat) : Int) s p = some (r, q) ∧ r.length ≤ 200 ∧ 0 ≤ q ∧ q ≤ 5000 :=
          fun more => ihe (j + 1) k there more (by omega) (by omega) (by omega) hm
        have st2 : ∀ (more : Bool), ∃ r q, spec_l20Order.l2 k l n out left idle (i : Int) (there ++ [(j : Int)]) more ((j + 1 : Nat) : Int) s p = some (r, q) ∧ r.length ≤ 200 ∧ 0 ≤ q ∧ q ≤ 5000 :=
          fun more => ihe (j + 1) k _ more (by omega) (by omega) (by rw [List.length_append]; simp only [List.length_cons, List.length_nil]; omega) (fun w hw => by
            rw [List.mem_append, List.mem_singleton] at hw
            rcases hw with hw | hw
            · exact hm w hw
            · omega)
        simp only [spec_l20Order.l2]
        rw [if_pos (by omega), w64s j (by omega)]
        have j0 : 0 ≤ (j : Int) := by omega
        have j1 : (j : Int) < (left.length : Int) := by omega
        have j2 : there.length < 17592186044416 := by omega
        simp only [if_pos j0, if_pos j1, if_pos j2]
        repeat' split
        all_goals first | exact st _ | exact st2 _
    have := inner l.length 0 k [] false (by omega) (by omega) (by simp) (by simp)
    exact this
theorem l20Order_left {s : List Int} (hs : ∀ x ∈ s, 0 ≤ x ∧ x ≤ 255) (hls : s.length ≤ 2000) (n : Int) (hn : n ≤ 1000) (l : List S43) (h8 : l.length ≤ 8) (p : Int) (hp : 0 ≤ p) (hp2 : p ≤ 2000) : ∀ (suf : List S43) (i k : Nat) (out : List Int), l.drop i = suf → 3000 + suf.length + 1 ≤ k → i ≤ l.length → out = needs (l.take i) → ∃ r q, spec_l20Order.l0 k l n [] out i s p = some (r, q) ∧ r.length ≤ 200 ∧ 0 ≤ q ∧ q ≤ 5000 := by
  intro suf
  induction suf with
  | nil =>
    intro i k out hd hk hi ho
    obtain ⟨k, rfl⟩ : ∃ m, k = m + 1 := ⟨k - 1, by omega⟩
    have := drop_nil hd
    rw [spec_l20Order.l0]
    rw [if_neg (by omega), ho, List.take_of_length_le (by omega)]
    simp only [List.length_nil] at hk
    obtain ⟨v, e, -⟩ := pick_ok (k := k) (by omega) hs hls p hp (by omega) 3
    rw [e]; simp only [Option.bind_some]
    exact l20Order_run hs hls n hn l h8 _ 190 0 k [] (needs l) (p + 1) (by omega) (by omega) (needs_length l) rfl (by omega) (by omega)
  | cons x xs ih =>
    intro i k out hd hk hi ho
    obtain ⟨k, rfl⟩ : ∃ m, k = m + 1 := ⟨k - 1, by omega⟩
    obtain ⟨hlt, hd2, hx⟩ := drop_split hd
    rw [spec_l20Order.l0]
    have hol : out.length = i := by rw [ho, needs_length, List.length_take]; omega
    rw [if_pos (by omega), if_pos (by omega), if_pos (by omega), rd_Customer_nat, hx, w64s i (by omega)]
    exact ih (i + 1) k _ hd2 (by simp at hk; omega) (by omega) (by rw [ho, take_succ_getD hlt z43, hx]; simp [needs])
theorem l20Served_ok {s : List Int} (hs : ∀ x ∈ s, 0 ≤ x ∧ x ≤ 255) (hls : s.length ≤ 2000) (n : Int) (hn : n ≤ 1000) (k : Nat) (hk : 4000 ≤ k) (p : Int) (hp : 0 ≤ p) (hp2 : p ≤ 100) :
    ∃ r o q, spec_l20Served.f k s p n = some (r, o, q) ∧ r.length ≤ 200 ∧ o.length ≤ 200 ∧ 0 ≤ q ∧ q ≤ 5000 := by
  unfold spec_l20Served.f
  obtain ⟨r, q, e, h1, h2, h3⟩ := l20Customers_ok hs hls 14 (by omega) k (by omega) p hp (by omega)
  rw [e]; simp only [Option.bind_some]
  obtain ⟨v, e1, -⟩ := pick_ok (k := k) (by omega) hs hls q (by omega) (by omega) 3
  rw [e1]; simp only [Option.bind_some]
  by_cases v0 : v = 0
  · rw [if_pos v0]
    obtain ⟨v2, e2, -⟩ := pick_ok (k := k) (by omega) hs hls (q + 1) (by omega) (by omega) 4
    rw [e2]; simp only [Option.bind_some]
    obtain ⟨o, e3, ho⟩ := spec_OrderBy_ok r (by omega) v2 k (by omega)
    rw [e3]; simp only [Option.bind_some]
    exact ⟨_, _, _, rfl, h1, ho, by omega, by omega⟩
  · rw [if_neg v0]
    have : ∃ o q2, spec_l20Order.f k s (q + 1) r n = some (o, q2) ∧ o.length ≤ 200 ∧ 0 ≤ q2 ∧ q2 ≤ 5000 := by
      unfold spec_l20Order.f
      rw [spec_CustomersOk_is r (by omega) k (by omega)]; simp only [Option.bind_some]
      by_cases hok : custOk r = true
      · rw [if_pos hok]
        have := custOk_len hok
        exact l20Order_left hs hls n hn r this (q + 1) (by omega) (by omega) r 0 k [] rfl (by omega) (by omega) rfl
      · rw [if_neg hok]
        exact ⟨_, _, rfl, by simp, by omega, by omega⟩
    obtain ⟨o, q2, e3, h4, h5, h6⟩ := this
    rw [e3]; simp only [Option.bind_some]
    exact ⟨_, _, _, rfl, h1, h4, h5, h6⟩

/-! law_AheadBy -/
theorem drawAheadBy_ok {l : List Int} (hb : ∀ x ∈ l, 0 ≤ x ∧ x ≤ 255) (k : Nat) (hk : 4000 ≤ k) : ∃ r o a b, spec_DrawAheadBy.f k l = some (r, o, a, b) ∧ r.length ≤ 200 ∧ o.length ≤ 200 := by
  unfold spec_DrawAheadBy.f
  obtain ⟨s, e0, hs, hls⟩ := open_ok hb
  rw [e0, Option.bind_some]; dsimp only
  obtain ⟨r, o, q, e, h1, h2, h3, h4⟩ := l20Served_ok hs hls 12 (by omega) k hk 0 (by omega) (by omega)
  rw [e, Option.bind_some]; dsimp only
  obtain ⟨v1, e1, a1, b1, -⟩ := pick_ok (k := k) (by omega) hs hls q (by omega) (by omega) 2
  rw [e1, Option.bind_some]; dsimp only
  obtain ⟨v3, e3, -⟩ := pick_ok (k := k) (by omega) hs hls (q + 1) (by omega) (by omega) (wrap64 ((r.length : Int) + 1))
  obtain ⟨v4, e4, -⟩ := pick_ok (k := k) (by omega) hs hls (q + 1 + 1) (by omega) (by omega) (mx (r.length : Int) 1)
  by_cases h : v1 = 0
  · rw [if_pos h, spec_RoundOrder_is r (by omega) k (by omega), Option.bind_some, e3, Option.bind_some]; dsimp only
    rw [e4, Option.bind_some]
    exact ⟨_, _, _, _, rfl, h1, roundOrderP_len r⟩
  · rw [if_neg h, e3, Option.bind_some]; dsimp only
    rw [e4, Option.bind_some]
    exact ⟨_, _, _, _, rfl, h1, h2⟩
theorem FnAheadBy : laws_FnAheadBy.Pure := by
  intro l0 hl hl2 hb
  refine ⟨60000, ?_⟩
  unfold laws_FnAheadBy.f
  by_cases hbig : (l0.length : Int) > 1048576
  · rw [if_pos hbig]
  · rw [if_neg hbig]
    obtain ⟨r, o, a, b, e, h1, h2⟩ := drawAheadBy_ok (bytes_of hb) 60000 (by omega)
    rw [e, Option.bind_some]; dsimp only
    rw [impl_AheadBy_is r o (by omega) a b _ (by omega), spec_AheadBy_is r o (by omega) (by omega) a b _ (by omega), impl_AheadBy_is r o (by omega) b a _ (by omega), impl_AheadBy_is r o (by omega) a a _ (by omega), aheadP_symm r o a b]
    simp only [Option.bind_some]
    rw [if_pos trivial, if_pos trivial]
    by_cases hc : orderOk r o = true ∧ (0 ≤ a ∧ a ≤ (r.length : Int) - 1) ∧ 0 ≤ b ∧ b ≤ (r.length : Int) - 1
    · have hn : 0 ≤ aheadP r o a b := by unfold aheadP; rw [if_pos hc]; exact outerP_ge _ _ _ _
      have h0 : aheadP r o a a = 0 := by unfold aheadP; rw [if_pos ⟨hc.1, hc.2.1, hc.2.1⟩]; exact outerP_self _ _ _ (Int.le_refl _)
      have hle : aheadP r o a b ≤ mx (rd_T43 r a).f1 (rd_T43 r b).f1 := by
        have ga := orderOk_cnt hc.1 a.toNat (by omega)
        have gb := orderOk_cnt hc.1 b.toNat (by omega)
        rw [show ((a.toNat : Nat) : Int) = a from by omega] at ga
        rw [show ((b.toNat : Nat) : Int) = b from by omega] at gb
        have ra : (rd_T43 r a).f1 = cntW a o := by rw [ga, show rd_T43 r a = rd_T43 r ((a.toNat : Nat) : Int) from by rw [show ((a.toNat : Nat) : Int) = a from by omega], rd_Customer_nat]
        have rb : (rd_T43 r b).f1 = cntW b o := by rw [gb, show rd_T43 r b = rd_T43 r ((b.toNat : Nat) : Int) from by rw [show ((b.toNat : Nat) : Int) = b from by omega], rd_Customer_nat]
        rw [ra, rb, mx_max]
        unfold aheadP
        rw [if_pos hc]
        have na := (cntW_bound a o).1
        refine outerP_cnt _ _ _ _ _ (by omega) ?_ ?_
        · exact Int.le_trans (cntW_seg a o _ _) (by omega)
        · exact Int.le_trans (cntW_seg b o _ _) (by omega)
      rw [if_neg (by omega), h0, if_pos rfl, if_pos (by omega), if_pos (by omega), if_pos (by omega), if_pos (by omega), decide_eq_true hle]
    · have hn : aheadP r o a b = -1 := by unfold aheadP; rw [if_neg hc]
      rw [hn, if_pos (by omega), if_pos rfl, alive_is _ (by omega)]; rfl

end Go.Proofs.Ytbljbcgooenjfaa.Pure
