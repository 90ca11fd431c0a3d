/- The pure part of the proof of FnRoundEnds: the printed functions answer true, for every drawn or given argument within the row's own bounds; no further condition. -/
import Derived.Test.YtbljbcgooenjfaaPFnRoundEndsx10
import Derived.Laws.BitsLemmas
namespace Go.Proofs.Ytbljbcgooenjfaa.Pure
open Go.RowKit Go.Proofs.Ytbljbcgooenjfaa.PFnRoundEnds Go.Proofs.YtbljbcgooenjfaaW.PrintWords Go.Proofs.YtbljbcgooenjfaaW.PrintLast Go.Proofs.YtbljbcgooenjfaaW.PrintMore
set_option linter.unusedVariables false
set_option linter.unusedSimpArgs false
/-! base -/
theorem w64 {x : Int} (h0 : -9223372036854775808 ≤ x) (h1 : x ≤ 9223372036854775807) : wrap64 x = x := by
  unfold wrap64
  omega
theorem w64s (n : Nat) (h : n ≤ 4611686018427387904) : wrap64 ((n : Int) + 1) = ((n + 1 : Nat) : Int) := by
  unfold wrap64
  omega
theorem drop_split {α : Type} {l : List α} {i : Nat} {x : α} {xs : List α} (h : l.drop i = x :: xs) : i < l.length ∧ l.drop (i + 1) = xs ∧ ∀ d, l.getD i d = x := by
  have hi : i < l.length := by
    have h2 : 0 < (l.drop i).length := by rw [h]; simp
    rw [List.length_drop] at h2
    omega
  rw [List.drop_eq_getElem_cons hi] at h
  injection h with h1 h2
  exact ⟨hi, h2, fun d => by rw [List.getD_eq_getElem?_getD, List.getElem?_eq_getElem hi, h1]; rfl⟩
theorem drop_nil {α : Type} {l : List α} {i : Nat} (h : l.drop i = []) : l.length ≤ i := List.drop_eq_nil_iff.1 h
theorem getD_lt {α : Type} {l : List α} {i : Nat} (h : i < l.length) (d : α) : l.getD i d = l[i] := by
  rw [List.getD_eq_getElem?_getD, List.getElem?_eq_getElem h]; rfl
theorem rd_nat (l : List Int) (i : Nat) : rd l (i : Int) = l.getD i 0 := by
  unfold rd
  rw [Int.toNat_natCast]
theorem getD_mem {α : Type} {l : List α} {i : Nat} (h : i < l.length) (d : α) : l.getD i d ∈ l := by
  rw [getD_lt h]; exact List.getElem_mem h
theorem take_succ_getD {α : Type} {l : List α} {i : Nat} (h : i < l.length) (d : α) : l.take (i + 1) = l.take i ++ [l.getD i d] := by
  rw [getD_lt h, List.take_succ_eq_append_getElem h]
theorem mx_max (a b : Int) : mx a b = max a b := by
  unfold mx; omega
theorem mn_min (a b : Int) : mn a b = min a b := by
  unfold mn; omega
theorem bind_of {α β : Type} {o : Option α} {r : α} {f : α → Option β} {s : Option β} (h : o = some r) (h2 : f r = s) : o.bind f = s := by rw [h]; exact h2
theorem getD_snoc_last {α : Type} (l : List α) (x d : α) {i : Nat} (h : l.length = i) : (l ++ [x]).getD i d = x := by
  subst h
  rw [List.getD_eq_getElem?_getD, List.getElem?_append_right (Nat.le_refl _), Nat.sub_self]
  rfl
theorem getD_snoc_lt {α : Type} (l r : List α) (d : α) {i : Nat} (h : i < l.length) : (l ++ r).getD i d = l.getD i d := by
  rw [List.getD_eq_getElem?_getD, List.getElem?_append_left h, List.getD_eq_getElem?_getD]

/-! pick -/
theorem xor_small (a b : Int) (ha : 0 ≤ a) (ha2 : a < 1099511627776) (hb : 0 ≤ b) (hb2 : b < 1099511627776) : 0 ≤ Go.bits .xor .i64 a b ∧ Go.bits .xor .i64 a b < 1099511627776 := by
  obtain ⟨x, rfl⟩ := Int.eq_ofNat_of_zero_le ha
  obtain ⟨y, rfl⟩ := Int.eq_ofNat_of_zero_le hb
  have hx : x < 2 ^ 40 := by have : (x : Int) < 1099511627776 := ha2; omega
  have hy : y < 2 ^ 40 := by have : (y : Int) < 1099511627776 := hb2; omega
  have hz : x ^^^ y < 2 ^ 40 := Nat.xor_lt_two_pow hx hy
  have e : Go.bits .xor .i64 (x : Int) (y : Int) = ((x ^^^ y : Nat) : Int) := by
    have hx' : x % 2 ^ IntKind.i64.bits = x := Nat.mod_eq_of_lt (Nat.lt_of_lt_of_le hx (Nat.pow_le_pow_right (by decide) (by decide)))
    have hy' : y % 2 ^ IntKind.i64.bits = y := Nat.mod_eq_of_lt (Nat.lt_of_lt_of_le hy (Nat.pow_le_pow_right (by decide) (by decide)))
    simp only [bits, BitVec.ofInt_natCast, BitVec.toNat_xor, BitVec.toNat_ofNat, hx', hy']
    rw [IntKind.wrap_i64]
    omega
  rw [e]
  omega
theorem tmod_in (x n : Int) (hx : 0 ≤ x) (hn : 1 ≤ n) : 0 ≤ Int.tmod x n ∧ Int.tmod x n < n := by
  rw [Int.tmod_eq_emod_of_nonneg hx]
  exact ⟨Int.emod_nonneg _ (by omega), Int.emod_lt_of_pos _ (by omega)⟩
theorem rd_byte {s : List Int} (hs : ∀ x ∈ s, 0 ≤ x ∧ x ≤ 255) (i : Int) : 0 ≤ rd s i ∧ rd s i ≤ 255 := by
  unfold rd
  by_cases h : i.toNat < s.length
  · exact hs _ (getD_mem h 0)
  · rw [List.getD_eq_getElem?_getD, List.getElem?_eq_none (by omega)]; simp
/-- The reader: what it draws lies in 0..n-1, and its place goes on by one. -/
theorem pick_ok {k : Nat} (hk : 1 ≤ k) {s : List Int} (hs : ∀ x ∈ s, 0 ≤ x ∧ x ≤ 255) (hl : s.length ≤ 2000) (p : Int) (hp : 0 ≤ p) (hp2 : p ≤ 1000000) (n : Int) :
    ∃ v, spec_l20Rd_pick.f k s p n = some (v, p + 1) ∧ 0 ≤ v ∧ (1 ≤ n → v < n) ∧ (n < 1 → v = 0) := by
  obtain ⟨k, rfl⟩ : ∃ m, k = m + 1 := ⟨k - 1, by omega⟩
  have hw : wrap64 (p + 1) = p + 1 := w64 (by omega) (by omega)
  unfold spec_l20Rd_pick.f
  by_cases hn : n < 1
  · refine ⟨0, ?_, by omega, by omega, fun _ => rfl⟩
    rw [if_pos hn, hw]
    simp only [spec_l20Rd_pick.j0]
    rw [if_pos trivial]
  · rw [if_neg hn, hw]
    simp only [spec_l20Rd_pick.j0]
    by_cases he : (s.length : Int) = 0
    · refine ⟨0, ?_, by omega, by omega, fun _ => rfl⟩
      rw [if_pos (by simpa using he)]
    · have hpp : wrap64 (p + 1 - 1) = p := by rw [w64 (by omega) (by omega)]; omega
      rw [if_neg (by simpa using he), hpp]
      have hn0 : ¬ n = 0 := by omega
      have hb := fun i => rd_byte hs i
      by_cases hlt : p < (s.length : Int)
      · have hr := hb p
        have hwr : wrap64 (rd s p) = rd s p := w64 (by omega) (by omega)
        rw [if_pos hlt, if_pos hp, if_neg hn0, hwr]
        have ht := tmod_in (rd s p) n hr.1 (by omega)
        exact ⟨_, rfl, ht.1, fun _ => ht.2, fun h => absurd h hn⟩
      · have hL : 1 ≤ (s.length : Int) := by omega
        have e7 : wrap64 (p * 7) = p * 7 := w64 (by omega) (by omega)
        have e73 : wrap64 (p * 7 + 3) = p * 7 + 3 := w64 (by omega) (by omega)
        have t1 := tmod_in p (s.length : Int) hp hL
        have t2 := tmod_in (p * 7 + 3) (s.length : Int) (by omega) hL
        have r1 := hb (Int.tmod p (s.length : Int))
        have r2 := hb (Int.tmod (p * 7 + 3) (s.length : Int))
        rw [if_neg hlt, if_neg he, if_pos t1.1, if_pos t1.2, e7, e73, if_pos t2.1, if_pos t2.2, if_neg hn0]
        generalize rd s (Int.tmod p (s.length : Int)) = a at *
        generalize rd s (Int.tmod (p * 7 + 3) (s.length : Int)) = b at *
        have hq : Int.tdiv p (s.length : Int) = p / (s.length : Int) := Int.tdiv_eq_ediv_of_nonneg hp
        have q0 : 0 ≤ p / (s.length : Int) := Int.ediv_nonneg hp (by omega)
        have q1 : p / (s.length : Int) ≤ p := Int.ediv_le_self _ hp
        rw [hq]
        generalize p / (s.length : Int) = q at *
        have ea : wrap64 a = a := w64 (by omega) (by omega)
        have eb : wrap64 b = b := w64 (by omega) (by omega)
        have ea2 : wrap64 (a * 131) = a * 131 := w64 (by omega) (by omega)
        have eb2 : wrap64 (b * 1117) = b * 1117 := w64 (by omega) (by omega)
        have ep : wrap64 (p * 29) = p * 29 := w64 (by omega) (by omega)
        have eq_ : wrap64 q = q := w64 (by omega) (by omega)
        have eq2 : wrap64 (q * 53) = q * 53 := w64 (by omega) (by omega)
        have e1 : wrap64 (a * 131 + b * 1117) = a * 131 + b * 1117 := w64 (by omega) (by omega)
        have e2 : wrap64 (a * 131 + b * 1117 + p * 29) = a * 131 + b * 1117 + p * 29 := w64 (by omega) (by omega)
        have e3 : wrap64 (a * 131 + b * 1117 + p * 29 + q * 53) = a * 131 + b * 1117 + p * 29 + q * 53 := w64 (by omega) (by omega)
        rw [ea, eb, ea2, eb2, ep, eq_, eq2, e1, e2, e3]
        have hX0 : 0 ≤ a * 131 + b * 1117 + p * 29 + q * 53 := by omega
        have hX1 : a * 131 + b * 1117 + p * 29 + q * 53 < 1099511627776 := by omega
        generalize a * 131 + b * 1117 + p * 29 + q * 53 = X at *
        have hd : Int.tdiv X 64 = X / 64 := Int.tdiv_eq_ediv_of_nonneg hX0
        have ed : wrap64 (X / 64) = X / 64 := w64 (by omega) (by omega)
        rw [hd, ed]
        have hx := xor_small X (X / 64) hX0 hX1 (by omega) (by omega)
        have ht := tmod_in (Go.bits .xor .i64 X (X / 64)) n hx.1 (by omega)
        exact ⟨_, rfl, ht.1, fun _ => ht.2, fun h => absurd h hn⟩
theorem odd_ok {k : Nat} (hk : 1 ≤ k) {s : List Int} (hs : ∀ x ∈ s, 0 ≤ x ∧ x ≤ 255) (hl : s.length ≤ 2000) (p : Int) (hp : 0 ≤ p) (hp2 : p ≤ 1000000) (n : Int) (hn : n ≤ 1000) :
    ∃ b q, spec_l20Rd_odd.f k s p n = some (b, q) ∧ p ≤ q ∧ q ≤ p + 1 ∧ (n ≤ 0 → b = false) := by
  unfold spec_l20Rd_odd.f
  by_cases h : n > 0
  · obtain ⟨v, hv, -⟩ := pick_ok hk hs hl p hp hp2 n
    rw [if_pos h, hv]
    exact ⟨_, _, rfl, by simp only; omega, by simp only; omega, fun hh => by omega⟩
  · rw [if_neg h]
    exact ⟨_, _, rfl, by omega, by omega, fun _ => rfl⟩
theorem open_ok {s : List Int} (hs : ∀ x ∈ s, 0 ≤ x ∧ x ≤ 255) : ∃ t, spec_l20Open.f s = some (t, 0) ∧ (∀ x ∈ t, 0 ≤ x ∧ x ≤ 255) ∧ t.length ≤ 2000 := by
  unfold spec_l20Open.f
  by_cases h : (s.length : Int) > 2000
  · rw [if_pos h, if_pos (by omega)]
    exact ⟨_, rfl, fun x hx => hs x (List.mem_of_mem_take hx), by rw [List.length_take]; omega⟩
  · rw [if_neg h]
    exact ⟨_, rfl, hs, by omega⟩
theorem bytes_of {l : List Int} (h : ∀ x ∈ l, (Lit.int .u8 x).wf = true) : ∀ x ∈ l, 0 ≤ x ∧ x ≤ 255 := by
  intro x hx
  have := h x hx
  simp only [Lit.wf, IntKind.min, IntKind.max, IntKind.signed, IntKind.bits, Bool.and_eq_true, decide_eq_true_eq, Bool.false_eq_true, if_false] at this
  omega

/-! l1in -/
theorem spec_l1In_is (a b c : Int) : spec_l1In.f a b c = some (decide (b ≤ a ∧ a ≤ c)) := by
  unfold spec_l1In.f
  by_cases h : a ≥ b
  · rw [if_pos h]
    congr 1
    apply decide_eq_decide.2
    omega
  · rw [if_neg h]
    congr 1
    symm
    exact decide_eq_false (by omega)

/-! customers -/
/-- Customers, as both texts ask: seen from a place on, with the one ahead. -/
def custFrom : Option S43 → List S43 → Bool
  | _, [] => true
  | none, c :: cs => decide (0 ≤ c.f0 ∧ c.f0 ≤ 60 ∧ 1 ≤ c.f1 ∧ c.f1 ≤ 9) && custFrom (some c) cs
  | some p, c :: cs => decide (0 ≤ c.f0 ∧ c.f0 ≤ 60 ∧ 1 ≤ c.f1 ∧ c.f1 ≤ 9 ∧ p.f0 ≤ c.f0) && custFrom (some c) cs
def custOk (l : List S43) : Bool := custFrom none l && decide (l.length ≤ 8)
theorem rd_Customer_nat (l : List S43) (i : Nat) : rd_T43 l (i : Int) = l.getD i z43 := by
  unfold rd_T43
  rw [Int.toNat_natCast]
theorem cust_bad {p : Option S43} {x : S43} {xs : List S43} (h : ¬ (0 ≤ x.f0 ∧ x.f0 ≤ 60 ∧ 1 ≤ x.f1 ∧ x.f1 ≤ 9)) : custFrom p (x :: xs) = false := by
  cases p with
  | none => simp only [custFrom, decide_eq_false h, Bool.false_and]
  | some q => simp only [custFrom, decide_eq_false (show ¬ (0 ≤ x.f0 ∧ x.f0 ≤ 60 ∧ 1 ≤ x.f1 ∧ x.f1 ≤ 9 ∧ q.f0 ≤ x.f0) from fun hh => h ⟨hh.1, hh.2.1, hh.2.2.1, hh.2.2.2.1⟩), Bool.false_and]
theorem cust_bad2 {p x : S43} {xs : List S43} (h : x.f0 < p.f0) : custFrom (some p) (x :: xs) = false := by
  simp only [custFrom, decide_eq_false (show ¬ (0 ≤ x.f0 ∧ x.f0 ≤ 60 ∧ 1 ≤ x.f1 ∧ x.f1 ≤ 9 ∧ p.f0 ≤ x.f0) from fun hh => by omega), Bool.false_and]
theorem impl_CustomersOk_loop (l : List S43) (hl : l.length ≤ 1048576) : ∀ (suf : List S43) (i k : Nat), l.drop i = suf → suf.length < k → i ≤ l.length →
    impl_CustomersOk.l0 k l l (l.length : Int) i = some (custFrom (if i = 0 then none else some (l.getD (i - 1) z43)) suf && decide (l.length ≤ 8)) := by
  intro suf
  induction suf with
  | nil =>
    intro i k hd hk hi
    obtain ⟨k, rfl⟩ : ∃ m, k = m + 1 := ⟨k - 1, by omega⟩
    have := drop_nil hd
    simp only [impl_CustomersOk.l0]
    rw [if_neg (by omega)]
    congr 1
    have e : (decide ((l.length : Int) ≤ 8)) = decide (l.length ≤ 8) := decide_eq_decide.2 (by omega)
    rw [e]
    split <;> simp [custFrom]
  | cons x xs ih =>
    intro i k hd hk hi
    obtain ⟨k, rfl⟩ : ∃ m, k = m + 1 := ⟨k - 1, by omega⟩
    obtain ⟨hlt, hd2, hx⟩ := drop_split hd
    simp only [impl_CustomersOk.l0]
    rw [if_pos (by omega), if_pos (by omega), if_pos (by omega), rd_Customer_nat, hx, w64s i (by omega), ih (i + 1) k hd2 (by simp at hk; omega) (by omega)]
    rw [if_neg (show ¬ i + 1 = 0 by omega), show i + 1 - 1 = i from rfl, hx]
    by_cases h1 : x.f0 < 0
    · rw [if_pos h1, cust_bad (by omega), Bool.false_and]
    rw [if_neg h1]
    by_cases h2 : x.f0 > 60
    · rw [if_pos h2, cust_bad (by omega), Bool.false_and]
    rw [if_neg h2]
    by_cases hi0 : i = 0
    · subst hi0
      rw [if_neg (by omega)]
      by_cases h3 : x.f1 < 1
      · rw [if_pos h3, cust_bad (by omega), Bool.false_and]
      rw [if_neg h3]
      by_cases h4 : x.f1 > 9
      · rw [if_pos h4, cust_bad (by omega), Bool.false_and]
      rw [if_neg h4, if_pos rfl]
      have e : decide (0 ≤ x.f0 ∧ x.f0 ≤ 60 ∧ 1 ≤ x.f1 ∧ x.f1 ≤ 9) = true := decide_eq_true (by omega)
      simp only [custFrom, e, Bool.true_and]
    · rw [if_pos (by omega), show wrap64 ((i : Int) - 1) = ((i - 1 : Nat) : Int) from by rw [w64 (by omega) (by omega)]; omega, if_pos (by omega), if_pos (by omega), rd_Customer_nat, if_neg hi0]
      by_cases h5 : x.f0 < (l.getD (i - 1) z43).f0
      · rw [if_pos h5, cust_bad2 h5, Bool.false_and]
      rw [if_neg h5]
      by_cases h3 : x.f1 < 1
      · rw [if_pos h3, cust_bad (by omega), Bool.false_and]
      rw [if_neg h3]
      by_cases h4 : x.f1 > 9
      · rw [if_pos h4, cust_bad (by omega), Bool.false_and]
      rw [if_neg h4]
      have e : decide (0 ≤ x.f0 ∧ x.f0 ≤ 60 ∧ 1 ≤ x.f1 ∧ x.f1 ≤ 9 ∧ (l.getD (i - 1) z43).f0 ≤ x.f0) = true := decide_eq_true (by omega)
      simp only [custFrom, e, Bool.true_and]
theorem impl_CustomersOk_is (l : List S43) (hl : l.length ≤ 1048576) (k : Nat) (hk : l.length < k) : impl_CustomersOk.f k l = some (custOk l) := by
  unfold impl_CustomersOk.f
  exact impl_CustomersOk_loop l hl l 0 k rfl hk (by omega)

/-! custspec -/
theorem spec_CustomersOk_loop (l : List S43) (hl : l.length ≤ 1048576) : ∀ (suf : List S43) (i k : Nat), l.drop i = suf → suf.length < k → i ≤ l.length →
    spec_CustomersOk.l0 k l i = some (custFrom (if i = 0 then none else some (l.getD (i - 1) z43)) suf && decide (l.length ≤ 8)) := by
  intro suf
  induction suf with
  | nil =>
    intro i k hd hk hi
    obtain ⟨k, rfl⟩ : ∃ m, k = m + 1 := ⟨k - 1, by omega⟩
    have := drop_nil hd
    simp only [spec_CustomersOk.l0]
    rw [if_neg (by omega)]
    congr 1
    have e : (decide ((l.length : Int) ≤ 8)) = decide (l.length ≤ 8) := decide_eq_decide.2 (by omega)
    rw [e]
    split <;> simp [custFrom]
  | cons x xs ih =>
    intro i k hd hk hi
    obtain ⟨k, rfl⟩ : ∃ m, k = m + 1 := ⟨k - 1, by omega⟩
    obtain ⟨hlt, hd2, hx⟩ := drop_split hd
    simp only [spec_CustomersOk.l0]
    rw [if_pos (by omega), if_pos (by omega), rd_Customer_nat, hx, spec_l1In_is, spec_l1In_is, w64s i (by omega), ih (i + 1) k hd2 (by simp at hk; omega) (by omega)]
    simp only [Option.bind_some, decide_eq_true_eq]
    rw [if_neg (show ¬ i + 1 = 0 by omega), show i + 1 - 1 = i from rfl, hx]
    by_cases h1 : 0 ≤ x.f0 ∧ x.f0 ≤ 60
    · rw [if_pos h1]
      by_cases h2 : 1 ≤ x.f1 ∧ x.f1 ≤ 9
      · rw [if_pos h2]
        by_cases hi0 : i = 0
        · subst hi0
          rw [if_neg (by omega), if_pos rfl]
          have e : decide (0 ≤ x.f0 ∧ x.f0 ≤ 60 ∧ 1 ≤ x.f1 ∧ x.f1 ≤ 9) = true := decide_eq_true (by omega)
          simp only [custFrom, e, Bool.true_and]
        · rw [if_pos (by omega), show wrap64 ((i : Int) - 1) = ((i - 1 : Nat) : Int) from by rw [w64 (by omega) (by omega)]; omega, if_pos (by omega), if_pos (by omega), rd_Customer_nat, if_neg hi0]
          by_cases h5 : x.f0 < (l.getD (i - 1) z43).f0
          · rw [if_pos h5, cust_bad2 h5, Bool.false_and]
          rw [if_neg h5]
          have e : decide (0 ≤ x.f0 ∧ x.f0 ≤ 60 ∧ 1 ≤ x.f1 ∧ x.f1 ≤ 9 ∧ (l.getD (i - 1) z43).f0 ≤ x.f0) = true := decide_eq_true (by omega)
          simp only [custFrom, e, Bool.true_and]
      · rw [if_neg h2, cust_bad (by omega), Bool.false_and]
    · rw [if_neg h1, cust_bad (by omega), Bool.false_and]
theorem spec_CustomersOk_is (l : List S43) (hl : l.length ≤ 1048576) (k : Nat) (hk : l.length < k) : spec_CustomersOk.f k l = some (custOk l) := by
  unfold spec_CustomersOk.f
  exact spec_CustomersOk_loop l hl l 0 k rfl hk (by omega)

/-! custfacts -/
theorem custFrom_tail {p : Option S43} {x : S43} {xs : List S43} (h : custFrom p (x :: xs) = true) : (0 ≤ x.f0 ∧ x.f0 ≤ 60 ∧ 1 ≤ x.f1 ∧ x.f1 ≤ 9) ∧ custFrom (some x) xs = true ∧ ∀ q, p = some q → q.f0 ≤ x.f0 := by
  cases p with
  | none =>
    simp only [custFrom, Bool.and_eq_true, decide_eq_true_eq] at h
    exact ⟨h.1, h.2, fun q e => by cases e⟩
  | some q =>
    simp only [custFrom, Bool.and_eq_true, decide_eq_true_eq] at h
    exact ⟨⟨h.1.1, h.1.2.1, h.1.2.2.1, h.1.2.2.2.1⟩, h.2, fun q' e => by cases e; exact h.1.2.2.2.2⟩
theorem custFrom_mem {l : List S43} : ∀ {p : Option S43}, custFrom p l = true → ∀ c ∈ l, 0 ≤ c.f0 ∧ c.f0 ≤ 60 ∧ 1 ≤ c.f1 ∧ c.f1 ≤ 9 := by
  induction l with
  | nil => intro p _ c hc; cases hc
  | cons x xs ih =>
    intro p h c hc
    obtain ⟨h1, h2, -⟩ := custFrom_tail h
    rcases List.mem_cons.1 hc with rfl | hc
    · exact h1
    · exact ih h2 c hc
theorem custFrom_le {l : List S43} : ∀ {p : S43}, custFrom (some p) l = true → ∀ c ∈ l, p.f0 ≤ c.f0 := by
  induction l with
  | nil => intro p _ c hc; cases hc
  | cons x xs ih =>
    intro p h c hc
    obtain ⟨h1, h2, h3⟩ := custFrom_tail h
    have hp := h3 p rfl
    rcases List.mem_cons.1 hc with rfl | hc
    · exact hp
    · have := ih h2 c hc; omega
theorem custOk_from {l : List S43} (h : custOk l = true) : custFrom none l = true := by
  unfold custOk at h
  rw [Bool.and_eq_true] at h
  exact h.1
theorem custOk_len {l : List S43} (h : custOk l = true) : l.length ≤ 8 := by
  unfold custOk at h
  rw [Bool.and_eq_true] at h
  exact of_decide_eq_true h.2
theorem custOk_mem {l : List S43} (h : custOk l = true) : ∀ c ∈ l, 0 ≤ c.f0 ∧ c.f0 ≤ 60 ∧ 1 ≤ c.f1 ∧ c.f1 ≤ 9 := custFrom_mem (custOk_from h)
theorem custFrom_adj {l : List S43} : ∀ {p : Option S43}, custFrom p l = true → ∀ i, i + 1 < l.length → (l.getD i z43).f0 ≤ (l.getD (i + 1) z43).f0 := by
  induction l with
  | nil => intro p _ i h; simp at h
  | cons x xs ih =>
    intro p h i hi
    obtain ⟨h1, h2, -⟩ := custFrom_tail h
    cases i with
    | zero => exact custFrom_le h2 (xs.getD 0 z43) (getD_mem (by simpa using hi) _)
    | succ i => exact ih h2 i (by simpa using hi)

/-! alive -/
theorem alive_is (k : Nat) (hk : 2 ≤ k) : laws_alive.f k = some true := by
  unfold laws_alive.f
  rw [impl_CustomersOk_is _ (by simp) k (by simp; omega)]
  simp only [Option.bind_some]
  rw [if_pos (by decide), impl_CustomersOk_is _ (by simp) k (by simp; omega)]
  rfl

/-! sameints -/
theorem sameInts_loop (a : List Int) (ha : a.length ≤ 1048576) : ∀ (suf : List Int) (i k : Nat), a.drop i = suf → suf.length < k → laws_sameInts.l0 k a a i = some true := by
  intro suf
  induction suf with
  | nil =>
    intro i k hd hk
    obtain ⟨k, rfl⟩ : ∃ m, k = m + 1 := ⟨k - 1, by omega⟩
    have := drop_nil hd
    simp only [laws_sameInts.l0]
    rw [if_neg (by omega)]
  | cons x xs ih =>
    intro i k hd hk
    obtain ⟨k, rfl⟩ : ∃ m, k = m + 1 := ⟨k - 1, by omega⟩
    obtain ⟨hlt, hd2, hx⟩ := drop_split hd
    simp only [laws_sameInts.l0]
    rw [if_pos (by omega), if_pos (by omega), if_pos (by omega), if_pos trivial, w64s i (by omega), ih (i + 1) k hd2 (by simp at hk; omega)]
theorem sameInts_is (a : List Int) (ha : a.length ≤ 1048576) (k : Nat) (hk : a.length < k) : laws_sameInts.f k a a = some true := by
  unfold laws_sameInts.f
  rw [if_pos rfl]
  exact sameInts_loop a ha a 0 k rfl hk

/-! drawcust -/
theorem l20Customers_loop {s : List Int} (hs : ∀ x ∈ s, 0 ≤ x ∧ x ≤ 255) (hl : s.length ≤ 2000) (m wide high : Int) (hm : m ≤ 1000) : ∀ (d : Nat) (k : Nat) (l : List S43) (t p : Int), d + 2 ≤ k → 0 ≤ p → p + 2 * d + 4 ≤ 1000000 → l.length + d ≤ 100 →
    ∃ r q, spec_l20Customers.l0 k m l t wide high d s p = some (r, q) ∧ r.length ≤ 200 ∧ p ≤ q ∧ q ≤ p + 2 * d + 4 := by
  intro d
  induction d with
  | zero =>
    intro k l t p hk hp hp2 hll
    obtain ⟨k, rfl⟩ : ∃ m, k = m + 1 := ⟨k - 1, by omega⟩
    simp only [spec_l20Customers.l0]
    rw [if_neg (by omega)]
    obtain ⟨b, q, e, hq1, hq2, -⟩ := odd_ok (k := k) (by omega) hs hl p hp (by omega) m hm
    rw [e]; simp only [Option.bind_some]
    cases b with
    | false => rw [if_neg (by simp)]; exact ⟨_, _, rfl, by omega, by omega, by omega⟩
    | true =>
      rw [if_pos rfl]
      obtain ⟨v, e2, hv⟩ := pick_ok (k := k) (by omega) hs hl q (by omega) (by omega) 3
      rw [e2]; simp only [Option.bind_some]
      by_cases v0 : v = 0
      · rw [if_pos v0]; exact ⟨_, _, rfl, by simp, by omega, by omega⟩
      · rw [if_neg v0]
        by_cases v1 : v = 1
        · rw [if_pos v1, if_pos (by omega)]; exact ⟨_, _, rfl, by rw [List.length_append]; simp; omega, by omega, by omega⟩
        · rw [if_neg v1]
          obtain ⟨v2, e3, hv2, hv3, -⟩ := pick_ok (k := k) (by omega) hs hl (q + 1) (by omega) (by omega) 2
          have hv3 := hv3 (by omega)
          rw [e3]; simp only [Option.bind_some]
          rw [if_pos hv2, if_pos (by simp; omega)]
          exact ⟨_, _, rfl, by simp, by omega, by omega⟩
  | succ d ih =>
    intro k l t p hk hp hp2 hll
    obtain ⟨k, rfl⟩ : ∃ m, k = m + 1 := ⟨k - 1, by omega⟩
    simp only [spec_l20Customers.l0]
    rw [if_pos (by omega)]
    obtain ⟨v, e, -⟩ := pick_ok (k := k) (by omega) hs hl p hp (by omega) high
    rw [e]; simp only [Option.bind_some]
    rw [if_pos (by omega)]
    obtain ⟨v2, e2, -⟩ := pick_ok (k := k) (by omega) hs hl (p + 1) (by omega) (by omega) (wrap64 (wide + 1))
    rw [e2]; simp only [Option.bind_some]
    rw [show wrap64 (((d + 1 : Nat) : Int) - 1) = (d : Int) from by rw [w64 (by omega) (by omega)]; omega]
    obtain ⟨r, q, e3, h1, h2, h3⟩ := ih k (l ++ [⟨t, wrap64 (1 + v)⟩]) (wrap64 (t + v2)) (p + 1 + 1) (by omega) (by omega) (by omega) (by rw [List.length_append]; simp; omega)
    exact ⟨r, q, e3, h1, by omega, by omega⟩
theorem l20Customers_ok {s : List Int} (hs : ∀ x ∈ s, 0 ≤ x ∧ x ≤ 255) (hl : s.length ≤ 2000) (m : Int) (hm : m ≤ 1000) (k : Nat) (hk : 20 ≤ k) (p : Int) (hp : 0 ≤ p) (hp2 : p ≤ 100000) :
    ∃ r q, spec_l20Customers.f k s p m = some (r, q) ∧ r.length ≤ 200 ∧ p ≤ q ∧ q ≤ p + 30 := by
  unfold spec_l20Customers.f
  obtain ⟨v0, e0, -⟩ := pick_ok (k := k) (by omega) hs hl p hp (by omega) 3
  rw [e0]; simp only [Option.bind_some]
  obtain ⟨v, e, -⟩ := pick_ok (k := k) (by omega) hs hl (p + 1) (by omega) (by omega) 5
  rw [e]; simp only [Option.bind_some]
  obtain ⟨v1, e1, h10, h11, -⟩ := pick_ok (k := k) (by omega) hs hl (p + 1 + 1) (by omega) (by omega) 2
  have h11 := h11 (by omega)
  rw [e1]; simp only [Option.bind_some]
  rw [if_pos h10, if_pos (by simp; omega)]
  obtain ⟨v2, e2, hv2, hv3, -⟩ := pick_ok (k := k) (by omega) hs hl (p + 1 + 1 + 1) (by omega) (by omega) 9
  have hv3 := hv3 (by omega)
  rw [e2]; simp only [Option.bind_some]
  obtain ⟨r, q, e3, h1, h2, h3⟩ := l20Customers_loop hs hl m (wrap64 (1 + v)) (rd [3, 9] v1) hm v2.toNat k [] v0 (p + 1 + 1 + 1 + 1) (by omega) (by omega) (by omega) (by simp only [List.length_nil]; omega)
  rw [show ((v2.toNat : Nat) : Int) = v2 from by omega] at e3
  exact ⟨r, q, e3, h1, by omega, by omega⟩

/-! orders -/
/-! Orders: for each unit of time who is served. -/
def needs (l : List S43) : List Int := l.map (·.f1)
def servedOne (left : List Int) (w : Int) : List Int := if 0 ≤ w then left.set w.toNat (left.getD w.toNat 0 - 1) else left
def okI (l : List S43) : List Int → Int → List Int → Bool
  | left, _, [] => left.all (fun n => decide (n = 0))
  | left, t, w :: ws => decide (-1 ≤ w ∧ w < (l.length : Int) ∧ (0 ≤ w → (l.getD w.toNat z43).f0 ≤ t)) && okI l (servedOne left w) (t + 1) ws
def orderOk (l : List S43) (order : List Int) : Bool := custOk l && (decide (order.length ≤ 200) && okI l (needs l) 0 order)
theorem orderOk_parts {l : List S43} {order : List Int} (h : orderOk l order = true) : custOk l = true ∧ order.length ≤ 200 ∧ okI l (needs l) 0 order = true := by
  unfold orderOk at h
  rw [Bool.and_eq_true, Bool.and_eq_true, decide_eq_true_eq] at h
  exact h
theorem needs_length (l : List S43) : (needs l).length = l.length := by unfold needs; rw [List.length_map]
theorem servedOne_length (left : List Int) (w : Int) : (servedOne left w).length = left.length := by
  unfold servedOne; split
  · rw [List.length_set]
  · rfl
theorem needs_get (l : List S43) (i : Nat) : (needs l).getD i 0 = (l.getD i z43).f1 := by
  unfold needs
  rw [List.getD_eq_getElem?_getD, List.getD_eq_getElem?_getD, List.getElem?_map]
  cases l[i]? <;> rfl
theorem getD_set_eq {α : Type} (X : List α) (i : Nat) (v d : α) (h : i < X.length) : (X.set i v).getD i d = v := by
  rw [getD_lt (by rw [List.length_set]; exact h), List.getElem_set_self]
theorem getD_set_ne {α : Type} (X : List α) (i j : Nat) (v d : α) (h : i ≠ j) : (X.set i v).getD j d = X.getD j d := by
  rw [List.getD_eq_getElem?_getD, List.getElem?_set_ne h, List.getD_eq_getElem?_getD]
/-- How often one is served. -/
def cntW (w : Int) : List Int → Int
  | [] => 0
  | x :: xs => (if x = w then 1 else 0) + cntW w xs
theorem cntW_append (w : Int) (a b : List Int) : cntW w (a ++ b) = cntW w a + cntW w b := by
  induction a with
  | nil => simp [cntW]
  | cons x xs ih => simp only [List.cons_append, cntW, ih]; omega
theorem cntW_bound (w : Int) (a : List Int) : 0 ≤ cntW w a ∧ cntW w a ≤ a.length := by
  induction a with
  | nil => simp [cntW]
  | cons x xs ih => simp only [cntW, List.length_cons]; split <;> omega
theorem okI_cnt (l : List S43) : ∀ (ws left : List Int) (t : Int), left.length = l.length → okI l left t ws = true → ∀ i, i < left.length → left.getD i 0 = cntW (i : Int) ws := by
  intro ws
  induction ws with
  | nil =>
    intro left t hl h i hi
    simp only [okI, List.all_eq_true, decide_eq_true_eq] at h
    simp only [cntW]
    exact h _ (getD_mem hi _)
  | cons w ws ih =>
    intro left t hl h i hi
    simp only [okI, Bool.and_eq_true, decide_eq_true_eq] at h
    obtain ⟨⟨h1, h2, -⟩, h4⟩ := h
    have := ih (servedOne left w) (t + 1) (by rw [servedOne_length]; exact hl) h4 i (by rw [servedOne_length]; exact hi)
    simp only [cntW]
    rw [← this]
    unfold servedOne
    by_cases hw : 0 ≤ w
    · rw [if_pos hw]
      by_cases e : w = (i : Int)
      · rw [if_pos e, show w.toNat = i from by omega, getD_set_eq _ _ _ _ hi]; omega
      · rw [if_neg e, getD_set_ne _ _ _ _ _ (by omega)]; omega
    · rw [if_neg hw, if_neg (by omega)]; omega
theorem orderOk_cnt {l : List S43} {order : List Int} (h : orderOk l order = true) (i : Nat) (hi : i < l.length) : cntW (i : Int) order = (l.getD i z43).f1 := by
  obtain ⟨-, -, h3⟩ := orderOk_parts h
  rw [← okI_cnt l order (needs l) 0 (needs_length l) h3 i (by rw [needs_length]; exact hi), needs_get]
theorem okI_neg (l : List S43) : ∀ (ws left : List Int) (t : Int), left.length = l.length → (∃ i, i < left.length ∧ left.getD i 0 < 0) → okI l left t ws = false := by
  intro ws left t hl ⟨i, hi, hneg⟩
  by_cases h : okI l left t ws = true
  · have := okI_cnt l ws left t hl h i hi
    have := cntW_bound (i : Int) ws
    omega
  · simpa using h
theorem needs_bound {l : List S43} (hok : custOk l = true) : ∀ x ∈ needs l, 0 ≤ x ∧ x ≤ 9 := by
  intro x hx
  unfold needs at hx
  obtain ⟨c, hc, rfl⟩ := List.mem_map.1 hx
  have := custOk_mem hok c hc
  omega

/-! orderok_spec -/
def okS (l : List S43) (fin : Bool) : List Int → Int → List Int → Bool
  | left, _, [] => left.all (fun n => decide (n ≤ 0)) && fin
  | left, t, w :: ws => if -1 ≤ w ∧ w ≤ (l.length : Int) - 1 then (if 0 ≤ w then (if (l.getD w.toNat z43).f0 ≤ t ∧ ¬ left.getD w.toNat 0 = 0 then okS l fin (left.set w.toNat (wrap64 (left.getD w.toNat 0 - 1))) (t + 1) ws else false) else okS l fin left (t + 1) ws) else false
theorem okS_false (l : List S43) : ∀ (ws left : List Int) (t : Int), okS l false left t ws = false := by
  intro ws
  induction ws with
  | nil => intro left t; simp [okS]
  | cons w ws ih => intro left t; simp only [okS, ih]; split <;> (try split) <;> (try split) <;> rfl
theorem okS_okI (l : List S43) (fin : Bool) : ∀ (ws left : List Int) (t : Int), left.length = l.length → (∀ x ∈ left, 0 ≤ x ∧ x ≤ 9) → okS l fin left t ws = (okI l left t ws && fin) := by
  intro ws
  induction ws with
  | nil =>
    intro left t hl hb
    simp only [okS, okI]
    congr 1
    rw [Bool.eq_iff_iff, List.all_eq_true, List.all_eq_true]
    simp only [decide_eq_true_eq]
    constructor
    · intro h x hx; have := h x hx; have := hb x hx; omega
    · intro h x hx; have := h x hx; omega
  | cons w ws ih =>
    intro left t hl hb
    simp only [okS, okI]
    by_cases h1 : -1 ≤ w ∧ w ≤ (l.length : Int) - 1
    · rw [if_pos h1]
      by_cases h2 : 0 ≤ w
      · have hwl : w.toNat < left.length := by omega
        have hwb := hb _ (getD_mem hwl 0)
        rw [if_pos h2]
        by_cases h3 : (l.getD w.toNat z43).f0 ≤ t
        · rw [decide_eq_true ⟨h1.1, by omega, fun _ => h3⟩, Bool.true_and]
          by_cases h4 : left.getD w.toNat 0 = 0
          · rw [if_neg (fun h => h.2 h4)]
            rw [okI_neg l ws (servedOne left w) (t + 1) (by rw [servedOne_length]; exact hl) ⟨w.toNat, by rw [servedOne_length]; exact hwl, by unfold servedOne; rw [if_pos h2, getD_set_eq _ _ _ _ hwl]; omega⟩, Bool.false_and]
          · rw [if_pos ⟨h3, h4⟩, show wrap64 (left.getD w.toNat 0 - 1) = left.getD w.toNat 0 - 1 from w64 (by omega) (by omega)]
            rw [ih _ (t + 1) (by rw [List.length_set]; exact hl) ?_]
            · unfold servedOne; rw [if_pos h2]
            · intro x hx
              rcases List.mem_or_eq_of_mem_set hx with hx | hx
              · exact hb x hx
              · omega
        · rw [if_neg (fun h => h3 h.1), decide_eq_false (fun h => h3 (h.2.2 h2)), Bool.false_and, Bool.false_and]
      · rw [if_neg h2, ih left (t + 1) hl hb, decide_eq_true ⟨h1.1, by omega, fun h => absurd h h2⟩, Bool.true_and]
        unfold servedOne; rw [if_neg h2]
    · rw [if_neg h1, decide_eq_false (by omega), Bool.false_and, Bool.false_and]
theorem spec_OrderOk_left (l : List S43) (order : List Int) (hl : l.length ≤ 1048576) (r : Bool) (K : Nat) (hnext : ∀ k, K ≤ k → spec_OrderOk.l1 k l order (needs l) 0 = some r) : ∀ (suf : List S43) (i k : Nat) (out : List Int), l.drop i = suf → K + suf.length + 1 ≤ k → i ≤ l.length → out = needs (l.take i) → spec_OrderOk.l0 k l order out i = some r := by
  intro suf
  induction suf with
  | nil =>
    intro i k out hd hk hi ho
    obtain ⟨k, rfl⟩ : ∃ m, k = m + 1 := ⟨k - 1, by omega⟩
    have := drop_nil hd
    simp only [spec_OrderOk.l0]
    rw [if_neg (by omega), ho, List.take_of_length_le (by omega)]
    exact hnext k (by simp at hk; omega)
  | cons x xs ih =>
    intro i k out hd hk hi ho
    obtain ⟨k, rfl⟩ : ∃ m, k = m + 1 := ⟨k - 1, by omega⟩
    obtain ⟨hlt, hd2, hx⟩ := drop_split hd
    simp only [spec_OrderOk.l0]
    have hol : out.length = i := by rw [ho, needs_length, List.length_take]; omega
    rw [if_pos (by omega), if_pos (by omega), if_pos (by omega), rd_Customer_nat, hx, w64s i (by omega)]
    exact ih (i + 1) k _ hd2 (by simp at hk; omega) (by omega) (by rw [ho, take_succ_getD hlt z43, hx]; simp [needs])
theorem spec_OrderOk_end (l : List S43) (order : List Int) (hl : l.length ≤ 1048576) (left : List Int) (hll : left.length = l.length) : ∀ (suf : List Int) (i k : Nat), left.drop i = suf → l.length + suf.length + 1 < k → i ≤ left.length → spec_OrderOk.l2 k l order left i = some (suf.all (fun n => decide (n ≤ 0)) && (custOk l && decide (order.length ≤ 200))) := by
  intro suf
  induction suf with
  | nil =>
    intro i k hd hk hi
    obtain ⟨k, rfl⟩ : ∃ m, k = m + 1 := ⟨k - 1, by omega⟩
    have := drop_nil hd
    simp only [spec_OrderOk.l2]
    rw [if_neg (by omega), spec_CustomersOk_is l hl k (by simp at hk; omega)]
    simp only [Option.bind_some, List.all_nil, Bool.true_and]
    have e : (decide ((order.length : Int) ≤ 200)) = decide (order.length ≤ 200) := decide_eq_decide.2 (by omega)
    by_cases h : custOk l = true
    · rw [if_pos h, h, e, Bool.true_and]
    · rw [if_neg h, Bool.not_eq_true _ |>.mp h, Bool.false_and]
  | cons x xs ih =>
    intro i k hd hk hi
    obtain ⟨k, rfl⟩ : ∃ m, k = m + 1 := ⟨k - 1, by omega⟩
    obtain ⟨hlt, hd2, hx⟩ := drop_split hd
    simp only [spec_OrderOk.l2]
    rw [if_pos (by omega), if_pos (by omega), rd_nat, hx, w64s i (by omega), ih (i + 1) k hd2 (by simp at hk; omega) (by omega)]
    by_cases h : x > 0
    · rw [if_pos h, List.all_cons, decide_eq_false (show ¬ x ≤ 0 by omega), Bool.false_and, Bool.false_and]
    · rw [if_neg h, List.all_cons, decide_eq_true (show x ≤ 0 by omega), Bool.true_and]
theorem spec_OrderOk_loop (l : List S43) (order : List Int) (hl : l.length ≤ 1048576) (ho : order.length ≤ 1048576) : ∀ (suf : List Int) (i k : Nat) (left : List Int), order.drop i = suf → 2 * suf.length + 2 * l.length + 3 < k → i ≤ order.length → left.length = l.length →
    spec_OrderOk.l1 k l order left i = some (okS l (custOk l && decide (order.length ≤ 200)) left i suf) := by
  intro suf
  induction suf with
  | nil =>
    intro i k left hd hk hi hll
    obtain ⟨k, rfl⟩ : ∃ m, k = m + 1 := ⟨k - 1, by omega⟩
    have := drop_nil hd
    simp only [spec_OrderOk.l1]
    rw [if_neg (by omega)]
    exact spec_OrderOk_end l order hl left hll left 0 k rfl (by simp at hk; omega) (by omega)
  | cons w ws ih =>
    intro i k left hd hk hi hll
    obtain ⟨k, rfl⟩ : ∃ m, k = m + 2 := ⟨k - 2, by omega⟩
    obtain ⟨hlt, hd2, hx⟩ := drop_split hd
    simp only [List.length_cons] at hk
    have hih := fun left hll => ih (i + 1) k left hd2 (by omega) (by omega) hll
    simp only [spec_OrderOk.l1, spec_OrderOk.j2, okS]
    rw [if_pos (by omega), if_pos (by omega), rd_nat, hx, spec_l1In_is, show wrap64 ((l.length : Int) - 1) = (l.length : Int) - 1 from w64 (by omega) (by omega), w64s i (by omega)]
    simp only [Option.bind_some, decide_eq_true_eq]
    rw [show (i : Int) + 1 = ((i + 1 : Nat) : Int) from by omega]
    by_cases h1 : -1 ≤ w ∧ w ≤ (l.length : Int) - 1
    · rw [if_pos h1, if_pos h1]
      by_cases h2 : 0 ≤ w
      · have hwl : w.toNat < left.length := by omega
        have g1 : w < (l.length : Int) := by omega
        have g2 : w < (left.length : Int) := by omega
        simp only [ge_iff_le, h2, g1, g2, if_true]
        rw [show rd_T43 l w = l.getD w.toNat z43 from rfl, show rd left w = left.getD w.toNat 0 from rfl, hih _ (by rw [List.length_set]; exact hll)]
        by_cases h3 : (l.getD w.toNat z43).f0 > (i : Int)
        · rw [if_pos h3, if_neg (show ¬ ((l.getD w.toNat z43).f0 ≤ (i : Int) ∧ ¬ left.getD w.toNat 0 = 0) from fun h => by omega)]
        · rw [if_neg h3]
          by_cases h4 : left.getD w.toNat 0 = 0
          · rw [if_pos (show (left.getD w.toNat 0 == 0) = true by rw [h4]; rfl), if_neg (show ¬ ((l.getD w.toNat z43).f0 ≤ (i : Int) ∧ ¬ left.getD w.toNat 0 = 0) from fun h => h.2 h4)]
          · rw [if_neg (show ¬ (left.getD w.toNat 0 == 0) = true by rw [beq_iff_eq]; exact h4), if_pos (show ((l.getD w.toNat z43).f0 ≤ (i : Int) ∧ ¬ left.getD w.toNat 0 = 0) from ⟨by omega, h4⟩)]
      · simp only [ge_iff_le, h2, if_false]
        rw [hih left hll]
        simp
    · rw [if_neg h1, if_neg h1, if_pos trivial]
theorem spec_OrderOk_is (l : List S43) (order : List Int) (hl : l.length ≤ 1048576) (ho : order.length ≤ 1048576) (k : Nat) (hk : 2 * order.length + 3 * l.length + 6 ≤ k) : spec_OrderOk.f k l order = some (orderOk l order) := by
  unfold spec_OrderOk.f
  have e : okS l (custOk l && decide (order.length ≤ 200)) (needs l) 0 order = orderOk l order := by
    unfold orderOk
    by_cases hok : custOk l = true
    · rw [okS_okI l _ order (needs l) 0 (needs_length l) (needs_bound hok), hok, Bool.true_and, Bool.true_and, Bool.and_comm]
    · rw [Bool.not_eq_true _ |>.mp hok, Bool.false_and, Bool.false_and, okS_false]
  rw [← e]
  exact spec_OrderOk_left l order hl _ (2 * order.length + 2 * l.length + 4) (fun k hk => spec_OrderOk_loop l order hl ho order 0 k (needs l) rfl (by omega) (by omega) (needs_length l)) l 0 k [] rfl (by omega) (by omega) rfl

/-! orders2 -/
theorem okI_mem (l : List S43) : ∀ (ws left : List Int) (t : Int), okI l left t ws = true → ∀ w ∈ ws, -1 ≤ w ∧ w < (l.length : Int) := by
  intro ws
  induction ws with
  | nil => intro left t _ w hw; cases hw
  | cons x xs ih =>
    intro left t h w hw
    simp only [okI, Bool.and_eq_true, decide_eq_true_eq] at h
    rcases List.mem_cons.1 hw with rfl | hw
    · exact ⟨h.1.1, h.1.2.1⟩
    · exact ih _ _ h.2 w hw
theorem orderOk_mem {l : List S43} {order : List Int} (h : orderOk l order = true) : ∀ w ∈ order, -1 ≤ w ∧ w < (l.length : Int) := okI_mem l order _ _ (orderOk_parts h).2.2

/-! leftof -/
theorem impl_leftOf_loop (l : List S43) (hl : l.length ≤ 1048576) : ∀ (suf : List S43) (i k : Nat) (out : List Int), l.drop i = suf → suf.length < k → i ≤ l.length → out.length ≤ i → impl_leftOf.l0 k out l (l.length : Int) i = some (out ++ needs suf) := by
  intro suf
  induction suf with
  | nil =>
    intro i k out hd hk hi ho
    obtain ⟨k, rfl⟩ : ∃ m, k = m + 1 := ⟨k - 1, by omega⟩
    have := drop_nil hd
    simp only [impl_leftOf.l0]
    rw [if_neg (by omega)]
    simp [needs]
  | cons x xs ih =>
    intro i k out hd hk hi ho
    obtain ⟨k, rfl⟩ : ∃ m, k = m + 1 := ⟨k - 1, by omega⟩
    obtain ⟨hlt, hd2, hx⟩ := drop_split hd
    simp only [impl_leftOf.l0]
    rw [if_pos (by omega), if_pos (by omega), if_pos (by omega), if_pos (by omega), rd_Customer_nat, hx, w64s i (by omega)]
    rw [ih (i + 1) k _ hd2 (by simp at hk; omega) (by omega) (by rw [List.length_append]; simp; omega)]
    simp [needs]
theorem impl_leftOf_is (l : List S43) (hl : l.length ≤ 1048576) (k : Nat) (hk : l.length < k) : impl_leftOf.f k l = some (needs l) := by
  unfold impl_leftOf.f
  exact impl_leftOf_loop l hl l 0 k [] rfl hk (by omega) (by simp)

/-! lastleave -/
def needSum : List S43 → Int
  | [] => 0
  | x :: xs => x.f1 + needSum xs
theorem needSum_bound (l : List S43) (hm : ∀ c ∈ l, 0 ≤ c.f0 ∧ c.f0 ≤ 60 ∧ 1 ≤ c.f1 ∧ c.f1 ≤ 9) : (l.length : Int) ≤ needSum l ∧ needSum l ≤ 9 * l.length := by
  induction l with
  | nil => simp [needSum]
  | cons x xs ih =>
    have := ih (fun b hb => hm b (List.mem_cons_of_mem _ hb))
    have := hm x (by simp)
    simp only [needSum, List.length_cons]
    omega
theorem impl_needOf_loop (l : List S43) (hl : l.length ≤ 8) (hm : ∀ c ∈ l, 0 ≤ c.f0 ∧ c.f0 ≤ 60 ∧ 1 ≤ c.f1 ∧ c.f1 ≤ 9) : ∀ (suf : List S43) (i k : Nat) (n : Int), l.drop i = suf → suf.length < k → i ≤ l.length → 0 ≤ n → n ≤ 9 * i →
    impl_needOf.l0 k n l (l.length : Int) i = some (n + needSum suf) := by
  intro suf
  induction suf with
  | nil =>
    intro i k n hd hk hi _ _
    obtain ⟨k, rfl⟩ : ∃ m, k = m + 1 := ⟨k - 1, by omega⟩
    have := drop_nil hd
    simp only [impl_needOf.l0]
    rw [if_neg (by omega)]
    simp [needSum]
  | cons x xs ih =>
    intro i k n hd hk hi h0 h1
    obtain ⟨k, rfl⟩ : ∃ m, k = m + 1 := ⟨k - 1, by omega⟩
    obtain ⟨hlt, hd2, hx⟩ := drop_split hd
    have hxb := hm x (by rw [← hx z43]; exact getD_mem hlt _)
    simp only [impl_needOf.l0]
    rw [if_pos (by omega), if_pos (by omega), if_pos (by omega), rd_Customer_nat, hx, w64s i (by omega), show wrap64 (n + x.f1) = n + x.f1 from w64 (by omega) (by omega)]
    rw [ih (i + 1) k _ hd2 (by simp at hk; omega) (by omega) (by omega) (by omega)]
    simp only [needSum]
    rw [Int.add_assoc]
theorem impl_needOf_is (l : List S43) (hl : l.length ≤ 8) (hm : ∀ c ∈ l, 0 ≤ c.f0 ∧ c.f0 ≤ 60 ∧ 1 ≤ c.f1 ∧ c.f1 ≤ 9) (k : Nat) (hk : 9 ≤ k) : impl_needOf.f k l = some (needSum l) := by
  unfold impl_needOf.f
  have h := impl_needOf_loop l hl hm l 0 k 0 rfl (by omega) (by omega) (by omega) (by omega)
  rw [Int.zero_add] at h
  exact h
/-- The greatest of m and of all times of coming with the needs from there on. -/
def lastFrom : List S43 → Int → Int
  | [], m => m
  | x :: xs, m => lastFrom xs (max m (x.f0 + needSum (x :: xs)))
def lastP (l : List S43) : Int := lastFrom l 0
theorem impl_lastLeave_loop (l : List S43) (hl : l.length ≤ 8) (hm : ∀ c ∈ l, 0 ≤ c.f0 ∧ c.f0 ≤ 60 ∧ 1 ≤ c.f1 ∧ c.f1 ≤ 9) : ∀ (suf : List S43) (i k : Nat) (n : Int), l.drop i = suf → suf.length + 10 < k → i ≤ l.length →
    impl_lastLeave.l0 k l n l (l.length : Int) i = some (lastFrom suf n) := by
  intro suf
  induction suf with
  | nil =>
    intro i k n hd hk hi
    obtain ⟨k, rfl⟩ : ∃ m, k = m + 1 := ⟨k - 1, by omega⟩
    have := drop_nil hd
    simp only [impl_lastLeave.l0]
    rw [if_neg (by omega)]
    simp [lastFrom]
  | cons x xs ih =>
    intro i k n hd hk hi
    obtain ⟨k, rfl⟩ : ∃ m, k = m + 1 := ⟨k - 1, by omega⟩
    obtain ⟨hlt, hd2, hx⟩ := drop_split hd
    have hxb := hm x (by rw [← hx z43]; exact getD_mem hlt _)
    have hmd : ∀ c ∈ x :: xs, 0 ≤ c.f0 ∧ c.f0 ≤ 60 ∧ 1 ≤ c.f1 ∧ c.f1 ≤ 9 := fun b hb => hm b (by rw [← hd] at hb; exact List.mem_of_mem_drop hb)
    have hlen : (x :: xs).length ≤ 8 := by rw [← hd, List.length_drop]; omega
    have hn := needSum_bound (x :: xs) hmd
    simp only [impl_lastLeave.l0]
    rw [if_pos (by omega), if_pos (by omega), if_pos (by omega), if_pos (by omega), Int.toNat_natCast, hd, impl_needOf_is (x :: xs) hlen hmd k (by simp at hk; omega)]
    simp only [Option.bind_some]
    rw [rd_Customer_nat, hx, w64s i (by omega), mx_max, show wrap64 (x.f0 + needSum (x :: xs)) = x.f0 + needSum (x :: xs) from w64 (by omega) (by omega)]
    rw [ih (i + 1) k _ hd2 (by simp at hk; omega) (by omega)]
    rfl
theorem impl_lastLeave_is (l : List S43) (hok : custOk l = true) (k : Nat) (hk : 20 ≤ k) : impl_lastLeave.f k l = some (lastP l) := by
  have h8 := custOk_len hok
  unfold impl_lastLeave.f
  exact impl_lastLeave_loop l h8 (custOk_mem hok) l 0 k 0 rfl (by omega) (by omega)
theorem lastFrom_ge (l : List S43) : ∀ m, m ≤ lastFrom l m := by
  induction l with
  | nil => intro m; exact Int.le_refl _
  | cons x xs ih => intro m; have := ih (max m (x.f0 + needSum (x :: xs))); simp only [lastFrom]; omega
theorem lastFrom_le (l : List S43) : ∀ m B, m ≤ B → (∀ i, i < l.length → (l.getD i z43).f0 + needSum (l.drop i) ≤ B) → lastFrom l m ≤ B := by
  induction l with
  | nil => intro m B h _; exact h
  | cons x xs ih =>
    intro m B h hB
    have h0 := hB 0 (by simp)
    simp only [List.getD_cons_zero, List.drop_zero] at h0
    exact ih _ B (by omega) (fun i hi => hB (i + 1) (by simpa using hi))
/-- Each comes, and all from there on are served, before M. -/
def doneBy : List S43 → Int → Prop
  | [], _ => True
  | x :: xs, M => x.f0 + needSum (x :: xs) ≤ M ∧ doneBy xs M
theorem doneBy_mono (l : List S43) : ∀ {M N : Int}, M ≤ N → doneBy l M → doneBy l N := by
  induction l with
  | nil => intro M N _ _; trivial
  | cons x xs ih => intro M N h hd; exact ⟨by have := hd.1; omega, ih h hd.2⟩
theorem doneBy_last (l : List S43) : ∀ m, doneBy l (lastFrom l m) := by
  induction l with
  | nil => intro m; trivial
  | cons x xs ih =>
    intro m
    refine ⟨?_, ih _⟩
    have := lastFrom_ge xs (max m (x.f0 + needSum (x :: xs)))
    simp only [lastFrom]
    omega
theorem lastP_bound (l : List S43) (hok : custOk l = true) : 0 ≤ lastP l ∧ lastP l ≤ 132 := by
  have hm := custOk_mem hok
  have hl := custOk_len hok
  refine ⟨lastFrom_ge l 0, lastFrom_le l 0 132 (by omega) (fun i hi => ?_)⟩
  have h1 := hm (l.getD i z43) (getD_mem hi _)
  have h2 := needSum_bound (l.drop i) (fun c hc => hm c (List.mem_of_mem_drop hc))
  rw [List.length_drop] at h2
  omega

/-! LastLeave2 -/
theorem impl_LastLeave_is (l : List S43) (hl : l.length ≤ 1048576) (k : Nat) (hk : l.length + 20 ≤ k) : impl_LastLeave.f k l = some (if custOk l = true then lastP l else -1) := by
  unfold impl_LastLeave.f
  rw [impl_CustomersOk_is l hl k (by omega)]
  simp only [Option.bind_some]
  by_cases h : custOk l = true
  · rw [if_pos h, if_pos h, impl_lastLeave_is l h k (by omega)]
    rfl
  · rw [if_neg h, if_neg h]

/-! lastspec -/
theorem doneBy_get : ∀ {l : List S43} {M : Int}, doneBy l M → ∀ j, j < l.length → (l.getD j z43).f0 + needSum (l.drop j) ≤ M := by
  intro l
  induction l with
  | nil => intro M _ j h; simp at h
  | cons x xs ih =>
    intro M hd j hj
    cases j with
    | zero => exact hd.1
    | succ j => exact ih hd.2 j (by simpa using hj)
theorem spec_LastLeave_loop (l : List S43) (h8 : l.length ≤ 8) (hm : ∀ c ∈ l, 0 ≤ c.f0 ∧ c.f0 ≤ 60 ∧ 1 ≤ c.f1 ∧ c.f1 ≤ 9) : ∀ (n k : Nat) (best : Int), n ≤ l.length → n < k → 0 ≤ best →
    ∃ r, spec_LastLeave.l0 k l best (needSum (l.drop n)) ((n : Int) - 1) = some r ∧ best ≤ r ∧ (∀ j, j < n → (l.getD j z43).f0 + needSum (l.drop j) ≤ r) ∧ ∀ B, best ≤ B → (∀ j, j < n → (l.getD j z43).f0 + needSum (l.drop j) ≤ B) → r ≤ B := by
  intro n
  induction n with
  | zero =>
    intro k best hn hk h0
    obtain ⟨k, rfl⟩ : ∃ m, k = m + 1 := ⟨k - 1, by omega⟩
    simp only [spec_LastLeave.l0]
    rw [if_neg (by omega)]
    exact ⟨best, rfl, Int.le_refl _, fun j hj => by omega, fun B h _ => h⟩
  | succ n ih =>
    intro k best hn hk h0
    obtain ⟨k, rfl⟩ : ∃ m, k = m + 1 := ⟨k - 1, by omega⟩
    have hlt : n < l.length := by omega
    have hdr : l.drop n = l.getD n z43 :: l.drop (n + 1) := by rw [getD_lt hlt]; exact List.drop_eq_getElem_cons hlt
    have hns : needSum (l.drop n) = (l.getD n z43).f1 + needSum (l.drop (n + 1)) := by rw [hdr]; rfl
    have hb := needSum_bound (l.drop n) (fun c hc => hm c (List.mem_of_mem_drop hc))
    have hb2 := needSum_bound (l.drop (n + 1)) (fun c hc => hm c (List.mem_of_mem_drop hc))
    rw [List.length_drop] at hb hb2
    have hxb := hm (l.getD n z43) (getD_mem hlt _)
    simp only [spec_LastLeave.l0]
    rw [show (((n + 1 : Nat) : Int) - 1) = (n : Int) from by omega, if_pos (by omega), if_pos (by omega), if_pos (by omega), rd_Customer_nat, mx_max, show wrap64 (needSum (l.drop (n + 1)) + (l.getD n z43).f1) = needSum (l.drop n) from by rw [w64 (by omega) (by omega)]; omega, show wrap64 ((l.getD n z43).f0 + needSum (l.drop n)) = (l.getD n z43).f0 + needSum (l.drop n) from w64 (by omega) (by omega), show wrap64 ((n : Int) - 1) = (n : Int) - 1 from w64 (by omega) (by omega)]
    obtain ⟨r, e, h1, h2, h3⟩ := ih k (max best ((l.getD n z43).f0 + needSum (l.drop n))) (by omega) (by omega) (by omega)
    refine ⟨r, e, by omega, fun j hj => ?_, fun B hB hj => h3 B ?_ (fun j hj2 => hj j (by omega))⟩
    · by_cases e2 : j = n
      · subst e2; omega
      · exact h2 j (by omega)
    · have := hj n (by omega); omega
theorem spec_LastLeave_is (l : List S43) (hok : custOk l = true) (k : Nat) (hk : 20 ≤ k) : spec_LastLeave.f k l = some (lastP l) := by
  have h8 := custOk_len hok
  have hm := custOk_mem hok
  unfold spec_LastLeave.f
  rw [spec_CustomersOk_is l (by omega) k (by omega)]
  simp only [Option.bind_some]
  rw [if_pos hok, show wrap64 ((l.length : Int) - 1) = (l.length : Int) - 1 from w64 (by omega) (by omega)]
  obtain ⟨r, e, h1, h2, h3⟩ := spec_LastLeave_loop l h8 hm l.length k 0 (by omega) (by omega) (by omega)
  rw [List.drop_eq_nil_of_le (Nat.le_refl _)] at e
  rw [show (0 : Int) = needSum [] from rfl] at *
  rw [e]
  congr 1
  have g1 := lastFrom_ge l 0
  have g2 := h3 (lastP l) g1 (fun j hj => doneBy_get (doneBy_last l 0) j hj)
  have g3 := lastFrom_le l 0 r h1 h2
  have e3 : lastP l = lastFrom l 0 := rfl
  omega

/-! rounds -/
/-! Rounds: who was served goes behind, then those who come; the head is served. -/
def arrFrom : List S43 → Int → Int → List Int
  | [], _, _ => []
  | x :: xs, i, t => (if x.f0 = t then [i] else []) ++ arrFrom xs (i + 1) t
def rowAt (l : List S43) (t before : Int) (left row : List Int) : List Int :=
  (row ++ (if 0 ≤ before ∧ 0 < left.getD before.toNat 0 then [before] else [])) ++ arrFrom l 0 t
def roundP (l : List S43) : Nat → Int → Int → List Int → List Int → List Int
  | 0, _, _, _, _ => []
  | d + 1, t, before, left, row =>
    match rowAt l t before left row with
    | [] => -1 :: roundP l d (t + 1) (-1) left []
    | w :: ws => w :: roundP l d (t + 1) w (left.set w.toNat (left.getD w.toNat 0 - 1)) ws
def roundOrderP (l : List S43) : List Int := if custOk l = true then roundP l (lastP l).toNat 0 (-1) (needs l) [] else []
theorem arrFrom_mem : ∀ (l : List S43) (i t : Int), ∀ x ∈ arrFrom l i t, i ≤ x ∧ x < i + l.length := by
  intro l
  induction l with
  | nil => intro i t x hx; cases hx
  | cons c cs ih =>
    intro i t x hx
    simp only [arrFrom] at hx
    rcases List.mem_append.1 hx with hx | hx
    · split at hx
      · rw [List.mem_singleton.1 hx]; simp only [List.length_cons]; omega
      · cases hx
    · have := ih (i + 1) t x hx
      simp only [List.length_cons]; omega
theorem arrFrom_length : ∀ (l : List S43) (i t : Int), (arrFrom l i t).length ≤ l.length := by
  intro l
  induction l with
  | nil => intro i t; simp [arrFrom]
  | cons c cs ih =>
    intro i t
    have := ih (i + 1) t
    simp only [arrFrom, List.length_append, List.length_cons]
    split <;> simp <;> omega
theorem roundP_length (l : List S43) : ∀ (d : Nat) (t b : Int) (left row : List Int), (roundP l d t b left row).length = d := by
  intro d
  induction d with
  | zero => intro t b left row; rfl
  | succ d ih =>
    intro t b left row
    simp only [roundP]
    split <;> simp [ih]
/-- What a state of the rounds keeps. -/
structure RoundInv (l : List S43) (i : Nat) (before : Int) (left row : List Int) : Prop where
  bl : -1 ≤ before
  bh : before < (l.length : Int)
  ll : left.length = l.length
  lb : ∀ x ∈ left, -(i : Int) ≤ x ∧ x ≤ 9
  rm : ∀ x ∈ row, 0 ≤ x ∧ x < (l.length : Int)
  rl : row.length ≤ 9 * i
theorem rowAt_mem {l : List S43} {i : Nat} {before : Int} {left row : List Int} (h : RoundInv l i before left row) (t : Int) : ∀ x ∈ rowAt l t before left row, 0 ≤ x ∧ x < (l.length : Int) := by
  intro x hx
  unfold rowAt at hx
  rcases List.mem_append.1 hx with hx | hx
  · rcases List.mem_append.1 hx with hx | hx
    · exact h.rm x hx
    · split at hx
      · rename_i hb
        rw [List.mem_singleton.1 hx]; exact ⟨hb.1, h.bh⟩
      · cases hx
  · have := arrFrom_mem l 0 t x hx; omega
theorem rowAt_length {l : List S43} (h8 : l.length ≤ 8) {i : Nat} {before : Int} {left row : List Int} (h : RoundInv l i before left row) (t : Int) : (rowAt l t before left row).length ≤ 9 * (i + 1) := by
  unfold rowAt
  rw [List.length_append, List.length_append]
  have := arrFrom_length l 0 t
  have := h.rl
  split <;> simp <;> omega
theorem RoundInv.next {l : List S43} (h8 : l.length ≤ 8) {i : Nat} {before : Int} {left row : List Int} (h : RoundInv l i before left row) {t w : Int} {ws : List Int} (e : rowAt l t before left row = w :: ws) : RoundInv l (i + 1) w (left.set w.toNat (left.getD w.toNat 0 - 1)) ws := by
  have hm := rowAt_mem h t
  have hl := rowAt_length h8 h t
  rw [e] at hm hl
  have hw := hm w (by simp)
  simp only [List.length_cons] at hl
  refine ⟨by omega, hw.2, by rw [List.length_set]; exact h.ll, fun x hx => ?_, fun x hx => hm x (List.mem_cons_of_mem _ hx), by omega⟩
  rcases List.mem_or_eq_of_mem_set hx with hx | hx
  · have := h.lb x hx; omega
  · have := h.lb _ (getD_mem (show w.toNat < left.length by rw [h.ll]; omega) 0); omega
theorem RoundInv.idle {l : List S43} {i : Nat} {before : Int} {left row : List Int} (h : RoundInv l i before left row) : RoundInv l (i + 1) (-1) left [] :=
  ⟨by omega, by omega, h.ll, fun x hx => by have := h.lb x hx; omega, (fun x hx => by cases hx), by simp⟩
theorem RoundInv.start {l : List S43} (hok : custOk l = true) : RoundInv l 0 (-1) (needs l) [] :=
  ⟨by omega, by omega, needs_length l, fun x hx => by have := needs_bound hok x hx; omega, (fun x hx => by cases hx), by simp⟩

/-! rounds_impl -/
theorem impl_Round_arr (l : List S43) (h8 : l.length ≤ 8) (left out : List Int) (t last i0 r0 : Int) (r : List Int) (K : Nat) : ∀ (suf : List S43) (i k : Nat) (row : List Int), l.drop i = suf → K + suf.length + 1 ≤ k → i ≤ l.length → row.length + suf.length ≤ 100000 →
    (∀ k', K + 1 ≤ k' → impl_RoundOrder.l1 k' l left out (row ++ arrFrom suf i t) t last i0 l (l.length : Int) (l.length : Int) = some r) → impl_RoundOrder.l1 k l left out row t last i0 l (l.length : Int) i = some r := by
  intro suf
  induction suf with
  | nil =>
    intro i k row hd hk hi hr h
    have := drop_nil hd
    have e : (i : Int) = (l.length : Int) := by omega
    rw [e]
    have := h k (by simp at hk; omega)
    simpa [arrFrom] using this
  | cons x xs ih =>
    intro i k row hd hk hi hr h
    obtain ⟨k, rfl⟩ : ∃ m, k = m + 1 := ⟨k - 1, by omega⟩
    obtain ⟨hlt, hd2, hx⟩ := drop_split hd
    simp only [List.length_cons] at hk hr
    rw [impl_RoundOrder.l1]
    rw [if_pos (by omega), if_pos (by omega), if_pos (by omega), rd_Customer_nat, hx, w64s i (by omega)]
    by_cases hc : x.f0 = t
    · rw [if_pos hc, if_pos (by omega)]
      refine ih (i + 1) k (row ++ [(i : Int)]) hd2 (by omega) (by omega) (by rw [List.length_append]; simp; omega) (fun k' hk' => ?_)
      have := h k' hk'
      simp only [arrFrom, if_pos hc] at this
      rw [List.append_assoc, show ((i + 1 : Nat) : Int) = (i : Int) + 1 from by omega]
      exact this
    · rw [if_neg hc]
      refine ih (i + 1) k row hd2 (by omega) (by omega) (by omega) (fun k' hk' => ?_)
      have := h k' hk'
      simp only [arrFrom, if_neg hc, List.nil_append] at this
      rw [show ((i + 1 : Nat) : Int) = (i : Int) + 1 from by omega]
      exact this
theorem impl_Round_loop (l : List S43) (h8 : l.length ≤ 8) (n : Nat) (hn : n ≤ 200) : ∀ (d i k : Nat) (before : Int) (left row out : List Int), i + d = n → 16 * d + 1 ≤ k → RoundInv l i before left row → out.length = i → (i = 0 → before = -1) → (1 ≤ i → out.getD (i - 1) 0 = before) →
    impl_RoundOrder.l0 k l left out row (n : Int) i = some (out ++ roundP l d i before left row) := by
  intro d
  induction d with
  | zero =>
    intro i k before left row out he hk hI ho _ _
    obtain ⟨k, rfl⟩ : ∃ m, k = m + 1 := ⟨k - 1, by omega⟩
    rw [impl_RoundOrder.l0]
    rw [if_neg (by omega)]
    simp [roundP]
  | succ d ih =>
    intro i k before left row out he hk hI ho hb0 hb1
    obtain ⟨k, rfl⟩ : ∃ m, k = m + 3 := ⟨k - 3, by omega⟩
    have hrl := hI.rl
    -- behind the arrivals
    have fin : ∀ k', 16 * d + 1 + 1 ≤ k' → impl_RoundOrder.l1 k' l left out (rowAt l i before left row) i (n : Int) i l (l.length : Int) (l.length : Int) = some (out ++ roundP l (d + 1) i before left row) := by
      intro k' hk'
      obtain ⟨k', rfl⟩ : ∃ m, k' = m + 1 := ⟨k' - 1, by omega⟩
      have hm := rowAt_mem hI (i : Int)
      rw [impl_RoundOrder.l1]
      rw [if_neg (by omega)]
      simp only [roundP]
      cases hrow : rowAt l (i : Int) before left row with
      | nil =>
        rw [if_neg (by simp), if_pos (by omega), w64s i (by omega)]
        rw [ih (i + 1) k' (-1) left [] _ (by omega) (by omega) hI.idle (by rw [List.length_append, ho]; rfl) (by omega) (fun _ => by rw [show i + 1 - 1 = i from rfl, getD_snoc_last _ _ _ ho])]
        simp
      | cons w ws =>
        rw [hrow] at hm
        have hw := hm w (by simp)
        have hwl : w.toNat < left.length := by rw [hI.ll]; omega
        have hwb := hI.lb _ (getD_mem hwl 0)
        have hnx := hI.next h8 hrow
        simp only [show rd (w :: ws) 0 = w from rfl, show rd left w = left.getD w.toNat 0 from rfl]
        rw [if_pos (by simp only [List.length_cons]; omega), if_pos (by simp only [List.length_cons]; omega), if_pos (by simp only [List.length_cons]; omega), if_pos hw.1, if_pos (by rw [hI.ll]; exact hw.2), if_pos (by omega), w64s i (by omega), show wrap64 (left.getD w.toNat 0 - 1) = left.getD w.toNat 0 - 1 from w64 (by omega) (by omega)]
        rw [show (w :: ws).drop (1 : Int).toNat = ws from rfl]
        rw [ih (i + 1) k' w _ ws _ (by omega) (by omega) hnx (by rw [List.length_append, ho]; rfl) (by omega) (fun _ => by rw [show i + 1 - 1 = i from rfl, getD_snoc_last _ _ _ ho])]
        simp
    have arr : ∀ (row2 : List Int) k', 16 * d + 12 ≤ k' → row2.length ≤ 5000 → row2 ++ arrFrom l 0 i = rowAt l i before left row → impl_RoundOrder.j2 k' l left out row2 i (n : Int) i = some (out ++ roundP l (d + 1) i before left row) := by
      intro row2 k' hk' hr2 hre
      obtain ⟨k', rfl⟩ : ∃ m, k' = m + 1 := ⟨k' - 1, by omega⟩
      rw [impl_RoundOrder.j2]
      refine impl_Round_arr l h8 left out i (n : Int) i 0 _ (16 * d + 1) l 0 k' row2 rfl (by omega) (by omega) (by omega) (fun k'' hk'' => ?_)
      rw [show ((0 : Nat) : Int) = 0 from rfl, hre]
      exact fin k'' hk''
    rw [impl_RoundOrder.l0]
    rw [if_pos (by omega)]
    by_cases hi0 : i = 0
    · have hbe := hb0 hi0
      rw [if_neg (by omega), impl_RoundOrder.j1, if_neg (by simp)]
      refine arr row (k + 1) (by omega) (by omega) ?_
      unfold rowAt
      rw [if_neg (by omega)]
      simp
    · have hbe := hb1 (by omega)
      rw [if_pos (by omega), show wrap64 ((i : Int) - 1) = ((i - 1 : Nat) : Int) from by rw [w64 (by omega) (by omega)]; omega, if_pos (by omega), if_pos (by omega), rd_nat, hbe]
      by_cases hb : before ≥ 0
      · have hbl : before.toNat < left.length := by rw [hI.ll]; have := hI.bh; omega
        rw [if_pos hb, if_pos (show (0 : Int) ≤ before from hb), if_pos (by rw [hI.ll]; exact hI.bh), impl_RoundOrder.j1]
        rw [show rd left before = left.getD before.toNat 0 from rfl]
        by_cases hp : left.getD before.toNat 0 > 0
        · rw [if_pos (by rw [decide_eq_true_eq]; exact hp), show wrap64 ((i : Int) - 1) = ((i - 1 : Nat) : Int) from by rw [w64 (by omega) (by omega)]; omega, if_pos (by omega), if_pos (by omega), if_pos (by omega), rd_nat, hbe]
          refine arr (row ++ [before]) (k + 1) (by omega) (by rw [List.length_append]; simp; omega) ?_
          unfold rowAt
          rw [if_pos ⟨hb, hp⟩]
        · rw [if_neg (by rw [decide_eq_true_eq]; exact hp)]
          refine arr row (k + 1) (by omega) (by omega) ?_
          unfold rowAt
          rw [if_neg (fun h => hp h.2)]
          simp
      · rw [if_neg hb, impl_RoundOrder.j1, if_neg (by simp)]
        refine arr row (k + 1) (by omega) (by omega) ?_
        unfold rowAt
        rw [if_neg (fun h => hb h.1)]
        simp
theorem impl_RoundOrder_is (l : List S43) (hl : l.length ≤ 1048576) (k : Nat) (hk : l.length + 3000 ≤ k) : impl_RoundOrder.f k l = some (roundOrderP l) := by
  unfold impl_RoundOrder.f roundOrderP
  rw [impl_CustomersOk_is l hl k (by omega)]
  simp only [Option.bind_some]
  by_cases hok : custOk l = true
  · have h8 := custOk_len hok
    have hb := lastP_bound l hok
    rw [if_pos hok, if_pos hok, impl_leftOf_is l hl k (by omega)]
    simp only [Option.bind_some]
    rw [impl_lastLeave_is l hok k (by omega)]
    simp only [Option.bind_some]
    have h := impl_Round_loop l h8 (lastP l).toNat (by omega) (lastP l).toNat 0 k (-1) (needs l) [] [] (by omega) (by omega) (RoundInv.start hok) rfl (fun _ => rfl) (fun h => by omega)
    rw [show (((lastP l).toNat : Nat) : Int) = lastP l from by omega] at h
    exact h
  · rw [if_neg hok, if_neg hok]

/-! rounds_spec -/
theorem spec_Round_arr (l : List S43) (h8 : l.length ≤ 8) (left out : List Int) (t : Int) (r : List Int) (K : Nat) : ∀ (suf : List S43) (i k : Nat) (row : List Int), l.drop i = suf → K + suf.length + 1 ≤ k → i ≤ l.length → row.length + suf.length ≤ 100000 →
    (∀ k', K + 1 ≤ k' → spec_RoundOrder.l2 k' l out left (row ++ arrFrom suf i t) t (l.length : Int) = some r) → spec_RoundOrder.l2 k l out left row t i = some r := by
  intro suf
  induction suf with
  | nil =>
    intro i k row hd hk hi hr h
    have := drop_nil hd
    have e : (i : Int) = (l.length : Int) := by omega
    rw [e]
    have := h k (by simp at hk; omega)
    simpa [arrFrom] using this
  | cons x xs ih =>
    intro i k row hd hk hi hr h
    obtain ⟨k, rfl⟩ : ∃ m, k = m + 1 := ⟨k - 1, by omega⟩
    obtain ⟨hlt, hd2, hx⟩ := drop_split hd
    simp only [List.length_cons] at hk hr
    rw [spec_RoundOrder.l2]
    rw [if_pos (by omega), if_pos (by omega), rd_Customer_nat, hx, w64s i (by omega)]
    by_cases hc : x.f0 = t
    · rw [if_pos hc, if_pos (by omega)]
      refine ih (i + 1) k (row ++ [(i : Int)]) hd2 (by omega) (by omega) (by rw [List.length_append]; simp; omega) (fun k' hk' => ?_)
      have := h k' hk'
      simp only [arrFrom, if_pos hc] at this
      rw [List.append_assoc, show ((i + 1 : Nat) : Int) = (i : Int) + 1 from by omega]
      exact this
    · rw [if_neg hc]
      refine ih (i + 1) k row hd2 (by omega) (by omega) (by omega) (fun k' hk' => ?_)
      have := h k' hk'
      simp only [arrFrom, if_neg hc, List.nil_append] at this
      rw [show ((i + 1 : Nat) : Int) = (i : Int) + 1 from by omega]
      exact this
theorem spec_Round_loop (l : List S43) (hok : custOk l = true) (n : Nat) (hn : n ≤ 200) (hnl : lastP l = (n : Int)) : ∀ (d i k : Nat) (before : Int) (left row out : List Int), i + d = n → 16 * d + 40 ≤ k → RoundInv l i before left row → out.length = i →
    spec_RoundOrder.l1 k l out left row before i = some (out ++ roundP l d i before left row) := by
  have h8 := custOk_len hok
  intro d
  induction d with
  | zero =>
    intro i k before left row out he hk hI ho
    obtain ⟨k, rfl⟩ : ∃ m, k = m + 1 := ⟨k - 1, by omega⟩
    rw [spec_RoundOrder.l1, spec_LastLeave_is l hok k (by omega)]
    simp only [Option.bind_some]
    rw [hnl, if_neg (by omega)]
    simp [roundP]
  | succ d ih =>
    intro i k before left row out he hk hI ho
    obtain ⟨k, rfl⟩ : ∃ m, k = m + 3 := ⟨k - 3, by omega⟩
    have hrl := hI.rl
    have fin : ∀ k', 16 * d + 40 + 1 ≤ k' → spec_RoundOrder.l2 k' l out left (rowAt l i before left row) i (l.length : Int) = some (out ++ roundP l (d + 1) i before left row) := by
      intro k' hk'
      obtain ⟨k', rfl⟩ : ∃ m, k' = m + 1 := ⟨k' - 1, by omega⟩
      have hm := rowAt_mem hI (i : Int)
      rw [spec_RoundOrder.l2]
      rw [if_neg (by omega)]
      simp only [roundP]
      cases hrow : rowAt l (i : Int) before left row with
      | nil =>
        rw [if_neg (by simp), if_pos (by omega), w64s i (by omega)]
        rw [ih (i + 1) k' (-1) left [] _ (by omega) (by omega) hI.idle (by rw [List.length_append, ho]; rfl)]
        simp
      | cons w ws =>
        rw [hrow] at hm
        have hw := hm w (by simp)
        have hwl : w.toNat < left.length := by rw [hI.ll]; omega
        have hwb := hI.lb _ (getD_mem hwl 0)
        have hnx := hI.next h8 hrow
        simp only [show rd (w :: ws) 0 = w from rfl, show rd left w = left.getD w.toNat 0 from rfl]
        rw [if_pos (by simp only [List.length_cons]; omega), if_pos (by simp only [List.length_cons]; omega), if_pos (by simp only [List.length_cons]; omega), if_pos hw.1, if_pos (by rw [hI.ll]; exact hw.2), if_pos (by omega), w64s i (by omega), show wrap64 (left.getD w.toNat 0 - 1) = left.getD w.toNat 0 - 1 from w64 (by omega) (by omega)]
        rw [show (w :: ws).drop (1 : Int).toNat = ws from rfl]
        rw [ih (i + 1) k' w _ ws _ (by omega) (by omega) hnx (by rw [List.length_append, ho]; rfl)]
        simp
    have arr : ∀ (row2 : List Int) k', 16 * d + 51 ≤ k' → row2.length ≤ 5000 → row2 ++ arrFrom l 0 i = rowAt l i before left row → spec_RoundOrder.j3 k' l out left row2 i = some (out ++ roundP l (d + 1) i before left row) := by
      intro row2 k' hk' hr2 hre
      obtain ⟨k', rfl⟩ : ∃ m, k' = m + 1 := ⟨k' - 1, by omega⟩
      rw [spec_RoundOrder.j3]
      refine spec_Round_arr l h8 left out i _ (16 * d + 40) l 0 k' row2 rfl (by omega) (by omega) (by omega) (fun k'' hk'' => ?_)
      rw [show ((0 : Nat) : Int) = 0 from rfl, hre]
      exact fin k'' hk''
    rw [spec_RoundOrder.l1, spec_LastLeave_is l hok _ (by omega)]
    simp only [Option.bind_some]
    rw [hnl, if_pos (by omega)]
    by_cases hb : before ≥ 0
    · rw [if_pos hb, if_pos (show (0 : Int) ≤ before from hb), if_pos (by rw [hI.ll]; exact hI.bh), spec_RoundOrder.j2]
      rw [show rd left before = left.getD before.toNat 0 from rfl]
      by_cases hp : left.getD before.toNat 0 > 0
      · rw [if_pos (by rw [decide_eq_true_eq]; exact hp), if_pos (by omega)]
        refine arr (row ++ [before]) (k + 1) (by omega) (by rw [List.length_append]; simp; omega) ?_
        unfold rowAt
        rw [if_pos ⟨hb, hp⟩]
      · rw [if_neg (by rw [decide_eq_true_eq]; exact hp)]
        refine arr row (k + 1) (by omega) (by omega) ?_
        unfold rowAt
        rw [if_neg (fun h => hp h.2)]
        simp
    · rw [if_neg hb, spec_RoundOrder.j2, if_neg (by simp)]
      refine arr row (k + 1) (by omega) (by omega) ?_
      unfold rowAt
      rw [if_neg (fun h => hb h.1)]
      simp
theorem spec_Round_left (l : List S43) (hl : l.length ≤ 1048576) (r : List Int) (K : Nat) (hnext : ∀ k, K ≤ k → spec_RoundOrder.l1 k l [] (needs l) [] (-1) 0 = some r) : ∀ (suf : List S43) (i k : Nat) (out : List Int), l.drop i = suf → K + suf.length + 1 ≤ k → i ≤ l.length → out = needs (l.take i) → spec_RoundOrder.l0 k l [] out i = some r := by
  intro suf
  induction suf with
  | nil =>
    intro i k out hd hk hi ho
    obtain ⟨k, rfl⟩ : ∃ m, k = m + 1 := ⟨k - 1, by omega⟩
    have := drop_nil hd
    rw [spec_RoundOrder.l0]
    rw [if_neg (by omega), ho, List.take_of_length_le (by omega)]
    exact hnext k (by simp at hk; omega)
  | cons x xs ih =>
    intro i k out hd hk hi ho
    obtain ⟨k, rfl⟩ : ∃ m, k = m + 1 := ⟨k - 1, by omega⟩
    obtain ⟨hlt, hd2, hx⟩ := drop_split hd
    rw [spec_RoundOrder.l0]
    have hol : out.length = i := by rw [ho, needs_length, List.length_take]; omega
    rw [if_pos (by omega), if_pos (by omega), if_pos (by omega), rd_Customer_nat, hx, w64s i (by omega)]
    exact ih (i + 1) k _ hd2 (by simp at hk; omega) (by omega) (by rw [ho, take_succ_getD hlt z43, hx]; simp [needs])
theorem spec_RoundOrder_is (l : List S43) (hl : l.length ≤ 1048576) (k : Nat) (hk : l.length + 3000 ≤ k) : spec_RoundOrder.f k l = some (roundOrderP l) := by
  unfold spec_RoundOrder.f roundOrderP
  simp only [Option.bind_some]
  rw [spec_CustomersOk_is l hl k (by omega)]
  simp only [Option.bind_some]
  by_cases hok : custOk l = true
  · have hb := lastP_bound l hok
    rw [if_pos hok, if_pos hok]
    refine spec_Round_left l hl _ 2900 (fun k hk => ?_) l 0 k [] rfl (by omega) (by omega) rfl
    exact spec_Round_loop l hok (lastP l).toNat (by omega) (by omega) (lastP l).toNat 0 k (-1) (needs l) [] [] (by omega) (by omega) (RoundInv.start hok) rfl
  · rw [if_neg hok, if_neg hok]

/-! roundlen -/
theorem roundOrderP_len (l : List S43) : (roundOrderP l).length ≤ 200 := by
  unfold roundOrderP
  split
  · rename_i hok
    have := lastP_bound _ hok
    rw [roundP_length]; omega
  · simp

/-! roundok -/
/-! The rounds are an order: each is served as often as needed. -/
def sumL : List Int → Int
  | [] => 0
  | x :: xs => x + sumL xs
theorem sumL_set : ∀ (X : List Int) (i : Nat) (v : Int), i < X.length → sumL (X.set i v) = sumL X - X.getD i 0 + v := by
  intro X
  induction X with
  | nil => intro i v h; simp at h
  | cons x xs ih =>
    intro i v h
    cases i with
    | zero => simp only [List.set_cons_zero, sumL, List.getD_cons_zero]; omega
    | succ i =>
      have := ih i v (by simpa using h)
      simp only [List.set_cons_succ, sumL, List.getD_cons_succ]
      omega
theorem sumL_zero : ∀ (X : List Int), (∀ i, i < X.length → 0 ≤ X.getD i 0) → sumL X ≤ 0 → ∀ i, i < X.length → X.getD i 0 = 0 := by
  intro X
  induction X with
  | nil => intro _ _ i h; simp at h
  | cons x xs ih =>
    intro hp hs i hi
    have hx : 0 ≤ x := hp 0 (by simp)
    have htl : ∀ i, i < xs.length → 0 ≤ xs.getD i 0 := fun i hi => hp (i + 1) (by simpa using hi)
    have hnn : 0 ≤ sumL xs := by
      clear ih hs hi hp
      induction xs with
      | nil => simp [sumL]
      | cons y ys ih2 =>
        have h1 : 0 ≤ y := htl 0 (by simp)
        have h2 := ih2 (fun i hi => htl (i + 1) (by simpa using hi))
        simp only [sumL]; omega
    simp only [sumL] at hs
    cases i with
    | zero => show x = 0; omega
    | succ i => exact ih htl (by omega) i (by simpa using hi)
/-- Those who are left over behind a unit without work. -/
theorem left_bound (t M : Int) : ∀ (l : List S43) (p : Option S43) (left : List Int), custFrom p l = true → left.length = l.length → doneBy l M → (∀ i, i < l.length → (l.getD i z43).f0 < t → left.getD i 0 = 0) → (∀ i, i < l.length → t ≤ (l.getD i z43).f0 → left.getD i 0 = (l.getD i z43).f1) → (∃ i, i < l.length ∧ (l.getD i z43).f0 = t) → t + sumL left ≤ M := by
  intro l
  induction l with
  | nil => intro p left _ _ _ _ _ he; obtain ⟨i, hi, -⟩ := he; simp at hi
  | cons x xs ih =>
    intro p left hc hl hd h1 h2 he
    obtain ⟨a, ts, rfl⟩ : ∃ a ts, left = a :: ts := by cases left with
      | nil => simp at hl
      | cons a ts => exact ⟨a, ts, rfl⟩
    obtain ⟨hx, hcs, -⟩ := custFrom_tail hc
    have g1 : ∀ i, i < xs.length → (xs.getD i z43).f0 < t → ts.getD i 0 = 0 := fun i hi h => h1 (i + 1) (by simpa using hi) h
    have g2 : ∀ i, i < xs.length → t ≤ (xs.getD i z43).f0 → ts.getD i 0 = (xs.getD i z43).f1 := fun i hi h => h2 (i + 1) (by simpa using hi) h
    by_cases hlt : x.f0 < t
    · have ha : a = 0 := h1 0 (by simp) hlt
      obtain ⟨i, hi, e⟩ := he
      have := ih (some x) ts hcs (by simpa using hl) hd.2 g1 g2 (by
        cases i with
        | zero => exact absurd e (by show ¬ x.f0 = t; omega)
        | succ i => exact ⟨i, by simpa using hi, e⟩)
      simp only [sumL]; omega
    · have hxt : x.f0 = t := by
        obtain ⟨i, hi, e⟩ := he
        cases i with
        | zero => exact e
        | succ i =>
          have := custFrom_le hcs (xs.getD i z43) (getD_mem (by simpa using hi) _)
          have e2 : (xs.getD i z43).f0 = t := e
          omega
      have hsum : ∀ (ys : List S43) (us : List Int), us.length = ys.length → (∀ i, i < ys.length → us.getD i 0 = (ys.getD i z43).f1) → sumL us = needSum ys := by
        intro ys
        induction ys with
        | nil => intro us h _; rw [List.length_eq_zero_iff.1 h]; rfl
        | cons y ys ih2 =>
          intro us h hg
          obtain ⟨u, vs, rfl⟩ : ∃ u vs, us = u :: vs := by cases us with
            | nil => simp at h
            | cons u vs => exact ⟨u, vs, rfl⟩
          have e0 : u = y.f1 := hg 0 (by simp)
          simp only [sumL, needSum]
          rw [ih2 vs (by simpa using h) (fun i hi => hg (i + 1) (by simpa using hi)), e0]
      have hall := hsum (x :: xs) (a :: ts) hl (fun i hi => h2 i hi (by
        cases i with
        | zero => show t ≤ x.f0; omega
        | succ i =>
          have := custFrom_le hcs (xs.getD i z43) (getD_mem (by simpa using hi) _)
          show t ≤ (xs.getD i z43).f0
          omega))
      have := hd.1
      omega
theorem arrFrom_iff : ∀ (l : List S43) (i : Nat) (t : Int) (x : Int), x ∈ arrFrom l i t ↔ ∃ j : Nat, j < l.length ∧ x = (i : Int) + j ∧ (l.getD j z43).f0 = t := by
  intro l
  induction l with
  | nil => intro i t x; simp [arrFrom]
  | cons c cs ih =>
    intro i t x
    simp only [arrFrom, List.mem_append]
    rw [show (i : Int) + 1 = ((i + 1 : Nat) : Int) from by omega, ih (i + 1) t x]
    constructor
    · rintro (h | ⟨j, hj, e, ht⟩)
      · split at h
        · rename_i hc
          exact ⟨0, by simp, by rw [List.mem_singleton.1 h]; simp, hc⟩
        · cases h
      · exact ⟨j + 1, by simpa using hj, by omega, ht⟩
    · rintro ⟨j, hj, e, ht⟩
      cases j with
      | zero =>
        left
        rw [if_pos (show c.f0 = t from ht)]
        simp [e]
      | succ j => exact .inr ⟨j, by simpa using hj, by omega, ht⟩
theorem arrFrom_nodup : ∀ (l : List S43) (i t : Int), (arrFrom l i t).Nodup := by
  intro l
  induction l with
  | nil => intro i t; simp [arrFrom]
  | cons c cs ih =>
    intro i t
    simp only [arrFrom]
    rw [List.nodup_append]
    refine ⟨by split <;> simp, ih _ _, fun a ha b hb => ?_⟩
    have := arrFrom_mem cs (i + 1) t b hb
    split at ha
    · rw [List.mem_singleton.1 ha]; omega
    · cases ha
/-- Who is there behind the last unit: each once. -/
def presL (before : Int) (left row : List Int) : List Int := row ++ (if 0 ≤ before ∧ 0 < left.getD before.toNat 0 then [before] else [])
structure RoundAll (l : List S43) (t : Nat) (before : Int) (left row : List Int) : Prop where
  ll : left.length = l.length
  nn : ∀ i, i < l.length → 0 ≤ left.getD i 0
  nx : ∀ i, i < l.length → (t : Int) ≤ (l.getD i z43).f0 → left.getD i 0 = (l.getD i z43).f1
  mem : ∀ x : Int, x ∈ presL before left row ↔ ∃ i : Nat, i < l.length ∧ x = i ∧ (l.getD i z43).f0 < t ∧ 0 < left.getD i 0
  nd : (presL before left row).Nodup
theorem rowAt_iff {l : List S43} (hok : custOk l = true) {t : Nat} {before : Int} {left row : List Int} (h : RoundAll l t before left row) : ∀ x : Int, x ∈ rowAt l t before left row ↔ ∃ i : Nat, i < l.length ∧ x = i ∧ (l.getD i z43).f0 ≤ t ∧ 0 < left.getD i 0 := by
  intro x
  have e : rowAt l t before left row = presL before left row ++ arrFrom l ((0 : Nat) : Int) t := rfl
  rw [e, List.mem_append, h.mem x, arrFrom_iff l 0 t x]
  constructor
  · rintro (⟨i, hi, e, h1, h2⟩ | ⟨i, hi, e, h1⟩)
    · exact ⟨i, hi, e, by omega, h2⟩
    · have := h.nx i hi (by omega)
      have := custOk_mem hok (l.getD i z43) (getD_mem hi _)
      exact ⟨i, hi, by omega, by omega, by omega⟩
  · rintro ⟨i, hi, e, h1, h2⟩
    by_cases hlt : (l.getD i z43).f0 < t
    · exact .inl ⟨i, hi, e, hlt, h2⟩
    · exact .inr ⟨i, hi, by omega, by omega⟩
theorem rowAt_nodup {l : List S43} {t : Nat} {before : Int} {left row : List Int} (h : RoundAll l t before left row) : (rowAt l t before left row).Nodup := by
  have e : rowAt l t before left row = presL before left row ++ arrFrom l ((0 : Nat) : Int) t := rfl
  rw [e, List.nodup_append]
  refine ⟨h.nd, arrFrom_nodup _ _ _, fun a ha b hb => ?_⟩
  obtain ⟨i, hi, e1, h1, -⟩ := (h.mem a).1 ha
  obtain ⟨j, hj, e2, h2⟩ := (arrFrom_iff l 0 t b).1 hb
  intro hab
  have : i = j := by omega
  subst this
  omega
theorem RoundAll.served {l : List S43} (hok : custOk l = true) {t : Nat} {before : Int} {left row : List Int} (h : RoundAll l t before left row) {w : Int} {ws : List Int} (e : rowAt l t before left row = w :: ws) :
    (∃ i : Nat, i < l.length ∧ w = i ∧ (l.getD i z43).f0 ≤ t ∧ 0 < left.getD i 0) ∧ RoundAll l (t + 1) w (left.set w.toNat (left.getD w.toNat 0 - 1)) ws := by
  have hiff := rowAt_iff hok h
  have hnd := rowAt_nodup h
  rw [e] at hiff hnd
  obtain ⟨i, hi, hw, hc, hp⟩ := (hiff w).1 (by simp)
  refine ⟨⟨i, hi, hw, hc, hp⟩, ?_⟩
  have hwn : w.toNat = i := by omega
  rw [hwn]
  have hil : i < left.length := by rw [h.ll]; exact hi
  rw [List.nodup_cons] at hnd
  have hgi : (left.set i (left.getD i 0 - 1)).getD i 0 = left.getD i 0 - 1 := getD_set_eq _ _ _ _ hil
  have hgj : ∀ j, j ≠ i → (left.set i (left.getD i 0 - 1)).getD j 0 = left.getD j 0 := fun j hj => getD_set_ne _ _ _ _ _ (fun hh => hj hh.symm)
  refine ⟨by rw [List.length_set]; exact h.ll, fun j hj => ?_, fun j hj hcj => ?_, fun x => ?_, ?_⟩
  · by_cases hji : j = i
    · rw [hji, hgi]; omega
    · rw [hgj j hji]; exact h.nn j hj
  · have hji : j ≠ i := fun hh => by subst hh; omega
    rw [hgj j hji]
    exact h.nx j hj (by omega)
  · unfold presL
    rw [hwn, hgi, List.mem_append]
    constructor
    · rintro (hx | hx)
      · obtain ⟨j, hj, e2, h1, h2⟩ := (hiff x).1 (List.mem_cons_of_mem _ hx)
        have hji : j ≠ i := fun hh => hnd.1 (by rw [hw, ← hh, ← e2]; exact hx)
        exact ⟨j, hj, e2, by omega, by rw [hgj j hji]; exact h2⟩
      · split at hx
        · rename_i hb
          exact ⟨i, hi, by rw [List.mem_singleton.1 hx]; exact hw, by omega, by rw [hgi]; exact hb.2⟩
        · cases hx
    · rintro ⟨j, hj, e2, h1, h2⟩
      by_cases hji : j = i
      · subst hji
        rw [hgi] at h2
        right
        rw [if_pos ⟨by omega, h2⟩, e2, hw]
        simp
      · rw [hgj j hji] at h2
        left
        have := (hiff x).2 ⟨j, hj, e2, by omega, h2⟩
        rcases List.mem_cons.1 this with hx | hx
        · omega
        · exact hx
  · unfold presL
    rw [List.nodup_append]
    refine ⟨hnd.2, by split <;> simp, fun a ha b hb => ?_⟩
    split at hb
    · rw [List.mem_singleton.1 hb]
      intro hh
      rw [hh] at ha
      exact hnd.1 ha
    · cases hb
theorem RoundAll.idle {l : List S43} (hok : custOk l = true) {t : Nat} {before : Int} {left row : List Int} (h : RoundAll l t before left row) (e : rowAt l t before left row = []) :
    (∀ i, i < l.length → (l.getD i z43).f0 < ((t + 1 : Nat) : Int) → left.getD i 0 = 0) ∧ RoundAll l (t + 1) (-1) left [] := by
  have hiff := rowAt_iff hok h
  rw [e] at hiff
  have hz : ∀ i, i < l.length → (l.getD i z43).f0 < ((t + 1 : Nat) : Int) → left.getD i 0 = 0 := by
    intro i hi hc
    have h1 := h.nn i hi
    have h2 : ¬ 0 < left.getD i 0 := fun hp => by
      have := (hiff (i : Int)).2 ⟨i, hi, rfl, by omega, hp⟩
      cases this
    omega
  refine ⟨hz, h.ll, h.nn, fun i hi hc => h.nx i hi (by omega), fun x => ?_, ?_⟩
  · unfold presL
    rw [if_neg (by omega)]
    constructor
    · intro hx; cases hx
    · rintro ⟨i, hi, e2, h1, h2⟩
      have := hz i hi h1
      omega
  · unfold presL
    rw [if_neg (by omega)]
    simp
theorem RoundAll.start {l : List S43} (hok : custOk l = true) : RoundAll l 0 (-1) (needs l) [] := by
  refine ⟨needs_length l, fun i hi => ?_, fun i hi _ => needs_get l i, fun x => ?_, ?_⟩
  · rw [needs_get]; have := custOk_mem hok (l.getD i z43) (getD_mem hi _); omega
  · unfold presL
    rw [if_neg (by omega)]
    constructor
    · intro hx; cases hx
    · rintro ⟨i, hi, -, h1, -⟩
      have := custOk_mem hok (l.getD i z43) (getD_mem hi _)
      omega
  · unfold presL
    rw [if_neg (by omega)]
    simp
theorem round_okI (l : List S43) (hok : custOk l = true) : ∀ (d t : Nat) (before : Int) (left row : List Int), (t : Int) + d = lastP l → RoundAll l t before left row → ((∀ i, i < l.length → (l.getD i z43).f0 < t → left.getD i 0 = 0) ∨ (t : Int) + sumL left ≤ lastP l) → okI l left t (roundP l d t before left row) = true := by
  intro d
  induction d with
  | zero =>
    intro t before left row he h hw
    simp only [roundP, okI, List.all_eq_true, decide_eq_true_eq]
    have hz : ∀ i, i < left.length → left.getD i 0 = 0 := by
      rcases hw with hw | hw
      · intro i hi
        rw [h.ll] at hi
        have hd := doneBy_get (doneBy_last l 0) i hi
        have hm := custOk_mem hok (l.getD i z43) (getD_mem hi _)
        have hdr : l.drop i = l.getD i z43 :: l.drop (i + 1) := by rw [getD_lt hi]; exact List.drop_eq_getElem_cons hi
        rw [hdr] at hd
        simp only [needSum] at hd
        have hb := needSum_bound (l.drop (i + 1)) (fun c hc => custOk_mem hok c (List.mem_of_mem_drop hc))
        have e3 : lastP l = lastFrom l 0 := rfl
        exact hw i hi (by omega)
      · exact sumL_zero left (fun i hi => h.nn i (by rw [← h.ll]; exact hi)) (by omega)
    intro x hx
    obtain ⟨i, hi, e⟩ := List.getElem_of_mem hx
    rw [← e, ← getD_lt hi 0]
    exact hz i hi
  | succ d ih =>
    intro t before left row he h hw
    simp only [roundP]
    cases hrow : rowAt l (t : Int) before left row with
    | nil =>
      obtain ⟨hz, hn⟩ := h.idle hok hrow
      simp only [okI]
      rw [decide_eq_true ⟨by omega, by omega, fun hh => by omega⟩, Bool.true_and, show servedOne left (-1) = left from by unfold servedOne; rw [if_neg (by omega)]]
      rw [show (t : Int) + 1 = ((t + 1 : Nat) : Int) from by omega]
      exact ih (t + 1) (-1) left [] (by omega) hn (.inl hz)
    | cons w ws =>
      obtain ⟨⟨i, hi, hwi, hc, hp⟩, hn⟩ := h.served hok hrow
      have hwn : w.toNat = i := by omega
      have hil : i < left.length := by rw [h.ll]; exact hi
      simp only [okI]
      rw [decide_eq_true ⟨by omega, by omega, fun _ => by rw [hwn]; exact hc⟩, Bool.true_and, show servedOne left w = left.set w.toNat (left.getD w.toNat 0 - 1) from by unfold servedOne; rw [if_pos (by omega)]]
      rw [show (t : Int) + 1 = ((t + 1 : Nat) : Int) from by omega]
      refine ih (t + 1) w _ ws (by omega) hn (.inr ?_)
      rw [sumL_set _ _ _ (by rw [hwn]; exact hil)]
      have hsum : (t : Int) + sumL left ≤ lastP l := by
        rcases hw with hw | hw
        · refine left_bound t (lastP l) l none left (custOk_from hok) h.ll (doneBy_last l 0) (fun i hi hc => hw i hi hc) (fun i hi hc => h.nx i hi hc) ⟨i, hi, ?_⟩
          by_cases hlt : (l.getD i z43).f0 < t
          · have := hw i hi hlt; omega
          · omega
        · exact hw
      omega
theorem roundOrder_ok (l : List S43) (hok : custOk l = true) : orderOk l (roundOrderP l) = true := by
  have hb := lastP_bound l hok
  unfold orderOk roundOrderP
  rw [if_pos hok, hok, Bool.true_and, decide_eq_true (by rw [roundP_length]; omega), Bool.true_and]
  have h := round_okI l hok (lastP l).toNat 0 (-1) (needs l) [] (by omega) (RoundAll.start hok) (.inl (fun i hi hc => by have := custOk_mem hok (l.getD i z43) (getD_mem hi _); omega))
  exact h

/-! ends -/
/-- When the last unit of one ends: e, or behind the last such unit from t on. -/
def endFrom (w : Int) : Int → Int → List Int → Int
  | _, e, [] => e
  | t, e, x :: xs => endFrom w (t + 1) (if x = w then t + 1 else e) xs
def endsP (n : Nat) (order : List Int) : List Int := (List.range n).map fun (i : Nat) => endFrom (i : Int) 0 0 order
theorem endsP_length (n : Nat) (order : List Int) : (endsP n order).length = n := by unfold endsP; simp
theorem endsP_get (n : Nat) (order : List Int) (i : Nat) (h : i < n) : (endsP n order).getD i 0 = endFrom (i : Int) 0 0 order := by
  rw [getD_lt (by rw [endsP_length]; exact h)]
  unfold endsP
  rw [List.getElem_map, List.getElem_range]
theorem endFrom_bound (w : Int) : ∀ (order : List Int) (t e : Int), 0 ≤ t → 0 ≤ e → e ≤ t → 0 ≤ endFrom w t e order ∧ endFrom w t e order ≤ t + order.length := by
  intro order
  induction order with
  | nil => intro t e h0 h1 h2; simp [endFrom]; omega
  | cons x xs ih =>
    intro t e h0 h1 h2
    have := ih (t + 1) (if x = w then t + 1 else e) (by omega) (by split <;> omega) (by split <;> omega)
    simp only [endFrom, List.length_cons]
    omega
theorem list_ext_getD {a b : List Int} (h : a.length = b.length) (hg : ∀ i, i < a.length → a.getD i 0 = b.getD i 0) : a = b := by
  apply List.ext_getElem h
  intro i h1 h2
  have := hg i h1
  rw [getD_lt h1, getD_lt h2] at this
  exact this
theorem impl_endsOf_loop (n : Nat) (order : List Int) (ho : order.length ≤ 1048576) (hw : ∀ w ∈ order, w < (n : Int)) : ∀ (suf : List Int) (i k : Nat) (X : List Int), order.drop i = suf → suf.length < k → i ≤ order.length → X.length = n →
    ∃ r, impl_endsOf.l0 k X order (order.length : Int) i = some r ∧ r.length = n ∧ ∀ j, j < n → r.getD j 0 = endFrom (j : Int) i (X.getD j 0) suf := by
  intro suf
  induction suf with
  | nil =>
    intro i k X hd hk hi hX
    obtain ⟨k, rfl⟩ : ∃ m, k = m + 1 := ⟨k - 1, by omega⟩
    have := drop_nil hd
    simp only [impl_endsOf.l0]
    rw [if_neg (by omega)]
    exact ⟨X, rfl, hX, fun j hj => rfl⟩
  | cons x xs ih =>
    intro i k X hd hk hi hX
    obtain ⟨k, rfl⟩ : ∃ m, k = m + 1 := ⟨k - 1, by omega⟩
    obtain ⟨hlt, hd2, hx⟩ := drop_split hd
    have hxn := hw x (by rw [← hx 0]; exact getD_mem hlt _)
    simp only [List.length_cons] at hk
    simp only [impl_endsOf.l0]
    rw [if_pos (by omega), if_pos (by omega), if_pos (by omega), rd_nat, hx, w64s i (by omega)]
    by_cases h : x ≥ 0
    · rw [if_pos h, if_pos (show (0 : Int) ≤ x from h), if_pos (by omega)]
      obtain ⟨r, e, hl, hr⟩ := ih (i + 1) k (X.set x.toNat ((i + 1 : Nat) : Int)) hd2 (by omega) (by omega) (by rw [List.length_set]; exact hX)
      refine ⟨r, e, hl, fun j hj => ?_⟩
      rw [hr j hj]
      simp only [endFrom]
      rw [show ((i + 1 : Nat) : Int) = (i : Int) + 1 from by omega]
      congr 1
      by_cases e2 : x = (j : Int)
      · rw [if_pos e2, show x.toNat = j from by omega, getD_set_eq _ _ _ _ (by omega)]
      · rw [if_neg e2, getD_set_ne _ _ _ _ _ (by omega)]
    · rw [if_neg h]
      obtain ⟨r, e, hl, hr⟩ := ih (i + 1) k X hd2 (by omega) (by omega) hX
      refine ⟨r, e, hl, fun j hj => ?_⟩
      rw [hr j hj]
      simp only [endFrom]
      rw [if_neg (by omega), show ((i + 1 : Nat) : Int) = (i : Int) + 1 from by omega]
theorem impl_endsOf_is (l : List S43) (order : List Int) (hl : l.length ≤ 1048576) (ho : order.length ≤ 1048576) (hw : ∀ w ∈ order, w < (l.length : Int)) (k : Nat) (hk : order.length < k) : impl_endsOf.f k l order = some (endsP l.length order) := by
  unfold impl_endsOf.f
  rw [if_pos (by omega), if_pos (by omega)]
  obtain ⟨r, e, hr, hg⟩ := impl_endsOf_loop l.length order ho hw order 0 k (List.replicate ((l.length : Int)).toNat 0) rfl hk (by omega) (by simp)
  rw [show ((0 : Nat) : Int) = 0 from rfl] at e
  rw [e]
  congr 1
  refine list_ext_getD (by rw [hr, endsP_length]) (fun i hi => ?_)
  rw [hr] at hi
  rw [hg i hi, endsP_get _ _ _ hi]
  congr 1
  rw [getD_lt (by simp; omega), List.getElem_replicate]

/-! ends_spec -/
theorem spec_EndsOf_inner (l : List S43) (order : List Int) (ho : order.length ≤ 1048576) (out : List Int) (w : Nat) (hout : out.length ≤ 100) (r : List Int) (K : Nat) (hw8 : w ≤ 100) : ∀ (suf : List Int) (i k : Nat) (e : Int), order.drop i = suf → K + suf.length + 1 ≤ k → i ≤ order.length →
    (∀ k', K ≤ k' → spec_EndsOf.l0 k' l order (out ++ [endFrom (w : Int) i e suf]) ((w + 1 : Nat) : Int) = some r) → spec_EndsOf.l1 k l order out w e i = some r := by
  intro suf
  induction suf with
  | nil =>
    intro i k e hd hk hi h
    obtain ⟨k, rfl⟩ : ∃ m, k = m + 1 := ⟨k - 1, by omega⟩
    have := drop_nil hd
    rw [spec_EndsOf.l1]
    rw [if_neg (by omega), if_pos (by omega), w64s w (by omega)]
    exact h k (by simp at hk; omega)
  | cons x xs ih =>
    intro i k e hd hk hi h
    obtain ⟨k, rfl⟩ : ∃ m, k = m + 1 := ⟨k - 1, by omega⟩
    obtain ⟨hlt, hd2, hx⟩ := drop_split hd
    simp only [List.length_cons] at hk
    rw [spec_EndsOf.l1]
    rw [if_pos (by omega), if_pos (by omega), rd_nat, hx, w64s i (by omega)]
    simp only [endFrom] at h
    rw [show (i : Int) + 1 = ((i + 1 : Nat) : Int) from by omega] at h
    by_cases hc : x = (w : Int)
    · rw [if_pos hc]
      rw [if_pos hc] at h
      exact ih (i + 1) k _ hd2 (by omega) (by omega) h
    · rw [if_neg hc]
      rw [if_neg hc] at h
      exact ih (i + 1) k _ hd2 (by omega) (by omega) h
theorem spec_EndsOf_loop (l : List S43) (order : List Int) (hok : orderOk l order = true) : ∀ (d i k : Nat) (out : List Int), i + d = l.length → 210 * d + 500 ≤ k → out = endsP i order → spec_EndsOf.l0 k l order out i = some (endsP l.length order) := by
  obtain ⟨h1, h2, h3⟩ := orderOk_parts hok
  have h8 := custOk_len h1
  intro d
  induction d with
  | zero =>
    intro i k out he hk ho
    obtain ⟨k, rfl⟩ : ∃ m, k = m + 2 := ⟨k - 2, by omega⟩
    rw [spec_EndsOf.l0]
    rw [if_neg (by omega), spec_EndsOf.j1, if_neg (by simp), ho, show i = l.length from by omega]
  | succ d ih =>
    intro i k out he hk ho
    obtain ⟨k, rfl⟩ : ∃ m, k = m + 2 := ⟨k - 2, by omega⟩
    have hol : out.length = i := by rw [ho, endsP_length]
    rw [spec_EndsOf.l0]
    rw [if_pos (by omega), spec_OrderOk_is l order (by omega) (by omega) _ (by omega), hok]
    simp only [Option.bind_some]
    rw [spec_EndsOf.j1, if_pos rfl]
    refine spec_EndsOf_inner l order (by omega) out i (by omega) _ (210 * d + 500) (by omega) order 0 k 0 rfl (by omega) (by omega) (fun k' hk' => ?_)
    refine ih (i + 1) k' _ (by omega) hk' ?_
    rw [ho]
    unfold endsP
    rw [List.range_succ, List.map_append]
    rfl
theorem spec_EndsOf_is (l : List S43) (order : List Int) (hl : l.length ≤ 1048576) (ho : order.length ≤ 1048576) (k : Nat) (hk : 2 * order.length + 3 * l.length + 2500 ≤ k) : spec_EndsOf.f k l order = some (if orderOk l order = true then endsP l.length order else []) := by
  unfold spec_EndsOf.f
  by_cases hok : orderOk l order = true
  · have h8 := custOk_len (orderOk_parts hok).1
    rw [if_pos hok]
    exact spec_EndsOf_loop l order hok l.length 0 k [] (by omega) (by omega) rfl
  · rw [if_neg hok]
    obtain ⟨k, rfl⟩ : ∃ m, k = m + 2 := ⟨k - 2, by omega⟩
    rw [spec_EndsOf.l0]
    by_cases h : (0 : Int) < (l.length : Int)
    · rw [if_pos h, spec_OrderOk_is l order hl ho _ (by omega), Bool.not_eq_true _ |>.mp hok]
      simp only [Option.bind_some]
      rw [spec_EndsOf.j1, if_neg (by simp)]
    · rw [if_neg h, spec_EndsOf.j1, if_neg (by simp)]

/-! roundends -/
def roundEndsP (l : List S43) : List Int := if custOk l = true then endsP l.length (roundOrderP l) else []
theorem roundEndsP_len (l : List S43) : (roundEndsP l).length ≤ 8 := by
  unfold roundEndsP
  split
  · rename_i hok
    have := custOk_len hok
    rw [endsP_length]; omega
  · simp
theorem impl_RoundEnds_is (l : List S43) (hl : l.length ≤ 1048576) (k : Nat) (hk : l.length + 3000 ≤ k) : impl_RoundEnds.f k l = some (roundEndsP l) := by
  unfold impl_RoundEnds.f roundEndsP
  rw [impl_CustomersOk_is l hl k (by omega)]; simp only [Option.bind_some]
  by_cases hok : custOk l = true
  · rw [if_pos hok, if_pos hok, impl_RoundOrder_is l hl k hk]; simp only [Option.bind_some]
    have hr := roundOrderP_len l
    rw [impl_endsOf_is l (roundOrderP l) hl (by omega) (fun w hw => (orderOk_mem (roundOrder_ok l hok) w hw).2) k (by omega)]; rfl
  · rw [if_neg hok, if_neg hok]
theorem spec_RoundEnds_is (l : List S43) (hl : l.length ≤ 1048576) (k : Nat) (hk : 3 * l.length + 3000 ≤ k) : spec_RoundEnds.f k l = some (roundEndsP l) := by
  unfold spec_RoundEnds.f roundEndsP
  have hr := roundOrderP_len l
  rw [spec_RoundOrder_is l hl k (by omega)]; simp only [Option.bind_some]
  rw [spec_EndsOf_is l _ hl (by omega) k (by omega)]; simp only [Option.bind_some]
  by_cases hok : custOk l = true
  · rw [if_pos hok, if_pos (roundOrder_ok l hok)]
  · rw [if_neg hok, if_neg (fun h => hok (orderOk_parts h).1)]

/-! roundpair -/
/-! Rounds end short needs sooner. -/
theorem endFrom_zero (w : Int) : ∀ (xs : List Int) (t e : Int), cntW w xs = 0 → endFrom w t e xs = e := by
  intro xs
  induction xs with
  | nil => intro t e _; rfl
  | cons x xs ih =>
    intro t e h
    have := (cntW_bound w xs).1
    simp only [cntW] at h
    simp only [endFrom]
    by_cases hx : x = w
    · rw [if_pos hx] at h; omega
    · rw [if_neg hx] at h ⊢; exact ih _ _ (by omega)
theorem endFrom_after (w : Int) : ∀ (xs : List Int) (t e : Int), 0 < cntW w xs → t < endFrom w t e xs := by
  intro xs
  induction xs with
  | nil => intro t e h; simp [cntW] at h
  | cons x xs ih =>
    intro t e h
    have h0 := (cntW_bound w xs).1
    simp only [cntW] at h
    simp only [endFrom]
    by_cases hz : cntW w xs = 0
    · rw [endFrom_zero w xs _ _ hz]
      by_cases hx : x = w
      · rw [if_pos hx]; omega
      · rw [if_neg hx] at h; omega
    · have := ih (t + 1) (if x = w then t + 1 else e) (by omega)
      omega
/-- Each ends at least at the need behind the coming. -/
theorem endFrom_least (l : List S43) (w : Nat) : ∀ (xs left : List Int) (t e : Int), okI l left t xs = true → 0 < cntW (w : Int) xs → max t (l.getD w z43).f0 + cntW (w : Int) xs ≤ endFrom (w : Int) t e xs := by
  intro xs
  induction xs with
  | nil => intro left t e _ h; simp [cntW] at h
  | cons x xs ih =>
    intro left t e hk h
    have h0 := (cntW_bound (w : Int) xs).1
    simp only [okI, Bool.and_eq_true, decide_eq_true_eq] at hk
    obtain ⟨⟨-, -, hc⟩, hk⟩ := hk
    simp only [cntW] at h ⊢
    simp only [endFrom]
    by_cases hx : x = (w : Int)
    · rw [if_pos hx] at h ⊢
      have hc := hc (by omega)
      rw [hx, Int.toNat_natCast] at hc
      rw [if_pos hx]
      by_cases hz : cntW (w : Int) xs = 0
      · rw [endFrom_zero _ xs _ _ hz]; omega
      · have := ih _ (t + 1) (t + 1) hk (by omega)
        omega
    · rw [if_neg hx] at h ⊢
      rw [if_neg hx]
      have := ih _ (t + 1) e hk (by omega)
      omega
def ahd (R : List Int) (x y : Int) : Prop := ∃ X Y, R = X ++ x :: Y ∧ y ∈ Y
theorem arrFrom_none {l : List S43} (h0 : ∀ i, i < l.length → (l.getD i z43).f0 = 0) (t : Int) (ht : t ≠ 0) : arrFrom l ((0 : Nat) : Int) t = [] := by
  rw [List.eq_nil_iff_forall_not_mem]
  intro x hx
  obtain ⟨j, hj, -, h⟩ := (arrFrom_iff l 0 t x).1 hx
  have := h0 j hj
  omega
theorem arrFrom_ahd : ∀ (l : List S43) (i : Nat), (∀ c ∈ l, c.f0 = 0) → ∀ a b : Nat, a < b → b < l.length → ahd (arrFrom l (i : Int) 0) ((i + a : Nat) : Int) ((i + b : Nat) : Int) := by
  intro l
  induction l with
  | nil => intro i _ a b _ hb; simp at hb
  | cons x xs ih =>
    intro i hz a b hab hb
    have hb2 : b < xs.length + 1 := by rw [List.length_cons] at hb; exact hb
    simp only [arrFrom]
    rw [if_pos (hz x (by simp))]
    have hxs : ∀ c ∈ xs, c.f0 = 0 := fun c hc => hz c (by simp [hc])
    by_cases ha : a = 0
    · refine ⟨[], arrFrom xs ((i : Int) + 1) 0, by rw [ha]; rfl, ?_⟩
      rw [show (i : Int) + 1 = ((i + 1 : Nat) : Int) from by omega, arrFrom_iff xs (i + 1) 0]
      exact ⟨b - 1, by omega, by omega, hxs _ (getD_mem (by omega) _)⟩
    · obtain ⟨X, Y, e, hy⟩ := ih (i + 1) hxs (a - 1) (b - 1) (by omega) (by omega)
      rw [show i + 1 + (a - 1) = i + a from by omega] at e
      rw [show i + 1 + (b - 1) = i + b from by omega] at hy
      refine ⟨(i : Int) :: X, Y, ?_, hy⟩
      rw [show (i : Int) + 1 = ((i + 1 : Nat) : Int) from by omega, e]; rfl
theorem round_pair (l : List S43) (hok : custOk l = true) (h0 : ∀ i, i < l.length → (l.getD i z43).f0 = 0) : ∀ (d t : Nat) (before : Int) (left row : List Int), RoundAll l t before left row → (∀ i : Nat, i < l.length → left.getD i 0 = cntW (i : Int) (roundP l d t before left row)) → ∀ (x y : Nat) (ex ey : Int), x < l.length → y < l.length → ahd (rowAt l t before left row) x y →
    (left.getD x 0 ≤ left.getD y 0 → endFrom (x : Int) t ex (roundP l d t before left row) < endFrom (y : Int) t ey (roundP l d t before left row)) ∧ (left.getD y 0 < left.getD x 0 → endFrom (y : Int) t ey (roundP l d t before left row) < endFrom (x : Int) t ex (roundP l d t before left row)) := by
  intro d
  induction d with
  | zero =>
    intro t before left row h hcnt x y ex ey hx hy hah
    obtain ⟨X, Y, e, hyY⟩ := hah
    obtain ⟨i, hi, he, -, hp⟩ := (rowAt_iff hok h (x : Int)).1 (by rw [e]; simp)
    have : x = i := by omega
    subst this
    have := hcnt x hx
    simp only [roundP, cntW] at this
    omega
  | succ d ih =>
    intro t before left row h hcnt x y ex ey hx hy hah
    obtain ⟨X, Y, e, hyY⟩ := hah
    have hpx : 0 < left.getD x 0 := by
      obtain ⟨i, hi, he, -, hp⟩ := (rowAt_iff hok h (x : Int)).1 (by rw [e]; simp)
      have : x = i := by omega
      subst this
      exact hp
    have hpy : 0 < left.getD y 0 := by
      obtain ⟨i, hi, he, -, hp⟩ := (rowAt_iff hok h (y : Int)).1 (by rw [e]; simp [hyY])
      have : y = i := by omega
      subst this
      exact hp
    have hnd := rowAt_nodup h
    have hll := h.ll
    cases hR : rowAt l t before left row with
    | nil => rw [hR] at e; simp at e
    | cons w ws =>
      obtain ⟨⟨i, hi, hw, -, hpw⟩, h'⟩ := RoundAll.served hok h hR
      have hseg : roundP l (d + 1) t before left row = w :: roundP l d (t + 1) w (left.set w.toNat (left.getD w.toNat 0 - 1)) ws := by
        simp only [roundP]; rw [hR]
      rw [hseg] at hcnt ⊢
      rw [hw, Int.toNat_natCast] at hcnt ⊢ h'
      rw [hR] at e hnd
      rw [hw] at e hnd
      have hseg2 := h'.ll
      generalize hL : left.set i (left.getD i 0 - 1) = left' at hcnt h' ⊢
      have hLi : left'.getD i 0 = left.getD i 0 - 1 := by rw [← hL]; exact getD_set_eq _ _ _ _ (by omega)
      have hLj : ∀ j, i ≠ j → left'.getD j 0 = left.getD j 0 := fun j hj => by rw [← hL]; exact getD_set_ne _ _ _ _ _ hj
      generalize hS : roundP l d ((t : Int) + 1) (i : Int) left' ws = seg at hcnt ⊢
      have hS2 : roundP l d ((t + 1 : Nat) : Int) (i : Int) left' ws = seg := by rw [← hS]; rfl
      have hcnt' : ∀ j : Nat, j < l.length → left'.getD j 0 = cntW (j : Int) seg := by
        intro j hj
        have := hcnt j hj
        simp only [cntW] at this
        by_cases hij : i = j
        · subst hij
          rw [if_pos rfl] at this
          omega
        · rw [if_neg (by omega)] at this
          rw [hLj j hij]; omega
      have hR' : rowAt l ((t + 1 : Nat) : Int) (i : Int) left' ws = ws ++ (if 0 ≤ (i : Int) ∧ 0 < left'.getD i 0 then [(i : Int)] else []) := by
        unfold rowAt
        have := arrFrom_none h0 ((t + 1 : Nat) : Int) (by omega)
        rw [show ((0 : Nat) : Int) = 0 from rfl] at this
        rw [this, List.append_nil, Int.toNat_natCast]
      have IH := ih (t + 1) (i : Int) left' ws h' (by rw [hS2]; exact hcnt')
      rw [hS2, hR'] at IH
      simp only [endFrom]
      rw [show ((t + 1 : Nat) : Int) = (t : Int) + 1 from rfl] at IH
      rw [List.nodup_cons] at hnd
      cases X with
      | nil =>
        rw [List.nil_append] at e
        obtain ⟨e1, e2⟩ := List.cons.inj e
        have hix : i = x := by omega
        subst hix
        have hiy : i ≠ y := by
          intro hc
          subst hc
          rw [e2] at hnd
          exact hnd.1 hyY
        rw [if_pos rfl, if_neg (by omega)]
        rw [hLi] at IH
        have hcy := hcnt' y hy
        have hcx := hcnt' i hx
        rw [hLj y hiy] at hcy
        by_cases hz : left.getD i 0 - 1 = 0
        · rw [endFrom_zero (i : Int) seg _ _ (by omega)]
          have := endFrom_after (y : Int) seg ((t : Int) + 1) ey (by omega)
          exact ⟨fun _ => this, fun hlt => by omega⟩
        · rw [if_pos ⟨by omega, by omega⟩] at IH
          obtain ⟨P, Q, hPQ⟩ := List.append_of_mem (show (y : Int) ∈ ws from by rw [e2]; exact hyY)
          have := IH y i ey ((t : Int) + 1) hy hx ⟨P, Q ++ [(i : Int)], by rw [hPQ]; simp, by simp⟩
          rw [hLi, hLj y hiy] at this
          exact ⟨fun hle => this.2 (by omega), fun hlt => this.1 (by omega)⟩
      | cons u X =>
        rw [List.cons_append] at e
        obtain ⟨e1, e2⟩ := List.cons.inj e
        have hxw : (x : Int) ∈ ws := by rw [e2]; simp
        have hyw : (y : Int) ∈ ws := by rw [e2]; simp [hyY]
        have hix : i ≠ x := by intro hc; subst hc; exact hnd.1 hxw
        have hiy : i ≠ y := by intro hc; subst hc; exact hnd.1 hyw
        rw [if_neg (by omega), if_neg (by omega)]
        have := IH x y ex ey hx hy ⟨X, Y ++ (if 0 ≤ (i : Int) ∧ 0 < left'.getD i 0 then [(i : Int)] else []), by rw [e2]; simp, by simp [hyY]⟩
        rw [hLj x hix, hLj y hiy] at this
        exact this

/-! roundends2 -/
theorem ends_low (l : List S43) (hok : custOk l = true) (i : Nat) (hi : i < l.length) : (l.getD i z43).f0 + (l.getD i z43).f1 ≤ (roundEndsP l).getD i 0 := by
  unfold roundEndsP
  rw [if_pos hok, endsP_get _ _ _ hi]
  have ho := roundOrder_ok l hok
  have hc := orderOk_cnt ho i hi
  have hm := custOk_mem hok _ (getD_mem hi z43)
  have := endFrom_least l i (roundOrderP l) (needs l) 0 0 (orderOk_parts ho).2.2 (by omega)
  omega
theorem ends_high (l : List S43) (hok : custOk l = true) (i : Nat) (hi : i < l.length) : (roundEndsP l).getD i 0 ≤ lastP l := by
  unfold roundEndsP
  rw [if_pos hok, endsP_get _ _ _ hi]
  have := (endFrom_bound (i : Int) (roundOrderP l) 0 0 (by omega) (by omega) (by omega)).2
  have hlen : (roundOrderP l).length = (lastP l).toNat := by unfold roundOrderP; rw [if_pos hok, roundP_length]
  have := lastP_bound l hok
  omega
theorem ends_pair (l : List S43) (hok : custOk l = true) (h0 : ∀ i, i < l.length → (l.getD i z43).f0 = 0) (a b : Nat) (hab : a < b) (hb : b < l.length) : ((roundEndsP l).getD a 0 < (roundEndsP l).getD b 0) ↔ ((l.getD a z43).f1 ≤ (l.getD b z43).f1) := by
  have ho := roundOrder_ok l hok
  have e : roundOrderP l = roundP l (lastP l).toNat ((0 : Nat) : Int) (-1) (needs l) [] := by unfold roundOrderP; rw [if_pos hok]; rfl
  have hall : ∀ c ∈ l, c.f0 = 0 := by
    intro c hc
    obtain ⟨i, hi, rfl⟩ := List.mem_iff_getElem.1 hc
    have := h0 i hi
    rw [getD_lt hi] at this
    exact this
  have hah := arrFrom_ahd l 0 hall a b hab hb
  rw [Nat.zero_add, Nat.zero_add] at hah
  have key := round_pair l hok h0 (lastP l).toNat 0 (-1) (needs l) [] (RoundAll.start hok) (fun i hi => by rw [← e, orderOk_cnt ho i hi, needs_get]) a b 0 0 (by omega) hb (by
    unfold rowAt
    rw [if_neg (by omega)]
    exact hah)
  rw [← e, needs_get, needs_get] at key
  unfold roundEndsP
  rw [if_pos hok, endsP_get _ _ _ (by omega), endsP_get _ _ _ hb]
  rw [show ((0 : Nat) : Int) = 0 from rfl] at key
  constructor
  · intro h
    by_cases hle : (l.getD a z43).f1 ≤ (l.getD b z43).f1
    · exact hle
    · have := key.2 (by omega)
      omega
  · exact key.1

/-! law_RoundEnds -/
theorem drawRoundEnds_loop (n : Nat) (hn : n ≤ 1000) : ∀ (d i k : Nat) (l : List S43), l.length = n → i + d = n → d + 1 ≤ k → ∃ r, spec_DrawRoundEnds.l0 k l (i : Int) = some r ∧ r.length = n := by
  intro d
  induction d with
  | zero =>
    intro i k l hl hi hk
    obtain ⟨k, rfl⟩ : ∃ m, k = m + 1 := ⟨k - 1, by omega⟩
    simp only [spec_DrawRoundEnds.l0]
    rw [if_neg (by omega)]
    exact ⟨l, rfl, hl⟩
  | succ d ih =>
    intro i k l hl hi hk
    obtain ⟨k, rfl⟩ : ∃ m, k = m + 1 := ⟨k - 1, by omega⟩
    simp only [spec_DrawRoundEnds.l0]
    rw [if_pos (by omega), if_pos (by omega), w64s i (by omega)]
    exact ih (i + 1) k _ (by rw [List.length_set]; exact hl) (by omega) (by omega)
theorem drawRoundEnds_ok {l : List Int} (hb : ∀ x ∈ l, 0 ≤ x ∧ x ≤ 255) (k : Nat) (hk : 1000 ≤ k) : ∃ r, spec_DrawRoundEnds.f k l = some r ∧ r.length ≤ 200 := by
  unfold spec_DrawRoundEnds.f
  obtain ⟨s, e0, hs, hls⟩ := open_ok hb
  rw [e0, Option.bind_some]; dsimp only
  obtain ⟨r, q, e, h1, h2, h3⟩ := l20Customers_ok hs hls 9 (by omega) k (by omega) 0 (by omega) (by omega)
  rw [e, Option.bind_some]; dsimp only
  obtain ⟨v1, e1, -⟩ := pick_ok (k := k) (by omega) hs hls q (by omega) (by omega) 2
  rw [e1, Option.bind_some]; dsimp only
  have hj : ∀ x : Bool, ∃ r2, spec_DrawRoundEnds.j0 k r x = some r2 ∧ r2.length ≤ 200 := by
    intro x
    obtain ⟨k, rfl⟩ : ∃ m, k = m + 1 := ⟨k - 1, by omega⟩
    simp only [spec_DrawRoundEnds.j0]
    cases x with
    | false => rw [if_neg (by simp)]; exact ⟨r, rfl, h1⟩
    | true =>
      rw [if_pos rfl]
      obtain ⟨r2, e2, h⟩ := drawRoundEnds_loop r.length (by omega) r.length 0 k r rfl (by omega) (by omega)
      exact ⟨r2, e2, by omega⟩
  by_cases h : v1 = 0
  · rw [if_pos h, spec_CustomersOk_is r (by omega) k (by omega), Option.bind_some]
    exact hj _
  · rw [if_neg h]; exact hj _
theorem law_pairs (l : List S43) (hok : custOk l = true) (z : Bool) (hz : z = true → ∀ i, i < l.length → (l.getD i z43).f0 = 0) : ∀ (d i k : Nat), i + d = l.length → 20 * d + 60 ≤ k → laws_FnRoundEnds.l1 k l (roundEndsP l) z (i : Int) = some true := by
  have h8 := custOk_len hok
  have hel : (roundEndsP l).length = l.length := by unfold roundEndsP; rw [if_pos hok, endsP_length]
  intro d
  induction d with
  | zero =>
    intro i k hi hk
    obtain ⟨k, rfl⟩ : ∃ m, k = m + 1 := ⟨k - 1, by omega⟩
    simp only [laws_FnRoundEnds.l1]
    rw [if_neg (by omega), hel]; simp
  | succ d ih =>
    intro i k hi hk
    obtain ⟨k, rfl⟩ : ∃ m, k = m + 1 := ⟨k - 1, by omega⟩
    simp only [laws_FnRoundEnds.l1]
    rw [if_pos (by omega)]
    have inner : ∀ (e j k : Nat), j + e = i → 20 * d + 61 + e ≤ k → laws_FnRoundEnds.l2 k l (roundEndsP l) z (i : Int) (j : Int) = some true := by
      intro e
      induction e with
      | zero =>
        intro j k hj hk
        obtain ⟨k, rfl⟩ : ∃ m, k = m + 1 := ⟨k - 1, by omega⟩
        simp only [laws_FnRoundEnds.l2]
        have hm := custOk_mem hok _ (getD_mem (show i < l.length from by omega) z43)
        have lo := ends_low l hok i (by omega)
        have hi2 := ends_high l hok i (by omega)
        rw [if_neg (by omega), if_pos (by omega), if_pos (by omega), if_pos (by omega), rd_nat, rd_Customer_nat, w64 (by omega) (by omega), if_neg (by omega), impl_LastLeave_is l (by omega) k (by omega), if_pos hok, Option.bind_some, if_neg (by omega), w64s i (by omega)]
        exact ih (i + 1) k (by omega) (by omega)
      | succ e ihe =>
        intro j k hj hk
        obtain ⟨k, rfl⟩ : ∃ m, k = m + 1 := ⟨k - 1, by omega⟩
        simp only [laws_FnRoundEnds.l2]
        rw [if_pos (by omega), w64s j (by omega)]
        have go := ihe (j + 1) k (by omega) (by omega)
        cases z with
        | false => rw [if_neg (by simp)]; exact go
        | true =>
          have hp := ends_pair l hok (hz rfl) j i (by omega) (by omega)
          rw [if_pos rfl, if_pos (by omega), if_pos (by omega), if_pos (by omega), if_pos (by omega), if_pos (by omega), if_pos (by omega), rd_nat, rd_nat, rd_Customer_nat, rd_Customer_nat]
          rw [show decide ((roundEndsP l).getD j 0 < (roundEndsP l).getD i 0) = decide ((l.getD j z43).f1 ≤ (l.getD i z43).f1) from decide_eq_decide.2 hp, if_neg (by simp)]
          exact go
    exact inner i 0 k (by omega) (by omega)
theorem law_zero (l : List S43) (hok : custOk l = true) : ∀ (d i k : Nat) (z : Bool), i + d = l.length → 20 * l.length + 70 + d ≤ k → (z = true → ∀ j, j < i → (l.getD j z43).f0 = 0) → laws_FnRoundEnds.l0 k l (roundEndsP l) z (i : Int) = some true := by
  have h8 := custOk_len hok
  intro d
  induction d with
  | zero =>
    intro i k z hi hk hz
    obtain ⟨k, rfl⟩ : ∃ m, k = m + 1 := ⟨k - 1, by omega⟩
    simp only [laws_FnRoundEnds.l0]
    rw [if_neg (by omega)]
    exact law_pairs l hok z (fun h j hj => hz h j (by omega)) l.length 0 k (by omega) (by omega)
  | succ d ih =>
    intro i k z hi hk hz
    obtain ⟨k, rfl⟩ : ∃ m, k = m + 1 := ⟨k - 1, by omega⟩
    simp only [laws_FnRoundEnds.l0]
    rw [if_pos (by omega), w64s i (by omega)]
    cases z with
    | false => rw [if_neg (by simp)]; exact ih (i + 1) k false (by omega) (by omega) (fun h => by simp at h)
    | true =>
      rw [if_pos rfl, if_pos (by omega), rd_Customer_nat]
      refine ih (i + 1) k _ (by omega) (by omega) (fun h j hj => ?_)
      rw [beq_iff_eq] at h
      by_cases hji : j = i
      · rw [hji]; exact h
      · exact hz rfl j (by omega)
theorem FnRoundEnds : laws_FnRoundEnds.Pure := by
  intro l0 hl hl2 hb
  refine ⟨10000, ?_⟩
  unfold laws_FnRoundEnds.f
  by_cases hbig : (l0.length : Int) > 1048576
  · rw [if_pos hbig]
  · rw [if_neg hbig]
    obtain ⟨r, e, h1⟩ := drawRoundEnds_ok (bytes_of hb) 10000 (by omega)
    have hlen := roundEndsP_len r
    rw [e, Option.bind_some, impl_RoundEnds_is r (by omega) _ (by omega), Option.bind_some, spec_RoundEnds_is r (by omega) _ (by omega), Option.bind_some, sameInts_is _ (by omega) _ (by omega), Option.bind_some, if_pos rfl]
    by_cases hz : ((roundEndsP r).length : Int) = 0
    · rw [if_pos hz]
      by_cases hr : (r.length : Int) = 0
      · rw [if_pos hr, alive_is _ (by omega)]; rfl
      · rw [if_neg hr, impl_CustomersOk_is r (by omega) _ (by omega), Option.bind_some]
        have hok : ¬ custOk r = true := by
          intro hok
          have : (roundEndsP r).length = r.length := by unfold roundEndsP; rw [if_pos hok, endsP_length]
          omega
        rw [if_neg hok, alive_is _ (by omega)]; rfl
    · rw [if_neg hz]
      have hok : custOk r = true := by
        by_cases hok : custOk r = true
        · exact hok
        · refine absurd ?_ hz
          unfold roundEndsP
          rw [if_neg hok]; rfl
      have h8 := custOk_len hok
      exact law_zero r hok r.length 0 10000 true (by omega) (by omega) (fun _ j hj => by omega)

end Go.Proofs.Ytbljbcgooenjfaa.Pure
