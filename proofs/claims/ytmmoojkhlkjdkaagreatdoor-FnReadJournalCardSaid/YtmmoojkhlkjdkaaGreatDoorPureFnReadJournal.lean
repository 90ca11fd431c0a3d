/- The pure part of the proof of FnReadJournal: the printed functions answer true, for every drawn or given argument within the row's own bounds; no further condition. -/
import Derived.Test.YtmmoojkhlkjdkaaGreatDoorPFnReadJournalx24
import Derived.Laws.BitsLemmas
namespace Go.Proofs.YtmmoojkhlkjdkaaGreatDoor.Pure
open Go.RowKit Go.Proofs.YtmmoojkhlkjdkaaGreatDoor.PFnReadJournal Go.Proofs.YtmmoojkhlkjdkaaGreatDoorW.PrintWords Go.Proofs.YtmmoojkhlkjdkaaGreatDoorW.PrintLast Go.Proofs.YtmmoojkhlkjdkaaGreatDoorW.PrintMore
set_option linter.unusedVariables false
set_option linter.unusedSimpArgs false
/-! base -/
theorem w64 {x : Int} (h0 : -9223372036854775808 ≤ x) (h1 : x ≤ 9223372036854775807) : wrap64 x = x := by
  unfold wrap64
  omega
theorem w64s (n : Nat) (h : n ≤ 4611686018427387904) : wrap64 ((n : Int) + 1) = ((n + 1 : Nat) : Int) := by
  unfold wrap64
  omega
theorem drop_split {α : Type} {l : List α} {i : Nat} {x : α} {xs : List α} (h : l.drop i = x :: xs) : i < l.length ∧ l.drop (i + 1) = xs ∧ ∀ d, l.getD i d = x := by
  have hi : i < l.length := by
    have h2 : 0 < (l.drop i).length := by rw [h]; simp
    rw [List.length_drop] at h2
    omega
  rw [List.drop_eq_getElem_cons hi] at h
  injection h with h1 h2
  exact ⟨hi, h2, fun d => by rw [List.getD_eq_getElem?_getD, List.getElem?_eq_getElem hi, h1]; rfl⟩
theorem drop_nil {α : Type} {l : List α} {i : Nat} (h : l.drop i = []) : l.length ≤ i := List.drop_eq_nil_iff.1 h
theorem getD_lt {α : Type} {l : List α} {i : Nat} (h : i < l.length) (d : α) : l.getD i d = l[i] := by
  rw [List.getD_eq_getElem?_getD, List.getElem?_eq_getElem h]; rfl
theorem rd_nat (l : List Int) (i : Nat) : rd l (i : Int) = l.getD i 0 := by
  unfold rd
  rw [Int.toNat_natCast]
theorem getD_mem {α : Type} {l : List α} {i : Nat} (h : i < l.length) (d : α) : l.getD i d ∈ l := by
  rw [getD_lt h]; exact List.getElem_mem h
theorem take_succ_getD {α : Type} {l : List α} {i : Nat} (h : i < l.length) (d : α) : l.take (i + 1) = l.take i ++ [l.getD i d] := by
  rw [getD_lt h, List.take_succ_eq_append_getElem h]
theorem mx_max (a b : Int) : mx a b = max a b := by
  unfold mx; omega
theorem mn_min (a b : Int) : mn a b = min a b := by
  unfold mn; omega
theorem bind_of {α β : Type} {o : Option α} {r : α} {f : α → Option β} {s : Option β} (h : o = some r) (h2 : f r = s) : o.bind f = s := by rw [h]; exact h2
theorem getD_snoc_last {α : Type} (l : List α) (x d : α) {i : Nat} (h : l.length = i) : (l ++ [x]).getD i d = x := by
  subst h
  rw [List.getD_eq_getElem?_getD, List.getElem?_append_right (Nat.le_refl _), Nat.sub_self]
  rfl
theorem getD_snoc_lt {α : Type} (l r : List α) (d : α) {i : Nat} (h : i < l.length) : (l ++ r).getD i d = l.getD i d := by
  rw [List.getD_eq_getElem?_getD, List.getElem?_append_left h, List.getD_eq_getElem?_getD]

/-! pick -/
theorem xor_small (a b : Int) (ha : 0 ≤ a) (ha2 : a < 1099511627776) (hb : 0 ≤ b) (hb2 : b < 1099511627776) : 0 ≤ Go.bits .xor .i64 a b ∧ Go.bits .xor .i64 a b < 1099511627776 := by
  obtain ⟨x, rfl⟩ := Int.eq_ofNat_of_zero_le ha
  obtain ⟨y, rfl⟩ := Int.eq_ofNat_of_zero_le hb
  have hx : x < 2 ^ 40 := by have : (x : Int) < 1099511627776 := ha2; omega
  have hy : y < 2 ^ 40 := by have : (y : Int) < 1099511627776 := hb2; omega
  have hz : x ^^^ y < 2 ^ 40 := Nat.xor_lt_two_pow hx hy
  have e : Go.bits .xor .i64 (x : Int) (y : Int) = ((x ^^^ y : Nat) : Int) := by
    have hx' : x % 2 ^ IntKind.i64.bits = x := Nat.mod_eq_of_lt (Nat.lt_of_lt_of_le hx (Nat.pow_le_pow_right (by decide) (by decide)))
    have hy' : y % 2 ^ IntKind.i64.bits = y := Nat.mod_eq_of_lt (Nat.lt_of_lt_of_le hy (Nat.pow_le_pow_right (by decide) (by decide)))
    simp only [bits, BitVec.ofInt_natCast, BitVec.toNat_xor, BitVec.toNat_ofNat, hx', hy']
    rw [IntKind.wrap_i64]
    omega
  rw [e]
  omega
theorem tmod_in (x n : Int) (hx : 0 ≤ x) (hn : 1 ≤ n) : 0 ≤ Int.tmod x n ∧ Int.tmod x n < n := by
  rw [Int.tmod_eq_emod_of_nonneg hx]
  exact ⟨Int.emod_nonneg _ (by omega), Int.emod_lt_of_pos _ (by omega)⟩
theorem rd_byte {s : List Int} (hs : ∀ x ∈ s, 0 ≤ x ∧ x ≤ 255) (i : Int) : 0 ≤ rd s i ∧ rd s i ≤ 255 := by
  unfold rd
  by_cases h : i.toNat < s.length
  · exact hs _ (getD_mem h 0)
  · rw [List.getD_eq_getElem?_getD, List.getElem?_eq_none (by omega)]; simp
/-- The reader: what it draws lies in 0..n-1, and its place goes on by one. -/
theorem pick_ok {k : Nat} (hk : 1 ≤ k) {s : List Int} (hs : ∀ x ∈ s, 0 ≤ x ∧ x ≤ 255) (hl : s.length ≤ 2000) (p : Int) (hp : 0 ≤ p) (hp2 : p ≤ 1000000) (n : Int) :
    ∃ v, spec_l20Rd_pick.f k s p n = some (v, p + 1) ∧ 0 ≤ v ∧ (1 ≤ n → v < n) ∧ (n < 1 → v = 0) := by
  obtain ⟨k, rfl⟩ : ∃ m, k = m + 1 := ⟨k - 1, by omega⟩
  have hw : wrap64 (p + 1) = p + 1 := w64 (by omega) (by omega)
  unfold spec_l20Rd_pick.f
  by_cases hn : n < 1
  · refine ⟨0, ?_, by omega, by omega, fun _ => rfl⟩
    rw [if_pos hn, hw]
    simp only [spec_l20Rd_pick.j0]
    rw [if_pos trivial]
  · rw [if_neg hn, hw]
    simp only [spec_l20Rd_pick.j0]
    by_cases he : (s.length : Int) = 0
    · refine ⟨0, ?_, by omega, by omega, fun _ => rfl⟩
      rw [if_pos (by simpa using he)]
    · have hpp : wrap64 (p + 1 - 1) = p := by rw [w64 (by omega) (by omega)]; omega
      rw [if_neg (by simpa using he), hpp]
      have hn0 : ¬ n = 0 := by omega
      have hb := fun i => rd_byte hs i
      by_cases hlt : p < (s.length : Int)
      · have hr := hb p
        have hwr : wrap64 (rd s p) = rd s p := w64 (by omega) (by omega)
        rw [if_pos hlt, if_pos hp, if_neg hn0, hwr]
        have ht := tmod_in (rd s p) n hr.1 (by omega)
        exact ⟨_, rfl, ht.1, fun _ => ht.2, fun h => absurd h hn⟩
      · have hL : 1 ≤ (s.length : Int) := by omega
        have e7 : wrap64 (p * 7) = p * 7 := w64 (by omega) (by omega)
        have e73 : wrap64 (p * 7 + 3) = p * 7 + 3 := w64 (by omega) (by omega)
        have t1 := tmod_in p (s.length : Int) hp hL
        have t2 := tmod_in (p * 7 + 3) (s.length : Int) (by omega) hL
        have r1 := hb (Int.tmod p (s.length : Int))
        have r2 := hb (Int.tmod (p * 7 + 3) (s.length : Int))
        rw [if_neg hlt, if_neg he, if_pos t1.1, if_pos t1.2, e7, e73, if_pos t2.1, if_pos t2.2, if_neg hn0]
        generalize rd s (Int.tmod p (s.length : Int)) = a at *
        generalize rd s (Int.tmod (p * 7 + 3) (s.length : Int)) = b at *
        have hq : Int.tdiv p (s.length : Int) = p / (s.length : Int) := Int.tdiv_eq_ediv_of_nonneg hp
        have q0 : 0 ≤ p / (s.length : Int) := Int.ediv_nonneg hp (by omega)
        have q1 : p / (s.length : Int) ≤ p := Int.ediv_le_self _ hp
        rw [hq]
        generalize p / (s.length : Int) = q at *
        have ea : wrap64 a = a := w64 (by omega) (by omega)
        have eb : wrap64 b = b := w64 (by omega) (by omega)
        have ea2 : wrap64 (a * 131) = a * 131 := w64 (by omega) (by omega)
        have eb2 : wrap64 (b * 1117) = b * 1117 := w64 (by omega) (by omega)
        have ep : wrap64 (p * 29) = p * 29 := w64 (by omega) (by omega)
        have eq_ : wrap64 q = q := w64 (by omega) (by omega)
        have eq2 : wrap64 (q * 53) = q * 53 := w64 (by omega) (by omega)
        have e1 : wrap64 (a * 131 + b * 1117) = a * 131 + b * 1117 := w64 (by omega) (by omega)
        have e2 : wrap64 (a * 131 + b * 1117 + p * 29) = a * 131 + b * 1117 + p * 29 := w64 (by omega) (by omega)
        have e3 : wrap64 (a * 131 + b * 1117 + p * 29 + q * 53) = a * 131 + b * 1117 + p * 29 + q * 53 := w64 (by omega) (by omega)
        rw [ea, eb, ea2, eb2, ep, eq_, eq2, e1, e2, e3]
        have hX0 : 0 ≤ a * 131 + b * 1117 + p * 29 + q * 53 := by omega
        have hX1 : a * 131 + b * 1117 + p * 29 + q * 53 < 1099511627776 := by omega
        generalize a * 131 + b * 1117 + p * 29 + q * 53 = X at *
        have hd : Int.tdiv X 64 = X / 64 := Int.tdiv_eq_ediv_of_nonneg hX0
        have ed : wrap64 (X / 64) = X / 64 := w64 (by omega) (by omega)
        rw [hd, ed]
        have hx := xor_small X (X / 64) hX0 hX1 (by omega) (by omega)
        have ht := tmod_in (Go.bits .xor .i64 X (X / 64)) n hx.1 (by omega)
        exact ⟨_, rfl, ht.1, fun _ => ht.2, fun h => absurd h hn⟩
theorem odd_ok {k : Nat} (hk : 1 ≤ k) {s : List Int} (hs : ∀ x ∈ s, 0 ≤ x ∧ x ≤ 255) (hl : s.length ≤ 2000) (p : Int) (hp : 0 ≤ p) (hp2 : p ≤ 1000000) (n : Int) (hn : n ≤ 1000) :
    ∃ b q, spec_l20Rd_odd.f k s p n = some (b, q) ∧ p ≤ q ∧ q ≤ p + 1 ∧ (n ≤ 0 → b = false) := by
  unfold spec_l20Rd_odd.f
  by_cases h : n > 0
  · obtain ⟨v, hv, -⟩ := pick_ok hk hs hl p hp hp2 n
    rw [if_pos h, hv]
    exact ⟨_, _, rfl, by simp only; omega, by simp only; omega, fun hh => by omega⟩
  · rw [if_neg h]
    exact ⟨_, _, rfl, by omega, by omega, fun _ => rfl⟩
theorem open_ok {s : List Int} (hs : ∀ x ∈ s, 0 ≤ x ∧ x ≤ 255) : ∃ t, spec_l20Open.f s = some (t, 0) ∧ (∀ x ∈ t, 0 ≤ x ∧ x ≤ 255) ∧ t.length ≤ 2000 := by
  unfold spec_l20Open.f
  by_cases h : (s.length : Int) > 2000
  · rw [if_pos h, if_pos (by omega)]
    exact ⟨_, rfl, fun x hx => hs x (List.mem_of_mem_take hx), by rw [List.length_take]; omega⟩
  · rw [if_neg h]
    exact ⟨_, rfl, hs, by omega⟩
theorem bytes_of {l : List Int} (h : ∀ x ∈ l, (Lit.int .u8 x).wf = true) : ∀ x ∈ l, 0 ≤ x ∧ x ≤ 255 := by
  intro x hx
  have := h x hx
  simp only [Lit.wf, IntKind.min, IntKind.max, IntKind.signed, IntKind.bits, Bool.and_eq_true, decide_eq_true_eq, Bool.false_eq_true, if_false] at this
  omega

/-! l1in -/
theorem spec_l1In_is (a b c : Int) : spec_l1In.f a b c = some (decide (b ≤ a ∧ a ≤ c)) := by
  unfold spec_l1In.f
  by_cases h : a ≥ b
  · rw [if_pos h]
    congr 1
    apply decide_eq_decide.2
    omega
  · rw [if_neg h]
    congr 1
    symm
    exact decide_eq_false (by omega)

/-! customers_j -/
/-- Customers, as both texts ask: seen from a place on, with the one ahead. -/
def custFrom : Option S84 → List S84 → Bool
  | _, [] => true
  | none, c :: cs => decide (0 ≤ c.f0 ∧ c.f0 ≤ 60 ∧ 1 ≤ c.f1 ∧ c.f1 ≤ 9) && custFrom (some c) cs
  | some p, c :: cs => decide (0 ≤ c.f0 ∧ c.f0 ≤ 60 ∧ 1 ≤ c.f1 ∧ c.f1 ≤ 9 ∧ p.f0 ≤ c.f0) && custFrom (some c) cs
def custOk (l : List S84) : Bool := custFrom none l && decide (l.length ≤ 8)
theorem rd_Customer_nat (l : List S84) (i : Nat) : rd_T84 l (i : Int) = l.getD i z84 := by
  unfold rd_T84
  rw [Int.toNat_natCast]
theorem cust_bad {p : Option S84} {x : S84} {xs : List S84} (h : ¬ (0 ≤ x.f0 ∧ x.f0 ≤ 60 ∧ 1 ≤ x.f1 ∧ x.f1 ≤ 9)) : custFrom p (x :: xs) = false := by
  cases p with
  | none => simp only [custFrom, decide_eq_false h, Bool.false_and]
  | some q => simp only [custFrom, decide_eq_false (show ¬ (0 ≤ x.f0 ∧ x.f0 ≤ 60 ∧ 1 ≤ x.f1 ∧ x.f1 ≤ 9 ∧ q.f0 ≤ x.f0) from fun hh => h ⟨hh.1, hh.2.1, hh.2.2.1, hh.2.2.2.1⟩), Bool.false_and]
theorem cust_bad2 {p x : S84} {xs : List S84} (h : x.f0 < p.f0) : custFrom (some p) (x :: xs) = false := by
  simp only [custFrom, decide_eq_false (show ¬ (0 ≤ x.f0 ∧ x.f0 ≤ 60 ∧ 1 ≤ x.f1 ∧ x.f1 ≤ 9 ∧ p.f0 ≤ x.f0) from fun hh => by omega), Bool.false_and]
theorem impl_CustomersOk_loop (l : List S84) (hl : l.length ≤ 1048576) : ∀ (suf : List S84) (i k : Nat), l.drop i = suf → 2 * suf.length < k → i ≤ l.length →
    impl_CustomersOk.l0 k l l (l.length : Int) i = some (custFrom (if i = 0 then none else some (l.getD (i - 1) z84)) suf && decide (l.length ≤ 8)) := by
  intro suf
  induction suf with
  | nil =>
    intro i k hd hk hi
    obtain ⟨k, rfl⟩ : ∃ m, k = m + 1 := ⟨k - 1, by omega⟩
    have := drop_nil hd
    simp only [impl_CustomersOk.l0]
    rw [if_neg (by omega)]
    congr 1
    have e : (decide ((l.length : Int) ≤ 8)) = decide (l.length ≤ 8) := decide_eq_decide.2 (by omega)
    rw [e]
    split <;> simp [custFrom]
  | cons x xs ih =>
    intro i k hd hk hi
    obtain ⟨k, rfl⟩ : ∃ m, k = m + 1 := ⟨k - 1, by omega⟩
    obtain ⟨hlt, hd2, hx⟩ := drop_split hd
    simp only [List.length_cons] at hk
    obtain ⟨k, rfl⟩ : ∃ m, k = m + 1 := ⟨k - 1, by omega⟩
    have jt : impl_CustomersOk.j1 (k + 1) l l (l.length : Int) i true = some false := rfl
    have jf : impl_CustomersOk.j1 (k + 1) l l (l.length : Int) i false = some (custFrom (some x) xs && decide (l.length ≤ 8)) := by
      simp only [impl_CustomersOk.j1]
      rw [if_neg (by simp), w64s i (by omega), ih (i + 1) k hd2 (by omega) (by omega), if_neg (show ¬ i + 1 = 0 by omega), show i + 1 - 1 = i from rfl, hx]
    simp only [impl_CustomersOk.l0]
    rw [if_pos (by omega), if_pos (by omega), if_pos (by omega), rd_Customer_nat, hx, jt]
    by_cases h1 : x.f0 < 0
    · rw [if_pos h1, cust_bad (by omega), Bool.false_and]
    rw [if_neg h1]
    by_cases h2 : x.f0 > 60
    · rw [if_pos h2, cust_bad (by omega), Bool.false_and]
    rw [if_neg h2]
    by_cases hi0 : i = 0
    · subst hi0
      rw [if_neg (by omega)]
      by_cases h3 : x.f1 < 1
      · rw [if_pos h3, cust_bad (by omega), Bool.false_and]
      rw [if_neg h3]
      by_cases h4 : x.f1 > 9
      · rw [decide_eq_true h4, jt, cust_bad (by omega), Bool.false_and]
      rw [decide_eq_false h4, jf, if_pos rfl]
      have e : decide (0 ≤ x.f0 ∧ x.f0 ≤ 60 ∧ 1 ≤ x.f1 ∧ x.f1 ≤ 9) = true := decide_eq_true (by omega)
      simp only [custFrom, e, Bool.true_and]
    · rw [if_pos (by omega), show wrap64 ((i : Int) - 1) = ((i - 1 : Nat) : Int) from by rw [w64 (by omega) (by omega)]; omega, if_pos (by omega), if_pos (by omega), rd_Customer_nat, if_neg hi0]
      by_cases h5 : x.f0 < (l.getD (i - 1) z84).f0
      · rw [if_pos h5, cust_bad2 h5, Bool.false_and]
      rw [if_neg h5]
      by_cases h3 : x.f1 < 1
      · rw [if_pos h3, cust_bad (by omega), Bool.false_and]
      rw [if_neg h3]
      by_cases h4 : x.f1 > 9
      · rw [decide_eq_true h4, jt, cust_bad (by omega), Bool.false_and]
      rw [decide_eq_false h4, jf]
      have e : decide (0 ≤ x.f0 ∧ x.f0 ≤ 60 ∧ 1 ≤ x.f1 ∧ x.f1 ≤ 9 ∧ (l.getD (i - 1) z84).f0 ≤ x.f0) = true := decide_eq_true (by omega)
      simp only [custFrom, e, Bool.true_and]
theorem impl_CustomersOk_is (l : List S84) (hl : l.length ≤ 1048576) (k : Nat) (hk : 2 * l.length < k) : impl_CustomersOk.f k l = some (custOk l) := by
  unfold impl_CustomersOk.f
  exact impl_CustomersOk_loop l hl l 0 k rfl hk (by omega)

/-! custspec_h -/
theorem spec_CustomersOk_loop (l : List S84) (hl : l.length ≤ 1048576) : ∀ (suf : List S84) (i k : Nat), l.drop i = suf → suf.length < k → i ≤ l.length →
    spec_CustomersOk.l0 k l i = some (custFrom (if i = 0 then none else some (l.getD (i - 1) z84)) suf && decide (l.length ≤ 8)) := by
  intro suf
  induction suf with
  | nil =>
    intro i k hd hk hi
    obtain ⟨k, rfl⟩ : ∃ m, k = m + 1 := ⟨k - 1, by omega⟩
    have := drop_nil hd
    simp only [spec_CustomersOk.l0]
    rw [if_neg (by omega)]
    split <;> simp [custFrom]
  | cons x xs ih =>
    intro i k hd hk hi
    obtain ⟨k, rfl⟩ : ∃ m, k = m + 1 := ⟨k - 1, by omega⟩
    obtain ⟨hlt, hd2, hx⟩ := drop_split hd
    simp only [spec_CustomersOk.l0]
    rw [if_pos hlt, rd_Customer_nat, hx]
    by_cases h1 : 0 ≤ x.f0 ∧ x.f0 ≤ 60
    · by_cases h2 : 1 ≤ x.f1 ∧ x.f1 ≤ 9
      · have b1 : inP x.f0 0 60 = true := decide_eq_true h1
        have b2 : inP x.f1 1 9 = true := decide_eq_true h2
        by_cases hi0 : i = 0
        · subst hi0
          rw [if_pos ⟨b1, b2, fun h => absurd h (by omega)⟩, if_pos rfl, ih 1 k hd2 (by simp at hk; omega) (by omega), if_neg (by omega)]
          have e : decide (0 ≤ x.f0 ∧ x.f0 ≤ 60 ∧ 1 ≤ x.f1 ∧ x.f1 ≤ 9) = true := decide_eq_true (by omega)
          simp only [custFrom, e, Bool.true_and, show 1 - 1 = 0 from rfl, hx]
        · rw [show ((i : Int) - 1) = ((i - 1 : Nat) : Int) from by omega, rd_Customer_nat, if_neg hi0]
          by_cases h5 : x.f0 < (l.getD (i - 1) z84).f0
          · rw [if_neg (fun h => h.2.2 (by omega) h5), cust_bad2 h5, Bool.false_and]
          · rw [if_pos ⟨b1, b2, fun _ => h5⟩, ih (i + 1) k hd2 (by simp at hk; omega) (by omega), if_neg (by omega), show i + 1 - 1 = i from rfl, hx]
            have e : decide (0 ≤ x.f0 ∧ x.f0 ≤ 60 ∧ 1 ≤ x.f1 ∧ x.f1 ≤ 9 ∧ (l.getD (i - 1) z84).f0 ≤ x.f0) = true := decide_eq_true (by omega)
            simp only [custFrom, e, Bool.true_and]
      · rw [if_neg (fun h => h2 (of_decide_eq_true h.2.1)), cust_bad (by omega), Bool.false_and]
    · rw [if_neg (fun h => h1 (of_decide_eq_true h.1)), cust_bad (by omega), Bool.false_and]
theorem spec_CustomersOk_is (l : List S84) (hl : l.length ≤ 1048576) (k : Nat) (hk : l.length < k) : spec_CustomersOk.f k l = some (custOk l) := by
  unfold spec_CustomersOk.f
  exact spec_CustomersOk_loop l hl l 0 k rfl hk (by omega)

/-! custfacts -/
theorem custFrom_tail {p : Option S84} {x : S84} {xs : List S84} (h : custFrom p (x :: xs) = true) : (0 ≤ x.f0 ∧ x.f0 ≤ 60 ∧ 1 ≤ x.f1 ∧ x.f1 ≤ 9) ∧ custFrom (some x) xs = true ∧ ∀ q, p = some q → q.f0 ≤ x.f0 := by
  cases p with
  | none =>
    simp only [custFrom, Bool.and_eq_true, decide_eq_true_eq] at h
    exact ⟨h.1, h.2, fun q e => by cases e⟩
  | some q =>
    simp only [custFrom, Bool.and_eq_true, decide_eq_true_eq] at h
    exact ⟨⟨h.1.1, h.1.2.1, h.1.2.2.1, h.1.2.2.2.1⟩, h.2, fun q' e => by cases e; exact h.1.2.2.2.2⟩
theorem custFrom_mem {l : List S84} : ∀ {p : Option S84}, custFrom p l = true → ∀ c ∈ l, 0 ≤ c.f0 ∧ c.f0 ≤ 60 ∧ 1 ≤ c.f1 ∧ c.f1 ≤ 9 := by
  induction l with
  | nil => intro p _ c hc; cases hc
  | cons x xs ih =>
    intro p h c hc
    obtain ⟨h1, h2, -⟩ := custFrom_tail h
    rcases List.mem_cons.1 hc with rfl | hc
    · exact h1
    · exact ih h2 c hc
theorem custFrom_le {l : List S84} : ∀ {p : S84}, custFrom (some p) l = true → ∀ c ∈ l, p.f0 ≤ c.f0 := by
  induction l with
  | nil => intro p _ c hc; cases hc
  | cons x xs ih =>
    intro p h c hc
    obtain ⟨h1, h2, h3⟩ := custFrom_tail h
    have hp := h3 p rfl
    rcases List.mem_cons.1 hc with rfl | hc
    · exact hp
    · have := ih h2 c hc; omega
theorem custOk_from {l : List S84} (h : custOk l = true) : custFrom none l = true := by
  unfold custOk at h
  rw [Bool.and_eq_true] at h
  exact h.1
theorem custOk_len {l : List S84} (h : custOk l = true) : l.length ≤ 8 := by
  unfold custOk at h
  rw [Bool.and_eq_true] at h
  exact of_decide_eq_true h.2
theorem custOk_mem {l : List S84} (h : custOk l = true) : ∀ c ∈ l, 0 ≤ c.f0 ∧ c.f0 ≤ 60 ∧ 1 ≤ c.f1 ∧ c.f1 ≤ 9 := custFrom_mem (custOk_from h)
theorem custFrom_adj {l : List S84} : ∀ {p : Option S84}, custFrom p l = true → ∀ i, i + 1 < l.length → (l.getD i z84).f0 ≤ (l.getD (i + 1) z84).f0 := by
  induction l with
  | nil => intro p _ i h; simp at h
  | cons x xs ih =>
    intro p h i hi
    obtain ⟨h1, h2, -⟩ := custFrom_tail h
    cases i with
    | zero => exact custFrom_le h2 (xs.getD 0 z84) (getD_mem (by simpa using hi) _)
    | succ i => exact ih h2 i (by simpa using hi)

/-! alive_j -/
theorem alive_is (k : Nat) (hk : 3 ≤ k) : laws_alive.f k = some true := by
  unfold laws_alive.f
  rw [impl_CustomersOk_is _ (by simp) k (by simp; omega)]
  simp only [Option.bind_some]
  rw [if_pos (by decide), impl_CustomersOk_is _ (by simp) k (by simp; omega)]
  rfl

/-! drawcust -/
theorem l20Customers_loop {s : List Int} (hs : ∀ x ∈ s, 0 ≤ x ∧ x ≤ 255) (hl : s.length ≤ 2000) (m wide high : Int) (hm : m ≤ 1000) : ∀ (d : Nat) (k : Nat) (l : List S84) (t p : Int), d + 2 ≤ k → 0 ≤ p → p + 2 * d + 4 ≤ 1000000 → l.length + d ≤ 100 →
    ∃ r q, spec_l20Customers.l0 k m l t wide high d s p = some (r, q) ∧ r.length ≤ 200 ∧ p ≤ q ∧ q ≤ p + 2 * d + 4 := by
  intro d
  induction d with
  | zero =>
    intro k l t p hk hp hp2 hll
    obtain ⟨k, rfl⟩ : ∃ m, k = m + 1 := ⟨k - 1, by omega⟩
    simp only [spec_l20Customers.l0]
    rw [if_neg (by omega)]
    obtain ⟨b, q, e, hq1, hq2, -⟩ := odd_ok (k := k) (by omega) hs hl p hp (by omega) m hm
    rw [e]; simp only [Option.bind_some]
    cases b with
    | false => rw [if_neg (by simp)]; exact ⟨_, _, rfl, by omega, by omega, by omega⟩
    | true =>
      rw [if_pos rfl]
      obtain ⟨v, e2, hv⟩ := pick_ok (k := k) (by omega) hs hl q (by omega) (by omega) 3
      rw [e2]; simp only [Option.bind_some]
      by_cases v0 : v = 0
      · rw [if_pos v0]; exact ⟨_, _, rfl, by simp, by omega, by omega⟩
      · rw [if_neg v0]
        by_cases v1 : v = 1
        · rw [if_pos v1, if_pos (by omega)]; exact ⟨_, _, rfl, by rw [List.length_append]; simp; omega, by omega, by omega⟩
        · rw [if_neg v1]
          obtain ⟨v2, e3, hv2, hv3, -⟩ := pick_ok (k := k) (by omega) hs hl (q + 1) (by omega) (by omega) 2
          have hv3 := hv3 (by omega)
          rw [e3]; simp only [Option.bind_some]
          rw [if_pos hv2, if_pos (by simp; omega)]
          exact ⟨_, _, rfl, by simp, by omega, by omega⟩
  | succ d ih =>
    intro k l t p hk hp hp2 hll
    obtain ⟨k, rfl⟩ : ∃ m, k = m + 1 := ⟨k - 1, by omega⟩
    simp only [spec_l20Customers.l0]
    rw [if_pos (by omega)]
    obtain ⟨v, e, -⟩ := pick_ok (k := k) (by omega) hs hl p hp (by omega) high
    rw [e]; simp only [Option.bind_some]
    rw [if_pos (by omega)]
    obtain ⟨v2, e2, -⟩ := pick_ok (k := k) (by omega) hs hl (p + 1) (by omega) (by omega) (wrap64 (wide + 1))
    rw [e2]; simp only [Option.bind_some]
    rw [show wrap64 (((d + 1 : Nat) : Int) - 1) = (d : Int) from by rw [w64 (by omega) (by omega)]; omega]
    obtain ⟨r, q, e3, h1, h2, h3⟩ := ih k (l ++ [⟨t, wrap64 (1 + v)⟩]) (wrap64 (t + v2)) (p + 1 + 1) (by omega) (by omega) (by omega) (by rw [List.length_append]; simp; omega)
    exact ⟨r, q, e3, h1, by omega, by omega⟩
theorem l20Customers_ok {s : List Int} (hs : ∀ x ∈ s, 0 ≤ x ∧ x ≤ 255) (hl : s.length ≤ 2000) (m : Int) (hm : m ≤ 1000) (k : Nat) (hk : 20 ≤ k) (p : Int) (hp : 0 ≤ p) (hp2 : p ≤ 100000) :
    ∃ r q, spec_l20Customers.f k s p m = some (r, q) ∧ r.length ≤ 200 ∧ p ≤ q ∧ q ≤ p + 30 := by
  unfold spec_l20Customers.f
  obtain ⟨v0, e0, -⟩ := pick_ok (k := k) (by omega) hs hl p hp (by omega) 3
  rw [e0]; simp only [Option.bind_some]
  obtain ⟨v, e, -⟩ := pick_ok (k := k) (by omega) hs hl (p + 1) (by omega) (by omega) 5
  rw [e]; simp only [Option.bind_some]
  obtain ⟨v1, e1, h10, h11, -⟩ := pick_ok (k := k) (by omega) hs hl (p + 1 + 1) (by omega) (by omega) 2
  have h11 := h11 (by omega)
  rw [e1]; simp only [Option.bind_some]
  rw [if_pos h10, if_pos (by simp; omega)]
  obtain ⟨v2, e2, hv2, hv3, -⟩ := pick_ok (k := k) (by omega) hs hl (p + 1 + 1 + 1) (by omega) (by omega) 9
  have hv3 := hv3 (by omega)
  rw [e2]; simp only [Option.bind_some]
  obtain ⟨r, q, e3, h1, h2, h3⟩ := l20Customers_loop hs hl m (wrap64 (1 + v)) (rd [3, 9] v1) hm v2.toNat k [] v0 (p + 1 + 1 + 1 + 1) (by omega) (by omega) (by omega) (by simp only [List.length_nil]; omega)
  rw [show ((v2.toNat : Nat) : Int) = v2 from by omega] at e3
  exact ⟨r, q, e3, h1, by omega, by omega⟩

/-! drawdeed -/
theorem l20Deed_end {s : List Int} (hs : ∀ x ∈ s, 0 ≤ x ∧ x ≤ 255) (hl : s.length ≤ 2000) (k : Nat) (hk : 3 ≤ k) (p : Int) (hp : 0 ≤ p) (hp2 : p ≤ 900000) (kd a b : Int) :
    ∃ a' q, spec_l20Deed.j1 k s p kd a b = some (kd, a', b, q) ∧ p ≤ q ∧ q ≤ p + 2 := by
  obtain ⟨k, rfl⟩ : ∃ m, k = m + 1 := ⟨k - 1, by omega⟩
  simp only [spec_l20Deed.j1]
  obtain ⟨o, q, e, h1, h2, -⟩ := odd_ok (k := k) (by omega) hs hl p hp (by omega) 40 (by omega)
  rw [e, Option.bind_some]; dsimp only
  by_cases ho : o = true
  · rw [if_pos ho, Option.bind_some]
    obtain ⟨v, e2, h3, h4, -⟩ := pick_ok (k := k) (by omega) hs hl q (by omega) (by omega) 3
    rw [e2, Option.bind_some]; dsimp only
    have := h4 (by omega)
    rw [if_pos h3, if_pos (by simp only [List.length_cons, List.length_nil]; omega)]
    exact ⟨_, _, rfl, by omega, by omega⟩
  · rw [if_neg ho]
    exact ⟨_, _, rfl, by omega, by omega⟩
theorem l20Deed_come {s : List Int} (hs : ∀ x ∈ s, 0 ≤ x ∧ x ≤ 255) (hl : s.length ≤ 2000) (k : Nat) (hk : 4 ≤ k) (p : Int) (hp : 0 ≤ p) (hp2 : p ≤ 800000) (x kd a b : Int) :
    ∃ a' b' q, spec_l20Deed.j0 k x s p kd a b = some (kd, a', b', q) ∧ p ≤ q ∧ q ≤ p + 6 := by
  obtain ⟨k, rfl⟩ : ∃ m, k = m + 1 := ⟨k - 1, by omega⟩
  simp only [spec_l20Deed.j0]
  obtain ⟨v1, e1, -⟩ := pick_ok (k := k) (by omega) hs hl p hp (by omega) 6
  rw [e1, Option.bind_some]; dsimp only
  obtain ⟨v2, e2, -⟩ := pick_ok (k := k) (by omega) hs hl (p + 1) (by omega) (by omega) 10
  rw [e2, Option.bind_some]; dsimp only
  obtain ⟨v3, e3, -⟩ := pick_ok (k := k) (by omega) hs hl (p + 1 + 1) (by omega) (by omega) 9
  rw [e3, Option.bind_some]; dsimp only
  obtain ⟨v4, e4, -⟩ := pick_ok (k := k) (by omega) hs hl (p + 1 + 1 + 1) (by omega) (by omega) 20
  rw [e4, Option.bind_some]; dsimp only
  obtain ⟨a', q, e, h1, h2⟩ := l20Deed_end hs hl k (by omega) (p + 1 + 1 + 1 + 1) (by omega) (by omega) kd (mx (wrap64 ((wrap64 (x + v1)) - (wrap64 (Int.tdiv v2 9)))) 0) (wrap64 ((wrap64 (1 + v3)) - (wrap64 (Int.tdiv v4 19))))
  exact ⟨_, _, _, e, by omega, by omega⟩
theorem l20Deed_ok {s : List Int} (hs : ∀ x ∈ s, 0 ≤ x ∧ x ≤ 255) (hl : s.length ≤ 2000) (k : Nat) (hk : 4 ≤ k) (p : Int) (hp : 0 ≤ p) (hp2 : p ≤ 700000) (l : List S84) (hll : l.length ≤ 1000) :
    ∃ kd a b q, spec_l20Deed.f k s p l = some (kd, a, b, q) ∧ p ≤ q ∧ q ≤ p + 10 := by
  unfold spec_l20Deed.f
  obtain ⟨v1, e1, h1, h2, -⟩ := pick_ok (k := k) (by omega) hs hl p hp (by omega) 7
  rw [Option.bind_some, e1, Option.bind_some]; dsimp only
  have := h2 (by omega)
  rw [if_pos h1, if_pos (by simp only [List.length_cons, List.length_nil]; omega)]
  obtain ⟨v2, e2, -⟩ := pick_ok (k := k) (by omega) hs hl (p + 1) (by omega) (by omega) 60
  rw [e2, Option.bind_some]; dsimp only
  generalize wrap64 ((rd [0, 0, 0, 1, 2, 3, 4] v1) + (wrap64 ((wrap64 (Int.tdiv v2 59)) * 5))) = kd
  have hw : 0 < (l.length : Int) → wrap64 ((l.length : Int) - 1) = (l.length : Int) - 1 := fun _ => w64 (by omega) (by omega)
  by_cases c0 : kd = 0
  · rw [if_pos c0]
    have hj : ∀ x : Int, ∃ kd' a b q, spec_l20Deed.j0 k x s (p + 1 + 1) kd 0 0 = some (kd', a, b, q) ∧ p ≤ q ∧ q ≤ p + 10 := by
      intro x
      obtain ⟨a', b', q, e, g1, g2⟩ := l20Deed_come hs hl k hk (p + 1 + 1) (by omega) (by omega) x kd 0 0
      exact ⟨_, _, _, _, e, by omega, by omega⟩
    by_cases c1 : (l.length : Int) > 0
    · rw [if_pos c1, hw c1, if_pos (by omega), if_pos (by omega)]; exact hj _
    · rw [if_neg c1]; exact hj _
  · rw [if_neg c0]
    by_cases c2 : kd = 2
    · rw [if_pos c2]
      obtain ⟨v3, e3, -⟩ := pick_ok (k := k) (by omega) hs hl (p + 1 + 1) (by omega) (by omega) (mx (l.length : Int) 1)
      rw [e3, Option.bind_some]; dsimp only
      obtain ⟨a', q, e, g1, g2⟩ := l20Deed_end hs hl k (by omega) (p + 1 + 1 + 1) (by omega) (by omega) kd v3 0
      exact ⟨_, _, _, _, e, by omega, by omega⟩
    · rw [if_neg c2]
      by_cases c3 : kd = 3
      · rw [if_pos c3]
        obtain ⟨v3, e3, -⟩ := pick_ok (k := k) (by omega) hs hl (p + 1 + 1) (by omega) (by omega) 6
        rw [e3, Option.bind_some]; dsimp only
        obtain ⟨a', q, e, g1, g2⟩ := l20Deed_end hs hl k (by omega) (p + 1 + 1 + 1) (by omega) (by omega) kd v3 0
        exact ⟨_, _, _, _, e, by omega, by omega⟩
      · rw [if_neg c3]
        obtain ⟨a', q, e, g1, g2⟩ := l20Deed_end hs hl k (by omega) (p + 1 + 1) (by omega) (by omega) kd 0 0
        exact ⟨_, _, _, _, e, by omega, by omega⟩

/-! rdd -/
theorem rdd_nat (l : List (List S84)) (i : Nat) : rd_L5 l (i : Int) = l.getD i [] := by
  unfold rd_L5
  rw [Int.toNat_natCast]

/-! deskok_j -/
/-- A desk, as both texts ask. -/
def deskOk (now : List S84) (past : List (List S84)) : Bool := past.all custOk && (custOk now && decide (past.length ≤ 8))
theorem impl_DeskOk_loop (now : List S84) (past : List (List S84)) (hn : now.length ≤ 1048576) (hp : past.length ≤ 1048576) (hm : ∀ x ∈ past, x.length ≤ 1048576) : ∀ (suf : List (List S84)) (i k : Nat), past.drop i = suf → suf.length + 2097153 < k → i ≤ past.length →
    impl_DeskOk.l0 k past (past.length : Int) i now past = some (suf.all custOk && (custOk now && decide (past.length ≤ 8))) := by
  intro suf
  induction suf with
  | nil =>
    intro i k hd hk hi
    obtain ⟨k, rfl⟩ : ∃ m, k = m + 1 := ⟨k - 1, by omega⟩
    have := drop_nil hd
    simp only [impl_DeskOk.l0]
    rw [if_neg (by omega), impl_CustomersOk_is now hn k (by omega)]
    simp only [Option.bind_some]
    have e : (decide ((past.length : Int) ≤ 8)) = decide (past.length ≤ 8) := decide_eq_decide.2 (by omega)
    rw [e]
    by_cases h : custOk now = true
    · rw [if_pos h]; simp [h]
    · rw [if_neg h]; simp [h]
  | cons x xs ih =>
    intro i k hd hk hi
    obtain ⟨k, rfl⟩ : ∃ m, k = m + 1 := ⟨k - 1, by omega⟩
    obtain ⟨hlt, hd2, hx⟩ := drop_split hd
    have hxl := hm x (by rw [← hx []]; exact getD_mem hlt _)
    simp only [impl_DeskOk.l0]
    simp only [List.length_cons] at hk
    rw [if_pos (by omega), if_pos (by omega), if_pos (by omega), rdd_nat, hx, impl_CustomersOk_is x hxl k (by omega), w64s i (by omega), ih (i + 1) k hd2 (by omega) (by omega)]
    simp only [Option.bind_some]
    by_cases h : custOk x = true
    · rw [if_pos h]; simp [h]
    · rw [if_neg h]; simp [h]
theorem impl_DeskOk_is (now : List S84) (past : List (List S84)) (hn : now.length ≤ 1048576) (hp : past.length ≤ 1048576) (hm : ∀ x ∈ past, x.length ≤ 1048576) (k : Nat) (hk : 4000000 ≤ k) : impl_DeskOk.f k now past = some (deskOk now past) := by
  unfold impl_DeskOk.f
  exact impl_DeskOk_loop now past hn hp hm past 0 k rfl (by omega) (by omega)
theorem spec_DeskOk_loop (now : List S84) (past : List (List S84)) (hn : now.length ≤ 1048576) (hp : past.length ≤ 1048576) (hm : ∀ x ∈ past, x.length ≤ 1048576) : ∀ (suf : List (List S84)) (i k : Nat), past.drop i = suf → suf.length + 1048577 < k → i ≤ past.length →
    spec_DeskOk.l0 k i now past = some (suf.all custOk && (custOk now && decide (past.length ≤ 8))) := by
  intro suf
  induction suf with
  | nil =>
    intro i k hd hk hi
    obtain ⟨k, rfl⟩ : ∃ m, k = m + 1 := ⟨k - 1, by omega⟩
    have := drop_nil hd
    simp only [spec_DeskOk.l0]
    rw [if_neg (by omega), spec_CustomersOk_is now hn k (by omega)]
    simp only [Option.bind_some]
    have e : (decide ((past.length : Int) ≤ 8)) = decide (past.length ≤ 8) := decide_eq_decide.2 (by omega)
    rw [e]
    by_cases h : custOk now = true
    · rw [if_pos h]; simp [h]
    · rw [if_neg h]; simp [h]
  | cons x xs ih =>
    intro i k hd hk hi
    obtain ⟨k, rfl⟩ : ∃ m, k = m + 1 := ⟨k - 1, by omega⟩
    obtain ⟨hlt, hd2, hx⟩ := drop_split hd
    have hxl := hm x (by rw [← hx []]; exact getD_mem hlt _)
    simp only [spec_DeskOk.l0]
    simp only [List.length_cons] at hk
    rw [if_pos (by omega), if_pos (by omega), rdd_nat, hx, spec_CustomersOk_is x hxl k (by omega), w64s i (by omega), ih (i + 1) k hd2 (by omega) (by omega)]
    simp only [Option.bind_some]
    by_cases h : custOk x = true
    · rw [if_pos h]; simp [h]
    · rw [if_neg h]; simp [h]
theorem spec_DeskOk_is (now : List S84) (past : List (List S84)) (hn : now.length ≤ 1048576) (hp : past.length ≤ 1048576) (hm : ∀ x ∈ past, x.length ≤ 1048576) (k : Nat) (hk : 3000000 ≤ k) : spec_DeskOk.f k now past = some (deskOk now past) := by
  unfold spec_DeskOk.f
  exact spec_DeskOk_loop now past hn hp hm past 0 k rfl (by omega) (by omega)

/-! samecust -/
theorem sameCustomers_loop (a : List S84) (ha : a.length ≤ 1048576) : ∀ (suf : List S84) (i k : Nat), a.drop i = suf → suf.length < k → laws_sameCustomers.l0 k a a (i : Int) = some true := by
  intro suf
  induction suf with
  | nil =>
    intro i k hd hk
    obtain ⟨k, rfl⟩ : ∃ m, k = m + 1 := ⟨k - 1, by omega⟩
    have := drop_nil hd
    simp only [laws_sameCustomers.l0]
    rw [if_neg (by omega)]
  | cons x xs ih =>
    intro i k hd hk
    obtain ⟨k, rfl⟩ : ∃ m, k = m + 1 := ⟨k - 1, by omega⟩
    obtain ⟨hlt, hd2, hx⟩ := drop_split hd
    simp only [laws_sameCustomers.l0]
    simp only [List.length_cons] at hk
    rw [if_pos (by omega), if_pos (by omega), if_pos (by omega), if_neg (by simp), w64s i (by omega)]
    exact ih (i + 1) k hd2 (by omega)
theorem sameCustomers_is (a : List S84) (ha : a.length ≤ 1048576) (k : Nat) (hk : a.length < k) : laws_sameCustomers.f k a a = some true := by
  unfold laws_sameCustomers.f
  rw [if_pos rfl]
  exact sameCustomers_loop a ha a 0 k rfl hk

/-! samedesk -/
theorem sameDesk_loop (now now2 : List S84) (p : List (List S84)) (hp : p.length ≤ 1048576) (hm : ∀ x ∈ p, x.length ≤ 1048576) : ∀ (suf : List (List S84)) (i k : Nat), p.drop i = suf → suf.length + 1048577 < k → laws_sameDesk.l0 k (i : Int) now p now2 p = some true := by
  intro suf
  induction suf with
  | nil =>
    intro i k hd hk
    obtain ⟨k, rfl⟩ : ∃ m, k = m + 1 := ⟨k - 1, by omega⟩
    have := drop_nil hd
    simp only [laws_sameDesk.l0]
    rw [if_neg (by omega)]
  | cons x xs ih =>
    intro i k hd hk
    obtain ⟨k, rfl⟩ : ∃ m, k = m + 1 := ⟨k - 1, by omega⟩
    obtain ⟨hlt, hd2, hx⟩ := drop_split hd
    have hxl := hm x (by rw [← hx []]; exact getD_mem hlt _)
    simp only [laws_sameDesk.l0]
    simp only [List.length_cons] at hk
    rw [if_pos (by omega), if_pos (by omega), if_pos (by omega), rdd_nat, hx, sameCustomers_is x hxl k (by omega), Option.bind_some, if_pos rfl, w64s i (by omega)]
    exact ih (i + 1) k hd2 (by omega)
theorem sameDesk_is (now : List S84) (p : List (List S84)) (hn : now.length ≤ 1048576) (hp : p.length ≤ 1048576) (hm : ∀ x ∈ p, x.length ≤ 1048576) (k : Nat) (hk : 3000000 ≤ k) : laws_sameDesk.f k now p now p = some true := by
  unfold laws_sameDesk.f
  obtain ⟨k, rfl⟩ : ∃ m, k = m + 1 := ⟨k - 1, by omega⟩
  rw [sameCustomers_is now hn _ (by omega), Option.bind_some, if_pos rfl]
  simp only [laws_sameDesk.j0]
  rw [if_neg (by simp)]
  exact sameDesk_loop now now p hp hm p 0 k rfl (by omega)

/-! desknew_spec -/
def deskNewP (l : List S84) : List S84 := if custOk l = true then l else []
theorem spec_DeskNew_is (l : List S84) (hl : l.length ≤ 1048576) (k : Nat) (hk : l.length < k) : spec_DeskNew.f k l = some (deskNewP l, [], custOk l) := by
  unfold spec_DeskNew.f deskNewP
  rw [spec_CustomersOk_is l hl k hk, Option.bind_some]
  simp only [Option.bind_some]
  by_cases h : custOk l = true
  · rw [if_pos h, if_pos (by simp only [List.length_nil]; omega), if_pos h, h, List.nil_append]
  · rw [if_neg h, if_neg h, Bool.eq_false_iff.2 h]

/-! deskdo -/
/-- What a deed makes of customers. -/
def needP (l : List S84) (a : Int) : List S84 × Bool :=
  if custOk l = true ∧ 0 ≤ a ∧ a < l.length ∧ custOk (l.set a.toNat ⟨(l.getD a.toNat z84).f0, (l.getD a.toNat z84).f1 + 1⟩) = true then (l.set a.toNat ⟨(l.getD a.toNat z84).f0, (l.getD a.toNat z84).f1 + 1⟩, true) else ([], false)
def laterL (l : List S84) (a : Int) : List S84 := l.map (fun c => ⟨wrap64 (c.f0 + a), c.f1⟩)
def laterP (l : List S84) (a : Int) : List S84 × Bool :=
  if custOk l = true ∧ custOk (laterL l a) = true ∧ 0 ≤ a ∧ a ≤ 60 then (laterL l a, true) else ([], false)
def madeP (l : List S84) (kd a b : Int) : List S84 × Bool :=
  if kd = 0 then (l ++ [⟨a, b⟩], custOk (l ++ [⟨a, b⟩]))
  else if kd = 1 then (if a = 0 ∧ b = 0 ∧ 0 < l.length then (l.take (l.length - 1), true) else (l, false))
  else if kd = 2 then (if b = 0 then needP l a else (l, false))
  else if kd = 3 ∧ b = 0 ∧ a > 0 ∧ 0 < l.length then laterP l a
  else (l, false)
/-- A desk after a deed (with fewer than eight lists of before). -/
def deskDoP (now : List S84) (past : List (List S84)) (kd a b : Int) : List S84 × List (List S84) × Bool :=
  if deskOk now past = true then
    (if (kd = 4 ∧ a = 0 ∧ b = 0) ∧ 0 < past.length then (past.getD (past.length - 1) [], past.take (past.length - 1), true)
    else if (madeP now kd a b).2 = true then ((madeP now kd a b).1, past ++ [now], true) else (now, past, false))
  else ([], [], false)
theorem deskOk_parts {now : List S84} {past : List (List S84)} (h : deskOk now past = true) : custOk now = true ∧ (∀ x ∈ past, custOk x = true) ∧ past.length ≤ 8 := by
  unfold deskOk at h
  simp only [Bool.and_eq_true, decide_eq_true_eq, List.all_eq_true] at h
  exact ⟨h.2.1, h.1, h.2.2⟩
theorem deskOk_of {now : List S84} {past : List (List S84)} (h1 : custOk now = true) (h2 : ∀ x ∈ past, custOk x = true) (h3 : past.length ≤ 8) : deskOk now past = true := by
  unfold deskOk
  simp only [Bool.and_eq_true, decide_eq_true_eq, List.all_eq_true]
  exact ⟨h2, h1, h3⟩
theorem madeP_ok {l : List S84} {kd a b : Int} (hl : custOk l = true) (h : (madeP l kd a b).2 = true) : (madeP l kd a b).1.length ≤ 9 := by
  have h8 := custOk_len hl
  unfold madeP at *
  split
  · rw [List.length_append]; simp; omega
  · split
    · split
      · rw [List.length_take]; omega
      · show l.length ≤ 9; omega
    · split
      · split
        · unfold needP; split
          · simp only [List.length_set]; omega
          · simp
        · show l.length ≤ 9; omega
      · split
        · unfold laterP; split
          · unfold laterL; simp only [List.length_map]; omega
          · simp
        · show l.length ≤ 9; omega

/-! deskdo_made -/
theorem l12Copy_loop (now : List S84) (past : List (List S84)) (hp : past.length ≤ 1048576) (hm : ∀ x ∈ past, x.length ≤ 1048576) (m : List S84) : ∀ (suf : List (List S84)) (i k : Nat), past.drop i = suf → suf.length < k → i ≤ past.length →
    spec_l12Copy.l0 k i now past m (past.take i) = some (m, past) := by
  intro suf
  induction suf with
  | nil =>
    intro i k hd hk hi
    obtain ⟨k, rfl⟩ : ∃ m, k = m + 1 := ⟨k - 1, by omega⟩
    have := drop_nil hd
    simp only [spec_l12Copy.l0]
    rw [if_neg (by omega), List.take_of_length_le this]
  | cons x xs ih =>
    intro i k hd hk hi
    obtain ⟨k, rfl⟩ : ∃ m, k = m + 1 := ⟨k - 1, by omega⟩
    obtain ⟨hlt, hd2, hx⟩ := drop_split hd
    have hxl := hm x (by rw [← hx []]; exact getD_mem hlt _)
    simp only [List.length_cons] at hk
    simp only [spec_l12Copy.l0]
    have e := take_succ_getD hlt []
    rw [hx] at e
    rw [if_pos (by omega), Option.bind_some, if_pos (by omega), rdd_nat, hx, if_pos (by simp only [List.length_nil]; omega), if_pos (by rw [List.length_take]; omega), w64s i (by omega), List.nil_append, ← e]
    exact ih (i + 1) k hd2 (by omega) (by omega)
theorem l12Copy_is (now : List S84) (past : List (List S84)) (hn : now.length ≤ 1048576) (hp : past.length ≤ 1048576) (hm : ∀ x ∈ past, x.length ≤ 1048576) (k : Nat) (hk : past.length < k) : spec_l12Copy.f k now past = some (now, past) := by
  unfold spec_l12Copy.f
  rw [Option.bind_some, if_pos (by simp only [List.length_nil]; omega)]
  exact l12Copy_loop now past hp hm ([] ++ now) past 0 k rfl hk (by omega)
theorem spec_Need_is (l : List S84) (hl : l.length ≤ 1048576) (a : Int) (k : Nat) (hk : l.length + 20 ≤ k) : spec_NeedingMore.f k l a = some (needP l a) := by
  obtain ⟨k, rfl⟩ : ∃ m, k = m + 1 := ⟨k - 1, by omega⟩
  unfold spec_NeedingMore.f needP
  rw [spec_CustomersOk_is l hl (k + 1) (by omega), Option.bind_some]
  by_cases hok : custOk l = true
  · rw [if_pos hok, spec_l1In_is, Option.bind_some, show wrap64 ((l.length : Int) - 1) = (l.length : Int) - 1 from w64 (by omega) (by omega)]
    by_cases hi : 0 ≤ a ∧ a ≤ (l.length : Int) - 1
    · rw [decide_eq_true hi]
      simp only [spec_NeedingMore.j0, Bool.not_true, Option.bind_some, List.nil_append]
      obtain ⟨n, rfl⟩ := Int.eq_ofNat_of_zero_le hi.1
      have hxb := custOk_mem hok (l.getD n z84) (getD_mem (by omega) _)
      rw [if_neg (by simp), if_pos (by simp only [List.length_nil]; omega), if_pos (by omega), if_pos (by omega), rd_Customer_nat, Int.toNat_natCast, show wrap64 ((l.getD n z84).f1 + 1) = (l.getD n z84).f1 + 1 from w64 (by omega) (by omega)]
      rw [spec_CustomersOk_is (l.set n _) (by rw [List.length_set]; omega) k (by rw [List.length_set]; omega), Option.bind_some]
      by_cases h : custOk (l.set n ⟨(l.getD n z84).f0, (l.getD n z84).f1 + 1⟩) = true
      · rw [if_pos h, if_pos ⟨hok, by omega, by omega, h⟩]
      · rw [if_neg h, if_neg (fun e => h e.2.2.2)]
    · rw [decide_eq_false hi]
      simp only [spec_NeedingMore.j0, Bool.not_false]
      rw [if_pos trivial, if_neg (fun e => hi ⟨e.2.1, by omega⟩)]
  · rw [if_neg hok]
    simp only [spec_NeedingMore.j0]
    rw [if_pos trivial, if_neg (fun e => hok e.1)]
theorem spec_Later_loop (l : List S84) (hl : l.length ≤ 1048576) (a : Int) : ∀ (suf : List S84) (i k : Nat), l.drop i = suf → suf.length + l.length + 20 < k → i ≤ l.length →
    spec_LaterBy.l0 k l a ((l.take i).map (fun c => (⟨wrap64 (c.f0 + a), c.f1⟩ : S84))) i = some (laterP l a) := by
  intro suf
  induction suf with
  | nil =>
    intro i k hd hk hi
    obtain ⟨k, rfl⟩ : ∃ m, k = m + 1 := ⟨k - 1, by omega⟩
    have := drop_nil hd
    simp only [spec_LaterBy.l0]
    rw [if_neg (by omega), List.take_of_length_le this, spec_CustomersOk_is l hl k (by omega), Option.bind_some]
    rw [show l.map (fun c => (⟨wrap64 (c.f0 + a), c.f1⟩ : S84)) = laterL l a from rfl]
    have hll : (laterL l a).length = l.length := by unfold laterL; rw [List.length_map]
    unfold laterP
    by_cases h1 : custOk l = true
    · rw [if_pos h1, spec_CustomersOk_is _ (by omega) k (by omega), Option.bind_some]
      by_cases h2 : custOk (laterL l a) = true
      · rw [if_pos h2, spec_l1In_is, Option.bind_some]
        by_cases h3 : 0 ≤ a ∧ a ≤ 60
        · rw [decide_eq_true h3, if_pos rfl, if_pos ⟨h1, h2, h3.1, h3.2⟩]
        · rw [decide_eq_false h3, if_neg (by simp), if_neg (fun e => h3 ⟨e.2.2.1, e.2.2.2⟩)]
      · rw [if_neg h2, if_neg (fun e => h2 e.2.1)]
    · rw [if_neg h1, if_neg (fun e => h1 e.1)]
  | cons x xs ih =>
    intro i k hd hk hi
    obtain ⟨k, rfl⟩ : ∃ m, k = m + 1 := ⟨k - 1, by omega⟩
    obtain ⟨hlt, hd2, hx⟩ := drop_split hd
    simp only [List.length_cons] at hk
    simp only [spec_LaterBy.l0]
    rw [if_pos (by omega), if_pos (by omega), if_pos (by rw [List.length_map, List.length_take]; omega), rd_Customer_nat, hx, w64s i (by omega)]
    have e := take_succ_getD hlt z84
    rw [hx] at e
    have := ih (i + 1) k hd2 (by omega) (by omega)
    rw [e, List.map_append] at this
    exact this
theorem spec_Later_is (l : List S84) (hl : l.length ≤ 1048576) (a : Int) (k : Nat) (hk : 2 * l.length + 30 ≤ k) : spec_LaterBy.f k l a = some (laterP l a) := by
  unfold spec_LaterBy.f
  exact spec_Later_loop l hl a l 0 k rfl (by omega) (by omega)
theorem l12Made_is (l : List S84) (hl : l.length ≤ 1000000) (kd a b : Int) (k : Nat) (hk : 2 * l.length + 40 ≤ k) : spec_l12Made.f k l kd a b = some (madeP l kd a b) := by
  obtain ⟨k, rfl⟩ : ∃ m, k = m + 1 := ⟨k - 1, by omega⟩
  obtain ⟨k, rfl⟩ : ∃ m, k = m + 1 := ⟨k - 1, by omega⟩
  unfold spec_l12Made.f madeP
  by_cases h0 : kd = 0
  · rw [if_pos h0, if_pos h0, Option.bind_some, if_pos (by simp only [List.length_nil]; omega), Option.bind_some, Option.bind_some, List.nil_append, if_pos (by simp only [List.length_cons, List.length_nil]; omega), Option.bind_some, spec_CustomersOk_is _ (by rw [List.length_append]; simp; omega) _ (by rw [List.length_append]; simp; omega), Option.bind_some]
  · rw [if_neg h0, if_neg h0]
    have hw : 0 < l.length → wrap64 ((l.length : Int) - 1) = ((l.length - 1 : Nat) : Int) := fun _ => by rw [w64 (by omega) (by omega)]; omega
    have hj : spec_l12Made.j0 (k + 1 + 1) l false kd a b = some (if kd = 2 then (if b = 0 then needP l a else (l, false)) else if kd = 3 ∧ b = 0 ∧ a > 0 ∧ 0 < l.length then laterP l a else (l, false)) := by
      simp only [spec_l12Made.j0]
      rw [if_neg (by simp)]
      by_cases h2 : kd = 2
      · rw [if_pos h2, if_pos h2]
        simp only [spec_l12Made.j1]
        by_cases hb : b = 0
        · rw [if_pos (by simp [hb]), if_pos hb, spec_Need_is l (by omega) a k (by omega), Option.bind_some]
        · rw [if_neg (by simp [hb]), if_neg (show ¬ kd = 3 from by omega), if_neg hb]
      · rw [if_neg h2, if_neg h2]
        simp only [spec_l12Made.j1]
        rw [if_neg (by simp)]
        by_cases h3 : kd = 3
        · rw [if_pos h3]
          by_cases hb : b = 0
          · rw [if_pos hb]
            by_cases ha : a > 0
            · rw [if_pos ha]
              by_cases hn : (l.length : Int) > 0
              · rw [if_pos hn, spec_Later_is l (by omega) a k (by omega), Option.bind_some, if_pos ⟨h3, hb, ha, by omega⟩]
              · rw [if_neg hn, if_neg (fun e => hn (by omega))]
            · rw [if_neg ha, if_neg (fun e => ha e.2.2.1)]
          · rw [if_neg hb, if_neg (fun e => hb e.2.1)]
        · rw [if_neg h3, if_neg (fun e => h3 e.1)]
    by_cases h1 : kd = 1
    · rw [if_pos h1]
      have e2 : (if kd = 2 then (if b = 0 then needP l a else (l, false)) else if kd = 3 ∧ b = 0 ∧ a > 0 ∧ 0 < l.length then laterP l a else (l, false)) = (l, false) := by
        rw [if_neg (by omega), if_neg (by omega)]
      rw [e2] at hj
      by_cases hab : a = 0 ∧ b = 0
      · rw [if_pos (by simp [h1, hab.1, hab.2])]
        by_cases hn : 0 < l.length
        · rw [decide_eq_true (by omega), if_pos ⟨hab.1, hab.2, hn⟩]
          simp only [spec_l12Made.j0]
          rw [if_pos trivial, Option.bind_some, hw hn, if_pos (by omega), if_pos (by omega), Option.bind_some, Int.toNat_natCast, if_pos (by rw [List.length_take]; simp only [List.length_nil]; omega), List.nil_append]
        · rw [decide_eq_false (by omega), hj, if_neg (fun e => hn e.2.2)]
      · rw [if_neg (by simp only [Bool.and_eq_true, beq_iff_eq]; exact fun e => hab e.2), hj, if_neg (fun e => hab ⟨e.1, e.2.1⟩)]
    · rw [if_neg h1, if_neg (by simp [h1]), hj]

/-! deskdo_impl -/
theorem clone_is (l : List S84) (hl : l.length ≤ 1048576) : impl_Customer_95.f l = some l := by
  unfold impl_Customer_95.f
  rw [Option.bind_some, if_pos (by simp only [List.length_nil]; omega), List.nil_append]
theorem implCopy_loop (past : List (List S84)) (hp : past.length ≤ 1048576) (hm : ∀ x ∈ past, x.length ≤ 1048576) (m : List S84) : ∀ (suf : List (List S84)) (i k : Nat), past.drop i = suf → suf.length < k → i ≤ past.length →
    impl_copyDesk.l0 k past past.length i m (past.take i) = some (m, past) := by
  intro suf
  induction suf with
  | nil =>
    intro i k hd hk hi
    obtain ⟨k, rfl⟩ : ∃ m, k = m + 1 := ⟨k - 1, by omega⟩
    have := drop_nil hd
    simp only [impl_copyDesk.l0]
    rw [if_neg (by omega), List.take_of_length_le this]
  | cons x xs ih =>
    intro i k hd hk hi
    obtain ⟨k, rfl⟩ : ∃ m, k = m + 1 := ⟨k - 1, by omega⟩
    obtain ⟨hlt, hd2, hx⟩ := drop_split hd
    have hxl := hm x (by rw [← hx []]; exact getD_mem hlt _)
    simp only [List.length_cons] at hk
    simp only [impl_copyDesk.l0]
    have e := take_succ_getD hlt []
    rw [hx] at e
    rw [if_pos (by omega), if_pos (by omega), if_pos (by omega), rdd_nat, hx, clone_is x hxl, Option.bind_some, if_pos (by rw [List.length_take]; omega), w64s i (by omega), ← e]
    exact ih (i + 1) k hd2 (by omega) (by omega)
theorem implCopy_is (now : List S84) (past : List (List S84)) (hn : now.length ≤ 1048576) (hp : past.length ≤ 1048576) (hm : ∀ x ∈ past, x.length ≤ 1048576) (k : Nat) (hk : past.length < k) : impl_copyDesk.f k now past = some (now, past) := by
  unfold impl_copyDesk.f
  rw [clone_is now hn, Option.bind_some]
  exact implCopy_loop past hp hm now past 0 k rfl hk (by omega)
/-- One unit more: the same but for the bound on the need. -/
theorem custFrom_set : ∀ (l : List S84) (p : Option S84) (i : Nat), custFrom p l = true → i < l.length → custFrom p (l.set i ⟨(l.getD i z84).f0, (l.getD i z84).f1 + 1⟩) = decide ((l.getD i z84).f1 + 1 ≤ 9) := by
  intro l
  induction l with
  | nil => intro p i _ h; simp at h
  | cons x xs ih =>
    intro p i h hi
    obtain ⟨hx, ht, hq⟩ := custFrom_tail h
    cases i with
    | zero =>
      show custFrom p (⟨x.f0, x.f1 + 1⟩ :: xs) = decide (x.f1 + 1 ≤ 9)
      have hr : custFrom (some (⟨x.f0, x.f1 + 1⟩ : S84)) xs = true := by
        cases xs with
        | nil => rfl
        | cons y ys =>
          obtain ⟨h1, h2, h3⟩ := custFrom_tail ht
          have := h3 x rfl
          simp only [custFrom, h2, Bool.and_true]
          exact decide_eq_true ⟨h1.1, h1.2.1, h1.2.2.1, h1.2.2.2, this⟩
      cases p with
      | none => simp only [custFrom, hr, Bool.and_true]; rw [decide_eq_decide]; constructor <;> intro h' <;> omega
      | some q =>
        have := hq q rfl
        simp only [custFrom, hr, Bool.and_true]; rw [decide_eq_decide]; constructor <;> intro h' <;> omega
    | succ i =>
      have h1 := ih (some x) i ht (by simpa using hi)
      show custFrom p (x :: xs.set i ⟨(xs.getD i z84).f0, (xs.getD i z84).f1 + 1⟩) = decide ((xs.getD i z84).f1 + 1 ≤ 9)
      rw [← h1]
      cases p with
      | none =>
        have e : decide (0 ≤ x.f0 ∧ x.f0 ≤ 60 ∧ 1 ≤ x.f1 ∧ x.f1 ≤ 9) = true := decide_eq_true hx
        simp only [custFrom, e, Bool.true_and]
      | some q =>
        have := hq q rfl
        have e : decide (0 ≤ x.f0 ∧ x.f0 ≤ 60 ∧ 1 ≤ x.f1 ∧ x.f1 ≤ 9 ∧ q.f0 ≤ x.f0) = true := decide_eq_true ⟨hx.1, hx.2.1, hx.2.2.1, hx.2.2.2, this⟩
        simp only [custFrom, e, Bool.true_and]
theorem custOk_set (l : List S84) (h : custOk l = true) (i : Nat) (hi : i < l.length) : custOk (l.set i ⟨(l.getD i z84).f0, (l.getD i z84).f1 + 1⟩) = decide ((l.getD i z84).f1 + 1 ≤ 9) := by
  have h8 := custOk_len h
  unfold custOk
  rw [custFrom_set l none i (custOk_from h) hi, List.length_set, decide_eq_true h8, Bool.and_true]
theorem implNeed_is (l : List S84) (hl : l.length ≤ 1048576) (a : Int) (k : Nat) (hk : 2 * l.length + 20 ≤ k) : impl_NeedingMore.f k l a = some (needP l a) := by
  unfold impl_NeedingMore.f needP
  rw [impl_CustomersOk_is l hl k (by omega), Option.bind_some]
  by_cases hok : custOk l = true
  · rw [if_pos hok]
    by_cases h0 : a < 0
    · rw [if_pos h0, if_neg (fun h => by omega)]
    · rw [if_neg h0]
      by_cases h1 : a ≥ (l.length : Int)
      · rw [if_pos h1, if_neg (fun h => by omega)]
      · rw [if_neg h1, if_pos (by omega), if_pos (by omega)]
        obtain ⟨i, rfl⟩ := Int.eq_ofNat_of_zero_le (show 0 ≤ a by omega)
        have hi : i < l.length := by omega
        have hc := custOk_mem hok _ (getD_mem hi z84)
        rw [rd_Customer_nat, Int.toNat_natCast, custOk_set l hok i hi]
        by_cases h9 : (l.getD i z84).f1 = 9
        · rw [if_pos h9, if_neg (fun h => by have := of_decide_eq_true h.2.2.2; omega)]
        · rw [if_neg h9, clone_is l hl, Option.bind_some, if_pos (by omega), rd_Customer_nat, show wrap64 ((l.getD i z84).f1 + 1) = (l.getD i z84).f1 + 1 from w64 (by omega) (by omega), if_pos ⟨hok, by omega, by omega, decide_eq_true (by omega)⟩]
  · rw [if_neg hok, if_neg (fun h => hok h.1)]
theorem implLater_loop (l : List S84) (hl : l.length ≤ 1048576) (a : Int) : ∀ (q i k : Nat), i + q = l.length → q + 2 * l.length + 20 < k →
    impl_LaterBy.l0 k a ((laterL l a).take i ++ l.drop i) l.length i = some (if custOk (laterL l a) = true then (laterL l a, true) else ([], false)) := by
  have hll : (laterL l a).length = l.length := by unfold laterL; rw [List.length_map]
  intro q
  induction q with
  | zero =>
    intro i k hi hk
    obtain ⟨k, rfl⟩ : ∃ m, k = m + 1 := ⟨k - 1, by omega⟩
    simp only [impl_LaterBy.l0]
    rw [if_neg (by omega), List.take_of_length_le (by omega), List.drop_eq_nil_of_le (by omega), List.append_nil, impl_CustomersOk_is _ (by omega) k (by omega), Option.bind_some]
    split <;> rfl
  | succ q ih =>
    intro i k hi hk
    obtain ⟨k, rfl⟩ : ∃ m, k = m + 1 := ⟨k - 1, by omega⟩
    have hlen : ((laterL l a).take i ++ l.drop i).length = l.length := by rw [List.length_append, List.length_take, List.length_drop]; omega
    have hlt : i < l.length := by omega
    have hget : ((laterL l a).take i ++ l.drop i).getD i z84 = l.getD i z84 := by
      rw [getD_lt (by omega), getD_lt hlt, List.getElem_append_right (by rw [List.length_take]; omega)]
      simp [List.length_take, hll, Nat.min_eq_left (Nat.le_of_lt hlt)]
    have hset : ((laterL l a).take i ++ l.drop i).set i ⟨wrap64 ((l.getD i z84).f0 + a), (l.getD i z84).f1⟩ = (laterL l a).take (i + 1) ++ l.drop (i + 1) := by
      have e : (laterL l a).getD i z84 = ⟨wrap64 ((l.getD i z84).f0 + a), (l.getD i z84).f1⟩ := by
        rw [getD_lt (by omega), getD_lt hlt]
        unfold laterL
        rw [List.getElem_map]
      rw [take_succ_getD (by omega) z84, e, List.set_append_right _ _ (by rw [List.length_take]; omega), List.length_take, hll, Nat.min_eq_left (Nat.le_of_lt hlt), Nat.sub_self, List.drop_eq_getElem_cons hlt, List.set_cons_zero, List.append_assoc, List.singleton_append]
    simp only [impl_LaterBy.l0]
    rw [if_pos (by omega), if_pos (by omega), if_pos (by omega), rd_Customer_nat, hget, Int.toNat_natCast, hset, w64s i (by omega)]
    exact ih (i + 1) k (by omega) (by omega)
theorem implLater_is (l : List S84) (hl : l.length ≤ 1048576) (a : Int) (k : Nat) (hk : 4 * l.length + 40 ≤ k) : impl_LaterBy.f k l a = some (laterP l a) := by
  have hj : ∀ b : Bool, impl_LaterBy.j0 k l a b = some (if b = true then ([], false) else if custOk (laterL l a) = true then (laterL l a, true) else ([], false)) := by
    intro b
    obtain ⟨k, rfl⟩ : ∃ m, k = m + 1 := ⟨k - 1, by omega⟩
    simp only [impl_LaterBy.j0]
    cases b with
    | true => rfl
    | false =>
      rw [if_neg (by simp), clone_is l hl, Option.bind_some]
      have := implLater_loop l hl a l.length 0 k (by omega) (by omega)
      rw [List.take_zero, List.nil_append, List.drop_zero] at this
      rw [if_neg (by simp)]
      exact this
  unfold impl_LaterBy.f laterP
  rw [impl_CustomersOk_is l hl k (by omega), Option.bind_some]
  by_cases hok : custOk l = true
  · rw [if_pos hok]
    by_cases h0 : a < 0
    · rw [if_pos h0, hj, if_pos rfl, if_neg (fun h => by omega)]
    · rw [if_neg h0, hj]
      by_cases h1 : a > 60
      · rw [if_pos (decide_eq_true h1), if_neg (fun h => by omega)]
      · rw [if_neg (by simp; omega)]
        by_cases h2 : custOk (laterL l a) = true
        · rw [if_pos h2, if_pos ⟨hok, h2, by omega, by omega⟩]
        · rw [if_neg h2, if_neg (fun h => h2 h.2.1)]
  · rw [if_neg hok, hj, if_pos rfl, if_neg (fun h => hok h.1)]

/-! deskdo_impl2 -/
theorem implNext_is (k : Nat) (l : List S84) (hok : custOk l = true) (ak aa ab : Int) (hk : 1000 ≤ k) (hbad : ¬ ((ak ≠ 0 ∧ ab ≠ 0) ∨ ((ak = 1 ∨ ak = 4) ∧ aa ≠ 0))) (h4 : ak ≠ 4) : ∃ x o, impl_DeskDo.next k l ak aa ab = some (x, o) ∧ (madeP l ak aa ab).2 = o ∧ (o = true → (madeP l ak aa ab).1 = x) := by
  have h8 := custOk_len hok
  unfold impl_DeskDo.next madeP
  by_cases k0 : ak = 0
  · rw [if_pos k0, if_pos k0, clone_is l (by omega), Option.bind_some, if_pos (by omega), impl_CustomersOk_is _ (by rw [List.length_append]; simp; omega) k (by rw [List.length_append]; simp; omega), Option.bind_some]
    exact ⟨_, _, rfl, rfl, fun _ => rfl⟩
  · rw [if_neg k0, if_neg k0]
    by_cases k1 : ak = 1
    · rw [if_pos k1, if_pos k1]
      by_cases hl : 0 < l.length
      · rw [if_pos hl, clone_is _ (by rw [List.length_take]; omega), Option.bind_some, if_pos (by omega)]
        exact ⟨_, _, rfl, rfl, fun _ => rfl⟩
      · rw [if_neg hl, if_neg (by omega)]
        exact ⟨_, _, rfl, rfl, fun h => by simp at h⟩
    · rw [if_neg k1, if_neg k1]
      by_cases k2 : ak = 2
      · rw [if_pos k2, if_pos k2, if_pos (by omega), implNeed_is l (by omega) aa k (by omega)]
        exact ⟨_, _, rfl, rfl, fun _ => rfl⟩
      · rw [if_neg k2, if_neg k2]
        by_cases k3 : ak = 3
        · rw [if_pos k3]
          by_cases h : 0 < l.length ∧ 0 < aa
          · rw [if_pos h, if_pos (by omega), implLater_is l (by omega) aa k (by omega)]
            exact ⟨_, _, rfl, rfl, fun _ => rfl⟩
          · rw [if_neg h, if_neg (by omega)]
            exact ⟨_, _, rfl, rfl, fun h => by simp at h⟩
        · rw [if_neg k3, if_neg (by omega)]
          exact ⟨_, _, rfl, rfl, fun h => by simp at h⟩
theorem madeP_bad (l : List S84) (ak aa ab : Int) (hbad : (ak ≠ 0 ∧ ab ≠ 0) ∨ ((ak = 1 ∨ ak = 4) ∧ aa ≠ 0)) : (madeP l ak aa ab).2 = false := by
  unfold madeP
  by_cases k0 : ak = 0
  · omega
  · rw [if_neg k0]
    by_cases k1 : ak = 1
    · rw [if_pos k1, if_neg (by omega)]
    · rw [if_neg k1]
      by_cases k2 : ak = 2
      · rw [if_pos k2, if_neg (by omega)]
      · rw [if_neg k2, if_neg (by omega)]
theorem madeP_4 (l : List S84) (aa ab : Int) : (madeP l 4 aa ab).2 = false := by
  unfold madeP
  rw [if_neg (by omega), if_neg (by omega), if_neg (by omega), if_neg (by omega)]
theorem implDo_is (now : List S84) (past : List (List S84)) (hn : now.length ≤ 1000000) (hp : past.length < 8) (hm : ∀ x ∈ past, x.length ≤ 1048576) (ak aa ab : Int) (k : Nat) (hk : 6000000 ≤ k) : impl_DeskDo.f k now past ak aa ab = some (deskDoP now past ak aa ab) := by
  unfold impl_DeskDo.f deskDoP
  rw [impl_DeskOk_is now past (by omega) (by omega) hm k (by omega), Option.bind_some]
  by_cases hok : deskOk now past = true
  · obtain ⟨hc, hcs, -⟩ := deskOk_parts hok
    have h8 := custOk_len hc
    rw [hok, if_neg (by simp), if_pos rfl, implCopy_is now past (by omega) (by omega) hm k (by omega), Option.bind_some]
    dsimp only
    by_cases hbad : (ak ≠ 0 ∧ ab ≠ 0) ∨ ((ak = 1 ∨ ak = 4) ∧ aa ≠ 0)
    · rw [if_pos hbad, if_neg (by omega), if_neg (by rw [madeP_bad now ak aa ab hbad]; simp)]
    · rw [if_neg hbad]
      by_cases k4 : ak = 4
      · subst k4
        rw [if_pos rfl]
        by_cases h0 : past.length = 0
        · rw [if_pos h0, if_neg (by omega), if_neg (by rw [madeP_4]; simp)]
        · rw [if_neg h0, if_pos (by omega)]
      · rw [if_neg k4, if_neg (by omega)]
        obtain ⟨x, o, e, e2, e3⟩ := implNext_is k now hc ak aa ab (by omega) hbad k4
        rw [e, Option.bind_some, e2]
        unfold impl_DeskDo.after
        cases o with
        | false => rw [if_pos rfl, if_neg (by simp)]
        | true =>
          have hx : x.length ≤ 9 := by rw [← e3 rfl]; exact madeP_ok hc (by rw [e2])
          have hpm : ∀ z ∈ past ++ [now], z.length ≤ 1048576 := fun z hz => by
            rcases List.mem_append.1 hz with hz | hz
            · exact hm z hz
            · rw [List.mem_singleton.1 hz]; omega
          rw [if_neg (by simp), if_pos (by omega), if_neg (by omega), implCopy_is x (past ++ [now]) (by omega) (by rw [List.length_append]; simp; omega) hpm k (by rw [List.length_append]; simp; omega), Option.bind_some, if_pos rfl, e3 rfl]
  · rw [Bool.eq_false_iff.mpr hok, if_pos rfl, if_neg (by simp)]

/-! made_facts2 -/
def needS : List S84 → Int
  | [] => 0
  | c :: cs => c.f1 + needS cs
theorem needS_append (a b : List S84) : needS (a ++ b) = needS a + needS b := by
  induction a with
  | nil => simp [needS]
  | cons x xs ih => simp only [List.cons_append, needS, ih]; omega
theorem needS_bound (l : List S84) (h : ∀ c ∈ l, 0 ≤ c.f0 ∧ c.f0 ≤ 60 ∧ 1 ≤ c.f1 ∧ c.f1 ≤ 9) : 0 ≤ needS l ∧ needS l ≤ 9 * l.length := by
  induction l with
  | nil => simp [needS]
  | cons x xs ih =>
    have h1 := h x (by simp)
    have h2 := ih (fun c hc => h c (by simp [hc]))
    simp only [needS, List.length_cons]
    omega
theorem needS_set : ∀ (l : List S84) (i : Nat), i < l.length → needS (l.set i ⟨(l.getD i z84).f0, (l.getD i z84).f1 + 1⟩) = needS l + 1 := by
  intro l
  induction l with
  | nil => intro i h; simp at h
  | cons x xs ih =>
    intro i h
    cases i with
    | zero => show x.f1 + 1 + needS xs = x.f1 + needS xs + 1; omega
    | succ i =>
      have := ih i (by simpa using h)
      show x.f1 + needS (xs.set i ⟨(xs.getD i z84).f0, (xs.getD i z84).f1 + 1⟩) = x.f1 + needS xs + 1
      omega
theorem needS_later (l : List S84) (a : Int) : needS (laterL l a) = needS l := by
  unfold laterL
  induction l with
  | nil => rfl
  | cons x xs ih => simp only [List.map_cons, needS, ih]
theorem custFrom_take : ∀ (l : List S84) (p : Option S84) (n : Nat), custFrom p l = true → custFrom p (l.take n) = true := by
  intro l
  induction l with
  | nil => intro p n _; simp [custFrom]
  | cons x xs ih =>
    intro p n h
    cases n with
    | zero => simp [custFrom]
    | succ n =>
      obtain ⟨hx, ht, hq⟩ := custFrom_tail h
      have h1 := ih (some x) n ht
      rw [List.take_succ_cons]
      cases p with
      | none => simp only [custFrom, h1, Bool.and_true]; exact decide_eq_true hx
      | some q =>
        have := hq q rfl
        simp only [custFrom, h1, Bool.and_true]
        exact decide_eq_true ⟨hx.1, hx.2.1, hx.2.2.1, hx.2.2.2, this⟩
theorem custOk_take (l : List S84) (h : custOk l = true) (n : Nat) : custOk (l.take n) = true := by
  have h8 := custOk_len h
  unfold custOk
  rw [custFrom_take l none n (custOk_from h), Bool.true_and]
  exact decide_eq_true (by rw [List.length_take]; omega)
theorem made_facts (l : List S84) (hl : custOk l = true) (ak aa ab : Int) (h : (madeP l ak aa ab).2 = true) : custOk (madeP l ak aa ab).1 = true ∧ ((ak ≠ 2 ∧ ak ≠ 0) ∨ needS (madeP l ak aa ab).1 > needS l) ∧ (ak ≠ 3 ∨ needS (madeP l ak aa ab).1 = needS l) := by
  unfold madeP at *
  by_cases k0 : ak = 0
  · rw [if_pos k0] at h ⊢
    have h' : custOk (l ++ [⟨aa, ab⟩]) = true := h
    have hm := custOk_mem h' ⟨aa, ab⟩ (by simp)
    refine ⟨h', .inr ?_, .inl (by omega)⟩
    show needS (l ++ [⟨aa, ab⟩]) > needS l
    rw [needS_append]
    have h1 : 1 ≤ ab := hm.2.2.1
    simp only [needS]; omega
  · rw [if_neg k0] at h ⊢
    by_cases k1 : ak = 1
    · rw [if_pos k1] at h ⊢
      by_cases hc : aa = 0 ∧ ab = 0 ∧ 0 < l.length
      · rw [if_pos hc]
        exact ⟨custOk_take l hl _, .inl (by omega), .inl (by omega)⟩
      · rw [if_neg hc] at h; simp at h
    · rw [if_neg k1] at h ⊢
      by_cases k2 : ak = 2
      · rw [if_pos k2] at h ⊢
        by_cases hb : ab = 0
        · rw [if_pos hb] at h ⊢
          unfold needP at *
          split at h
          · rename_i hc
            rw [if_pos hc]
            obtain ⟨i, rfl⟩ := Int.eq_ofNat_of_zero_le hc.2.1
            refine ⟨hc.2.2.2, .inr ?_, .inl (by omega)⟩
            show needS (l.set (i : Int).toNat _) > needS l
            rw [Int.toNat_natCast, needS_set l i (by omega)]
            omega
          · simp at h
        · rw [if_neg hb] at h; simp at h
      · rw [if_neg k2] at h ⊢
        by_cases k3 : ak = 3 ∧ ab = 0 ∧ aa > 0 ∧ 0 < l.length
        · rw [if_pos k3] at h ⊢
          unfold laterP at *
          split at h
          · rename_i hc
            rw [if_pos hc]
            exact ⟨hc.2.1, .inl ⟨k2, k0⟩, .inr (needS_later l aa)⟩
          · simp at h
        · rw [if_neg k3] at h; simp at h

/-! deskdo_gen -/
/-- A desk after a deed, for any desk: of more than eight lists of before the first one is gone. -/
def deskDoG (now : List S84) (past : List (List S84)) (kd a b : Int) : List S84 × List (List S84) × Bool :=
  if deskOk now past = true then
    (if (kd = 4 ∧ a = 0 ∧ b = 0) ∧ 0 < past.length then (past.getD (past.length - 1) [], past.take (past.length - 1), true)
    else if (madeP now kd a b).2 = true then ((madeP now kd a b).1, (if past.length + 1 > 8 then (past ++ [now]).drop 1 else past ++ [now]), true) else (now, past, false))
  else ([], [], false)
theorem implDoG_is (now : List S84) (past : List (List S84)) (hn : now.length ≤ 1000000) (hp : past.length ≤ 900000) (hm : ∀ x ∈ past, x.length ≤ 1048576) (ak aa ab : Int) (k : Nat) (hk : 6000000 ≤ k) : impl_DeskDo.f k now past ak aa ab = some (deskDoG now past ak aa ab) := by
  unfold impl_DeskDo.f deskDoG
  rw [impl_DeskOk_is now past (by omega) (by omega) hm k (by omega), Option.bind_some]
  by_cases hok : deskOk now past = true
  · obtain ⟨hc, hcs, h8p⟩ := deskOk_parts hok
    have h8 := custOk_len hc
    rw [hok, if_neg (by simp), if_pos rfl, implCopy_is now past (by omega) (by omega) hm k (by omega), Option.bind_some]
    dsimp only
    by_cases hbad : (ak ≠ 0 ∧ ab ≠ 0) ∨ ((ak = 1 ∨ ak = 4) ∧ aa ≠ 0)
    · rw [if_pos hbad, if_neg (by omega), if_neg (by rw [madeP_bad now ak aa ab hbad]; simp)]
    · rw [if_neg hbad]
      by_cases k4 : ak = 4
      · subst k4
        rw [if_pos rfl]
        by_cases h0 : past.length = 0
        · rw [if_pos h0, if_neg (by omega), if_neg (by rw [madeP_4]; simp)]
        · rw [if_neg h0, if_pos (by omega)]
      · rw [if_neg k4, if_neg (by omega)]
        obtain ⟨x, o, e, e2, e3⟩ := implNext_is k now hc ak aa ab (by omega) hbad k4
        rw [e, Option.bind_some, e2]
        unfold impl_DeskDo.after
        cases o with
        | false => rw [if_pos rfl, if_neg (by simp)]
        | true =>
          have hx : x.length ≤ 9 := by rw [← e3 rfl]; exact madeP_ok hc (by rw [e2])
          have hpm : ∀ z ∈ past ++ [now], z.length ≤ 1048576 := fun z hz => by
            rcases List.mem_append.1 hz with hz | hz
            · exact hm z hz
            · rw [List.mem_singleton.1 hz]; omega
          have hpl : (past ++ [now]).length = past.length + 1 := by rw [List.length_append]; simp
          have hq : ∀ q : List (List S84), q = (if past.length + 1 > 8 then (past ++ [now]).drop 1 else past ++ [now]) → q.length ≤ past.length + 1 ∧ ∀ z ∈ q, z.length ≤ 1048576 := by
            intro q hq
            rw [hq]
            split
            · exact ⟨by rw [List.length_drop]; omega, fun z hz => hpm z (List.mem_of_mem_drop hz)⟩
            · exact ⟨by omega, hpm⟩
          generalize hqq : (if past.length + 1 > 8 then (past ++ [now]).drop 1 else past ++ [now]) = q at *
          have h9 := hq q rfl
          rw [if_neg (by simp), if_pos (by omega), implCopy_is x q (by omega) (by omega) h9.2 k (by omega), Option.bind_some, if_pos rfl, e3 rfl]
  · rw [Bool.eq_false_iff.mpr hok, if_pos rfl, if_neg (by simp)]

/-! deskrun -/
/-- A deed leaves a desk. -/
theorem deskDoG_ok (now : List S84) (past : List (List S84)) (kd a b : Int) (h : deskOk now past = true) : deskOk (deskDoG now past kd a b).1 (deskDoG now past kd a b).2.1 = true := by
  obtain ⟨hc, hcs, h8⟩ := deskOk_parts h
  unfold deskDoG
  rw [if_pos h]
  by_cases hb : (kd = 4 ∧ a = 0 ∧ b = 0) ∧ 0 < past.length
  · rw [if_pos hb]
    exact deskOk_of (hcs _ (getD_mem (by omega) _)) (fun x hx => hcs x (List.mem_of_mem_take hx)) (by rw [List.length_take]; omega)
  · rw [if_neg hb]
    by_cases hm : (madeP now kd a b).2 = true
    · rw [if_pos hm]
      have hx := (made_facts now hc kd a b hm).1
      have hpl : (past ++ [now]).length = past.length + 1 := by rw [List.length_append]; simp
      have hall : ∀ x ∈ past ++ [now], custOk x = true := fun x hx => by
        rcases List.mem_append.1 hx with hx | hx
        · exact hcs x hx
        · rw [List.mem_singleton.1 hx]; exact hc
      show deskOk (madeP now kd a b).1 (if past.length + 1 > 8 then (past ++ [now]).drop 1 else past ++ [now]) = true
      split
      · exact deskOk_of hx (fun x hx => hall x (List.mem_of_mem_drop hx)) (by rw [List.length_drop]; omega)
      · exact deskOk_of hx hall (by omega)
    · rw [if_neg hm]; exact h
/-- A desk after deeds, and how many were done. -/
def runG : List (Int × Int × Int) → List S84 → List (List S84) → Int → List S84 × List (List S84) × Int
  | [], now, past, n => (now, past, n)
  | d :: ds, now, past, n => if (deskDoG now past d.1 d.2.1 d.2.2).2.2 = true then runG ds (deskDoG now past d.1 d.2.1 d.2.2).1 (deskDoG now past d.1 d.2.1 d.2.2).2.1 (n + 1) else runG ds now past n
theorem runG_append : ∀ (x y : List (Int × Int × Int)) (now : List S84) (past : List (List S84)) (n : Int), runG (x ++ y) now past n = runG y (runG x now past n).1 (runG x now past n).2.1 (runG x now past n).2.2 := by
  intro x
  induction x with
  | nil => intro y now past n; rfl
  | cons d ds ih =>
    intro y now past n
    show runG (d :: (ds ++ y)) now past n = _
    simp only [runG]
    split
    · exact ih y _ _ _
    · exact ih y _ _ _
theorem runG_shift : ∀ (x : List (Int × Int × Int)) (now : List S84) (past : List (List S84)) (n : Int), (runG x now past n).1 = (runG x now past 0).1 ∧ (runG x now past n).2.1 = (runG x now past 0).2.1 ∧ (runG x now past n).2.2 = n + (runG x now past 0).2.2 := by
  intro x
  induction x with
  | nil => intro now past n; exact ⟨rfl, rfl, by simp [runG]⟩
  | cons d ds ih =>
    intro now past n
    simp only [runG]
    split
    · obtain ⟨a1, a2, a3⟩ := ih (deskDoG now past d.1 d.2.1 d.2.2).1 (deskDoG now past d.1 d.2.1 d.2.2).2.1 (n + 1)
      obtain ⟨b1, b2, b3⟩ := ih (deskDoG now past d.1 d.2.1 d.2.2).1 (deskDoG now past d.1 d.2.1 d.2.2).2.1 (0 + 1)
      exact ⟨a1.trans b1.symm, a2.trans b2.symm, by rw [a3, b3]; omega⟩
    · exact ih now past n
theorem runG_ok : ∀ (x : List (Int × Int × Int)) (now : List S84) (past : List (List S84)) (n : Int), deskOk now past = true → deskOk (runG x now past n).1 (runG x now past n).2.1 = true := by
  intro x
  induction x with
  | nil => intro now past n h; exact h
  | cons d ds ih =>
    intro now past n h
    simp only [runG]
    split
    · exact ih _ _ _ (deskDoG_ok now past d.1 d.2.1 d.2.2 h)
    · exact ih _ _ _ h

/-! specdo_h -/
theorem specDoG_is (now : List S84) (past : List (List S84)) (hn : now.length ≤ 1000000) (hp : past.length ≤ 900000) (hm : ∀ x ∈ past, x.length ≤ 1048576) (ak aa ab : Int) (k : Nat) (hk : 6000000 ≤ k) : spec_DeskDo.f k now past ak aa ab = some (deskDoG now past ak aa ab) := by
  unfold spec_DeskDo.f deskDoG
  rw [spec_DeskOk_is now past (by omega) (by omega) hm k (by omega), Option.bind_some]
  by_cases hok : deskOk now past = true
  · obtain ⟨hc, hcs, h8p⟩ := deskOk_parts hok
    have h8 := custOk_len hc
    rw [hok, if_neg (by simp), if_pos rfl, l12Copy_is now past (by omega) (by omega) hm k (by omega), Option.bind_some]
    dsimp only
    rw [if_pos rfl]
    by_cases hb : (ak = 4 ∧ aa = 0 ∧ ab = 0) ∧ 0 < past.length
    · rw [if_pos hb, if_pos hb]
    · rw [if_neg hb, if_neg hb, l12Made_is now hn ak aa ab k (by omega), Option.bind_some]
      unfold spec_DeskDo.after
      by_cases hm2 : (madeP now ak aa ab).2 = true
      · rw [hm2, if_neg (by simp), if_pos (by omega), if_pos rfl]
      · rw [Bool.eq_false_iff.mpr hm2, if_pos rfl, if_neg (by simp)]
  · rw [Bool.eq_false_iff.mpr hok, if_pos rfl, if_neg (by simp)]
theorem deskOk_small {now : List S84} {past : List (List S84)} (h : deskOk now past = true) : now.length ≤ 8 ∧ past.length ≤ 8 ∧ ∀ x ∈ past, x.length ≤ 8 := by
  obtain ⟨hc, hcs, h8⟩ := deskOk_parts h
  exact ⟨custOk_len hc, h8, fun x hx => custOk_len (hcs x hx)⟩
theorem specDo_all (now : List S84) (past : List (List S84)) (hn : now.length ≤ 1048576) (hp : past.length ≤ 1048576) (hm : ∀ x ∈ past, x.length ≤ 1048576) (ak aa ab : Int) (k : Nat) (hk : 6000000 ≤ k) : spec_DeskDo.f k now past ak aa ab = some (deskDoG now past ak aa ab) := by
  by_cases hok : deskOk now past = true
  · obtain ⟨h1, h2, h3⟩ := deskOk_small hok
    exact specDoG_is now past (by omega) (by omega) hm ak aa ab k hk
  · unfold spec_DeskDo.f deskDoG
    rw [spec_DeskOk_is now past (by omega) (by omega) hm k (by omega), Option.bind_some, Bool.eq_false_iff.mpr hok, if_pos rfl, if_neg (by simp)]
theorem implDo_all (now : List S84) (past : List (List S84)) (hn : now.length ≤ 1048576) (hp : past.length ≤ 1048576) (hm : ∀ x ∈ past, x.length ≤ 1048576) (ak aa ab : Int) (k : Nat) (hk : 6000000 ≤ k) : impl_DeskDo.f k now past ak aa ab = some (deskDoG now past ak aa ab) := by
  by_cases hok : deskOk now past = true
  · obtain ⟨h1, h2, h3⟩ := deskOk_small hok
    exact implDoG_is now past (by omega) (by omega) hm ak aa ab k hk
  · unfold impl_DeskDo.f deskDoG
    rw [impl_DeskOk_is now past (by omega) (by omega) hm k (by omega), Option.bind_some, Bool.eq_false_iff.mpr hok, if_pos rfl, if_neg (by simp)]
theorem deskDoG_small (now : List S84) (past : List (List S84)) (ak aa ab : Int) : (deskDoG now past ak aa ab).1.length ≤ 8 ∧ (deskDoG now past ak aa ab).2.1.length ≤ 8 ∧ ∀ x ∈ (deskDoG now past ak aa ab).2.1, x.length ≤ 8 := by
  by_cases hok : deskOk now past = true
  · exact deskOk_small (deskDoG_ok now past ak aa ab hok)
  · unfold deskDoG
    rw [if_neg hok]
    exact ⟨by simp, by simp, fun x hx => by cases hx⟩

/-! drawdesk_h -/
/-- By hand: fewer than eight lists of before. -/
theorem spec_DeskDo_is (now : List S84) (past : List (List S84)) (hn : now.length ≤ 1000000) (hp : past.length < 8) (hm : ∀ x ∈ past, x.length ≤ 1048576) (kd a b : Int) (k : Nat) (hk : 6000000 ≤ k) : spec_DeskDo.f k now past kd a b = some (deskDoP now past kd a b) := by
  rw [specDoG_is now past hn (by omega) hm kd a b k hk]
  unfold deskDoG deskDoP
  rw [if_neg (show ¬ past.length + 1 > 8 by omega)]
theorem deskDoP_size (now : List S84) (past : List (List S84)) (kd a b : Int) (hn : now.length ≤ 200) (hm : ∀ x ∈ past, x.length ≤ 200) : (deskDoP now past kd a b).1.length ≤ 200 ∧ (∀ x ∈ (deskDoP now past kd a b).2.1, x.length ≤ 200) ∧ (deskDoP now past kd a b).2.1.length ≤ past.length + 1 := by
  unfold deskDoP
  by_cases h : deskOk now past = true
  · rw [if_pos h]
    by_cases h4 : (kd = 4 ∧ a = 0 ∧ b = 0) ∧ 0 < past.length
    · rw [if_pos h4]
      exact ⟨hm _ (getD_mem (by omega) _), fun x hx => hm x (List.mem_of_mem_take hx), by rw [List.length_take]; omega⟩
    · rw [if_neg h4]
      by_cases hd : (madeP now kd a b).2 = true
      · rw [if_pos hd]
        have := madeP_ok (deskOk_parts h).1 hd
        refine ⟨by dsimp only; omega, fun x hx => ?_, by dsimp only; rw [List.length_append]; simp⟩
        rcases List.mem_append.1 hx with hx | hx
        · exact hm x hx
        · rw [List.mem_singleton.1 hx]; exact hn
      · rw [if_neg hd]; exact ⟨hn, hm, by dsimp only; omega⟩
  · rw [if_neg h]; exact ⟨by simp, by simp, by simp⟩
theorem l20Desk_loop {s : List Int} (hs : ∀ x ∈ s, 0 ≤ x ∧ x ≤ 255) (hl : s.length ≤ 2000) (n : Int) (hn : n ≤ 1000) : ∀ (d k : Nat) (p : Int) (now : List S84) (past : List (List S84)), d + 6000200 ≤ k → 0 ≤ p → p + 10 * d ≤ 600000 → now.length ≤ 200 → (∀ x ∈ past, x.length ≤ 200) → past.length + d ≤ 7 →
    ∃ now' past' q, spec_l20Desk.l0 k n (d : Int) s p now past = some (now', past', q) ∧ now'.length ≤ 200 ∧ (∀ x ∈ past', x.length ≤ 200) ∧ past'.length ≤ past.length + d + 1 ∧ p ≤ q ∧ q ≤ p + 10 * d + 2 := by
  intro d
  induction d with
  | zero =>
    intro k p now past hk hp hp2 h1 h2 h3
    obtain ⟨k, rfl⟩ : ∃ m, k = m + 1 := ⟨k - 1, by omega⟩
    simp only [spec_l20Desk.l0]
    obtain ⟨o, q, e, g1, g2, -⟩ := odd_ok (k := k) (by omega) hs hl p hp (by omega) n hn
    rw [if_neg (by omega), e, Option.bind_some]; dsimp only
    by_cases ho : o = true
    · rw [if_pos ho]
      obtain ⟨v, e2, -⟩ := pick_ok (k := k) (by omega) hs hl q (by omega) (by omega) 2
      rw [e2, Option.bind_some]; dsimp only
      by_cases hv : v = 0
      · rw [if_pos hv]; exact ⟨_, _, _, rfl, by simp, h2, by omega, by omega, by omega⟩
      · rw [if_neg hv, if_pos (by omega)]
        refine ⟨_, _, _, rfl, h1, fun x hx => ?_, by rw [List.length_append]; simp, by omega, by omega⟩
        rcases List.mem_append.1 hx with hx | hx
        · exact h2 x hx
        · rw [List.mem_singleton.1 hx]; simp
    · rw [if_neg ho]; exact ⟨_, _, _, rfl, h1, h2, by omega, by omega, by omega⟩
  | succ d ih =>
    intro k p now past hk hp hp2 h1 h2 h3
    obtain ⟨k, rfl⟩ : ∃ m, k = m + 1 := ⟨k - 1, by omega⟩
    simp only [spec_l20Desk.l0]
    obtain ⟨kd, a, b, q, e, g1, g2⟩ := l20Deed_ok hs hl k (by omega) p hp (by omega) now (by omega)
    have hz := deskDoP_size now past kd a b h1 h2
    rw [if_pos (by omega), if_pos (by omega), e, Option.bind_some]; dsimp only
    rw [spec_DeskDo_is now past (by omega) (by omega) (fun x hx => by have := h2 x hx; omega) kd a b k (by omega), Option.bind_some, show wrap64 (((d + 1 : Nat) : Int) - 1) = (d : Int) from by rw [w64 (by omega) (by omega)]; omega]
    by_cases hd : (deskDoP now past kd a b).2.2 = true
    · rw [if_pos hd]
      obtain ⟨n', p', q', e2, f1, f2, f3, f4, f5⟩ := ih k q _ _ (by omega) (by omega) (by omega) hz.1 hz.2.1 (by omega)
      exact ⟨n', p', q', e2, f1, f2, by omega, by omega, by omega⟩
    · rw [if_neg hd]
      obtain ⟨n', p', q', e2, f1, f2, f3, f4, f5⟩ := ih k q now past (by omega) (by omega) (by omega) h1 h2 (by omega)
      exact ⟨n', p', q', e2, f1, f2, by omega, by omega, by omega⟩
theorem l20Desk_ok {s : List Int} (hs : ∀ x ∈ s, 0 ≤ x ∧ x ≤ 255) (hl : s.length ≤ 2000) (n : Int) (hn : n ≤ 1000) (k : Nat) (hk : 6001000 ≤ k) :
    ∃ now past q, spec_l20Desk.f k s 0 n = some (now, past, q) ∧ now.length ≤ 200 ∧ (∀ x ∈ past, x.length ≤ 200) ∧ past.length ≤ 6 ∧ 0 ≤ q ∧ q ≤ 1000 := by
  unfold spec_l20Desk.f
  obtain ⟨r, q, e, h1, h2, h3⟩ := l20Customers_ok hs hl 0 (by omega) k (by omega) 0 (by omega) (by omega)
  rw [e, Option.bind_some]; dsimp only
  have hd : (deskNewP r).length ≤ 200 := by
    unfold deskNewP
    split
    · omega
    · simp
  rw [spec_DeskNew_is r (by omega) k (by omega), Option.bind_some]
  obtain ⟨v, e2, g1, g2, -⟩ := pick_ok (k := k) (by omega) hs hl q (by omega) (by omega) 6
  have g2' := g2 (by omega)
  obtain ⟨d, rfl⟩ := Int.eq_ofNat_of_zero_le g1
  rw [e2, Option.bind_some]; dsimp only
  obtain ⟨n', p', q', e3, f1, f2, f3, f4, f5⟩ := l20Desk_loop hs hl n hn d k (q + 1) (deskNewP r) [] (by omega) (by omega) (by omega) hd (by simp) (by simp; omega)
  simp only [List.length_nil] at f3
  exact ⟨n', p', q', e3, f1, f2, by omega, by omega, by omega⟩

/-! deskrun_hi -/
def tri (d : S39) : Int × Int × Int := (d.f0, d.f1, d.f2)
theorem implGo_is (k : Nat) (hk : 6000000 ≤ k) : ∀ (ds : List S39) (now : List S84) (past : List (List S84)) (n : Int), deskOk now past = true → impl_DeskRun.go k ds now past n = some (runG (ds.map tri) now past n) := by
  intro ds
  induction ds with
  | nil => intro now past n _; rfl
  | cons d ds ih =>
    intro now past n h
    obtain ⟨h1, h2, h3⟩ := deskOk_small h
    simp only [impl_DeskRun.go, List.map_cons, runG, tri]
    rw [implDo_all now past (by omega) (by omega) (fun x hx => by have := h3 x hx; omega) d.f0 d.f1 d.f2 k hk, Option.bind_some]
    by_cases hb : (deskDoG now past d.f0 d.f1 d.f2).2.2 = true
    · rw [if_pos hb, if_pos hb]
      exact ih _ _ _ (deskDoG_ok now past d.f0 d.f1 d.f2 h)
    · rw [if_neg hb, if_neg hb]
      exact ih _ _ _ h
def deskRunP (now : List S84) (past : List (List S84)) (ds : List S39) : List S84 × List (List S84) × Int :=
  if deskOk now past = true ∧ ds.length ≤ 40 then runG (ds.map tri) now past 0 else ([], [], 0)
theorem implRun_is (now : List S84) (past : List (List S84)) (hn : now.length ≤ 1048576) (hp : past.length ≤ 1048576) (hm : ∀ x ∈ past, x.length ≤ 1048576) (ds : List S39) (k : Nat) (hk : 6000000 ≤ k) : impl_DeskRun.f k now past ds = some (deskRunP now past ds) := by
  unfold impl_DeskRun.f deskRunP
  rw [impl_DeskOk_is now past (by omega) (by omega) hm k (by omega), Option.bind_some]
  by_cases hok : deskOk now past = true
  · rw [hok, if_neg (by simp)]
    by_cases h4 : 40 < ds.length
    · rw [if_pos h4, if_neg (by omega)]
    · rw [if_neg h4, implCopy_is now past (by omega) (by omega) hm k (by omega), Option.bind_some, if_pos ⟨rfl, by omega⟩]
      exact implGo_is k hk ds now past 0 hok
  · rw [Bool.eq_false_iff.mpr hok, if_pos rfl, if_neg (by simp)]
theorem deskRunP_small (now : List S84) (past : List (List S84)) (ds : List S39) : (deskRunP now past ds).1.length ≤ 8 ∧ (deskRunP now past ds).2.1.length ≤ 8 ∧ ∀ x ∈ (deskRunP now past ds).2.1, x.length ≤ 8 := by
  unfold deskRunP
  by_cases h : deskOk now past = true ∧ ds.length ≤ 40
  · rw [if_pos h]
    exact deskOk_small (runG_ok _ now past 0 h.1)
  · rw [if_neg h]
    exact ⟨by simp, by simp, fun x hx => by cases hx⟩

/-! deedtext -/
/-! The text of a number in 0..99. -/
def numP (n : Int) : ByteArray := ⟨(Lib.decDigits n.toNat).toArray⟩
theorem itoa_is (n : Int) (h0 : 0 ≤ n) (h1 : n ≤ 99) : strconv_Itoa_53.f n = some (numP n) := by
  unfold strconv_Itoa_53.f
  rw [if_pos h0, if_pos (by omega)]; rfl
theorem bytes_app (a b : List UInt8) : (⟨a.toArray⟩ : ByteArray) ++ ⟨b.toArray⟩ = ⟨(a ++ b).toArray⟩ := by
  apply ByteArray.ext
  simp
theorem dec_small (u : Nat) (h : u < 10) : Lib.decDigits u = [UInt8.ofNat (48 + u)] := by rw [Lib.decDigits, dif_pos h]
theorem dec_big (u : Nat) (h : ¬ u < 10) : Lib.decDigits u = Lib.decDigits (u / 10) ++ [UInt8.ofNat (48 + u % 10)] := by rw [Lib.decDigits, dif_neg h]
theorem numP_small (n : Int) (h0 : 0 ≤ n) (h1 : n < 10) : numP n = strOfNums [48 + n] := by
  unfold numP strOfNums
  rw [dec_small n.toNat (by omega)]
  simp only [List.map_cons, List.map_nil]
  rw [show (48 + n).toNat = 48 + n.toNat from by omega]
theorem numP_big (n : Int) (h0 : 10 ≤ n) : numP n = numP (n / 10) ++ strOfNums [48 + n % 10] := by
  unfold numP strOfNums
  rw [dec_big n.toNat (by omega), bytes_app]
  simp only [List.map_cons, List.map_nil]
  rw [show (48 + n % 10).toNat = 48 + n.toNat % 10 from by omega, show (n / 10).toNat = n.toNat / 10 from by omega]
theorem numP_size (n : Int) (h0 : 0 ≤ n) (h1 : n ≤ 99) : 1 ≤ (numP n).size ∧ (numP n).size ≤ 2 := by
  have hs : ∀ u : Nat, (numP (u : Int)).size = (Lib.decDigits u).length := fun u => by
    unfold numP
    rw [Int.toNat_natCast]; rfl
  rw [show n = ((n.toNat : Nat) : Int) from by omega, hs]
  by_cases h : n.toNat < 10
  · rw [dec_small _ h]; simp
  · rw [dec_big _ h, dec_small _ (by omega)]; simp
theorem number_is (n : Int) (h0 : 0 ≤ n) (h1 : n ≤ 99) (k : Nat) (hk : 2 ≤ k) : spec_l1Number.f k n = some (numP n) := by
  obtain ⟨k, rfl⟩ : ∃ m, k = m + 1 := ⟨k - 1, by omega⟩
  obtain ⟨k, rfl⟩ : ∃ m, k = m + 1 := ⟨k - 1, by omega⟩
  have small : ∀ (k : Nat) (m : Int), 0 ≤ m → m < 10 → spec_l1Number.f (k + 1) m = some (numP m) := by
    intro k m m0 m1
    simp only [spec_l1Number.f]
    rw [if_pos m1, numP_small m m0 m1]
    have e : mx m 0 = m := by rw [mx_max]; omega
    rw [e, w64 (x := 48 + m) (by omega) (by omega), show (48 + m) % 256 = 48 + m from by omega]
  by_cases h : n < 10
  · exact small _ n h0 h
  · rw [spec_l1Number.f, if_neg h]
    have e1 : wrap64 (Int.tdiv n 10) = n / 10 := by rw [Int.tdiv_eq_ediv_of_nonneg h0, w64 (by omega) (by omega)]
    have e2 : wrap64 (48 + Int.tmod n 10) % 256 = 48 + n % 10 := by rw [Int.tmod_eq_emod_of_nonneg h0, w64 (by omega) (by omega)]; omega
    rw [e1, e2, small k (n / 10) (by omega) (by omega), Option.bind_some, Option.bind_some]
    have := numP_size (n / 10) (by omega) (by omega)
    have hs : (strOfNums [48 + n % 10]).size = 1 := rfl
    rw [if_pos (by omega), numP_big n (by omega)]
def strP (l : List UInt8) : ByteArray := ⟨l.toArray⟩
/-- The text of a deed. -/
def deedP (kind a b : Int) : ByteArray :=
  if (0 ≤ a ∧ a ≤ 99) ∧ (0 ≤ b ∧ b ≤ 99) then
    if kind = 0 then (((⟨#[99, 111, 109, 101, 32]⟩ : ByteArray) ++ numP a) ++ (⟨#[32]⟩ : ByteArray)) ++ numP b
    else if b = 0 then
      if kind = 2 then (⟨#[110, 101, 101, 100, 32]⟩ : ByteArray) ++ numP a
      else if kind = 3 then (⟨#[108, 97, 116, 101, 114, 32]⟩ : ByteArray) ++ numP a
      else if a = 0 then (if kind = 1 then ⟨#[103, 111]⟩ else if kind = 4 then ⟨#[98, 97, 99, 107]⟩ else ⟨#[]⟩)
      else ⟨#[]⟩
    else ⟨#[]⟩
  else ⟨#[]⟩
theorem impl_DeedText_is (kind a b : Int) (k : Nat) (hk : 5 ≤ k) : impl_DeedText.f k kind a b = some (deedP kind a b) := by
  obtain ⟨k, rfl⟩ : ∃ m, k = m + 1 := ⟨k - 1, by omega⟩
  unfold impl_DeedText.f deedP
  by_cases h : (0 ≤ a ∧ a ≤ 99) ∧ (0 ≤ b ∧ b ≤ 99)
  · obtain ⟨⟨a0, a1⟩, b0, b1⟩ := h
    have sa := numP_size a a0 a1
    have sb := numP_size b b0 b1
    rw [if_neg (by omega), if_neg (by omega), if_neg (by omega), if_pos ⟨⟨a0, a1⟩, b0, b1⟩, decide_eq_false (show ¬ b > 99 by omega)]
    simp only [impl_DeedText.j0]
    rw [if_neg (by simp), itoa_is a a0 a1, Option.bind_some, itoa_is b b0 b1]
    have e1 : ((⟨#[32]⟩ : ByteArray) ++ numP a).size = 1 + (numP a).size := by rw [ByteArray.size_append]; rfl
    have e2 : ((⟨#[99, 111, 109, 101]⟩ : ByteArray) ++ ((⟨#[32]⟩ : ByteArray) ++ numP a)).size = 4 + (1 + (numP a).size) := by rw [ByteArray.size_append, e1]; rfl
    have e3 : (((⟨#[99, 111, 109, 101]⟩ : ByteArray) ++ ((⟨#[32]⟩ : ByteArray) ++ numP a)) ++ (⟨#[32]⟩ : ByteArray)).size = 4 + (1 + (numP a).size) + 1 := by rw [ByteArray.size_append, e2]; rfl
    rw [if_pos (by omega), Option.bind_some, e1, e2, e3]
    by_cases k0 : kind = 0
    · rw [if_pos k0, if_pos (by omega), if_pos (by omega), if_pos (by omega), if_pos k0, ← ByteArray.append_assoc]; rfl
    · rw [if_neg k0, if_neg k0]
      by_cases hb : b = 0
      · rw [if_pos hb, if_pos hb]
        by_cases k2 : kind = 2
        · rw [if_pos k2, if_pos (by omega), if_pos k2, ← ByteArray.append_assoc]; rfl
        · rw [if_neg k2, if_neg k2]
          by_cases k3 : kind = 3
          · rw [if_pos k3, if_pos (by omega), if_pos k3, ← ByteArray.append_assoc]; rfl
          · rw [if_neg k3, if_neg k3]
            split
            · split
              · rfl
              · split <;> rfl
            · rfl
      · rw [if_neg hb, if_neg hb]
  · rw [if_neg h]
    have j : ∀ x, x = true → impl_DeedText.j0 (k + 1) x kind a b = some ⟨#[]⟩ := fun x hx => by
      simp only [impl_DeedText.j0]
      rw [if_pos hx]
    by_cases h1 : a < 0
    · rw [if_pos h1]; exact j _ rfl
    · rw [if_neg h1]
      by_cases h2 : a > 99
      · rw [if_pos h2]; exact j _ rfl
      · rw [if_neg h2]
        by_cases h3 : b < 0
        · rw [if_pos h3]; exact j _ rfl
        · rw [if_neg h3]; exact j _ (decide_eq_true (by omega))
theorem spec_DeedText_is (kind a b : Int) (k : Nat) (hk : 9 ≤ k) : spec_DeedText.f k kind a b = some (deedP kind a b) := by
  obtain ⟨k, rfl⟩ : ∃ m, k = m + 1 := ⟨k - 1, by omega⟩
  obtain ⟨k, rfl⟩ : ∃ m, k = m + 1 := ⟨k - 1, by omega⟩
  obtain ⟨k, rfl⟩ : ∃ m, k = m + 1 := ⟨k - 1, by omega⟩
  have sa := fun (h : 0 ≤ a ∧ a ≤ 99) => numP_size a h.1 h.2
  have sb := fun (h : 0 ≤ b ∧ b ≤ 99) => numP_size b h.1 h.2
  have j2 : ∀ x : Bool, kind ≠ 0 → kind ≠ 2 → (x = true ↔ kind = 3 ∧ (0 ≤ a ∧ a ≤ 99) ∧ b = 0) → spec_DeedText.j2 (k + 1) x kind a b = some (deedP kind a b) := by
    intro x k0 k2 hx
    simp only [spec_DeedText.j2]
    by_cases h : x = true
    · obtain ⟨k3, ha, hb⟩ := hx.1 h
      have := sa ha
      rw [if_pos h, number_is a ha.1 ha.2 k (by omega), Option.bind_some, if_pos (by omega)]
      unfold deedP
      rw [if_pos ⟨ha, by omega⟩, if_neg k0, if_pos hb, if_neg k2, if_pos k3]
    · rw [if_neg h]
      have h3 : ¬ (kind = 3 ∧ (0 ≤ a ∧ a ≤ 99) ∧ b = 0) := fun g => h (hx.2 g)
      by_cases hz : a = 0 ∧ b = 0
      · obtain ⟨rfl, rfl⟩ := hz
        have e : deedP kind 0 0 = (if kind = 1 then ⟨#[103, 111]⟩ else if kind = 4 then ⟨#[98, 97, 99, 107]⟩ else ⟨#[]⟩) := by
          unfold deedP
          rw [if_pos ⟨⟨by omega, by omega⟩, by omega, by omega⟩, if_neg k0, if_pos rfl, if_neg k2, if_neg (fun g => h3 ⟨g, by omega, rfl⟩), if_pos rfl]
        rw [e]
        by_cases k1 : kind = 1
        · rw [if_pos (by simp [k1]), if_pos k1]
        · rw [if_neg (by simp [k1]), if_neg k1]
          by_cases k4 : kind = 4
          · rw [if_pos (by simp [k4]), if_pos k4]
          · rw [if_neg (by simp [k4]), if_neg k4]
      · have f1 : ∀ c : Int, ¬ ((kind == c && (a == 0 && (b == 0))) = true) := fun c g => by
          simp only [Bool.and_eq_true, beq_iff_eq] at g
          exact hz g.2
        have e : deedP kind a b = ⟨#[]⟩ := by
          unfold deedP
          by_cases hab : (0 ≤ a ∧ a ≤ 99) ∧ (0 ≤ b ∧ b ≤ 99)
          · rw [if_pos hab, if_neg k0]
            by_cases hb : b = 0
            · rw [if_pos hb, if_neg k2, if_neg (fun g => h3 ⟨g, hab.1, hb⟩), if_neg (fun g => hz ⟨g, hb⟩)]
            · rw [if_neg hb]
          · rw [if_neg hab]
        rw [if_neg (f1 1), if_neg (f1 4), e]
  have j1 : ∀ x : Bool, kind ≠ 0 → (x = true ↔ kind = 2 ∧ (0 ≤ a ∧ a ≤ 99) ∧ b = 0) → spec_DeedText.j1 (k + 1 + 1) x kind a b = some (deedP kind a b) := by
    intro x k0 hx
    simp only [spec_DeedText.j1]
    by_cases h : x = true
    · obtain ⟨k2, ha, hb⟩ := hx.1 h
      have := sa ha
      rw [if_pos h, number_is a ha.1 ha.2 _ (by omega), Option.bind_some, if_pos (by omega)]
      unfold deedP
      rw [if_pos ⟨ha, by omega⟩, if_neg k0, if_pos hb, if_pos k2]
    · rw [if_neg h]
      have h2 : ¬ (kind = 2 ∧ (0 ≤ a ∧ a ≤ 99) ∧ b = 0) := fun g => h (hx.2 g)
      by_cases k2 : kind = 2
      · have hn : ¬ ((0 ≤ a ∧ a ≤ 99) ∧ b = 0) := fun g => h2 ⟨k2, g⟩
        have e : deedP kind a b = ⟨#[]⟩ := by
          unfold deedP
          by_cases hab : (0 ≤ a ∧ a ≤ 99) ∧ (0 ≤ b ∧ b ≤ 99)
          · rw [if_pos hab, if_neg k0, if_neg (fun g => hn ⟨hab.1, g⟩)]
          · rw [if_neg hab]
        rw [e, if_neg (by omega)]
        simp only [spec_DeedText.j2]
        rw [if_neg (by simp), if_neg (by simp [k2]), if_neg (by simp [k2])]
      · by_cases k3 : kind = 3
        · rw [if_pos k3, spec_l1In_is, Option.bind_some]
          by_cases ha : 0 ≤ a ∧ a ≤ 99
          · rw [if_pos (decide_eq_true ha)]
            exact j2 _ k0 k2 ⟨fun g => ⟨k3, ha, by rw [beq_iff_eq] at g; exact g⟩, fun g => by rw [beq_iff_eq]; exact g.2.2⟩
          · rw [if_neg (fun g => ha (of_decide_eq_true g))]
            exact j2 _ k0 k2 ⟨fun g => by simp at g, fun g => absurd g.2.1 ha⟩
        · rw [if_neg k3]
          exact j2 _ k0 k2 ⟨fun g => by simp at g, fun g => absurd g.1 k3⟩
  have j0 : ∀ x : Bool, (x = true ↔ kind = 0 ∧ (0 ≤ a ∧ a ≤ 99) ∧ (0 ≤ b ∧ b ≤ 99)) → spec_DeedText.j0 (k + 1 + 1 + 1) x kind a b = some (deedP kind a b) := by
    intro x hx
    simp only [spec_DeedText.j0]
    by_cases h : x = true
    · obtain ⟨k0, ha, hb⟩ := hx.1 h
      have s1 := sa ha
      have s2 := sb hb
      have e1 : ((⟨#[99, 111, 109, 101, 32]⟩ : ByteArray) ++ numP a).size = 5 + (numP a).size := by rw [ByteArray.size_append]; rfl
      have e2 : (((⟨#[99, 111, 109, 101, 32]⟩ : ByteArray) ++ numP a) ++ (⟨#[32]⟩ : ByteArray)).size = 5 + (numP a).size + 1 := by rw [ByteArray.size_append, e1]; rfl
      rw [if_pos h, number_is a ha.1 ha.2 _ (by omega), Option.bind_some, if_pos (by omega), if_pos (by omega), number_is b hb.1 hb.2 _ (by omega), Option.bind_some, if_pos (by omega)]
      unfold deedP
      rw [if_pos ⟨ha, hb⟩, if_pos k0]
    · rw [if_neg h]
      by_cases k0 : kind = 0
      · have e : deedP kind a b = ⟨#[]⟩ := by
          unfold deedP
          rw [if_neg (fun g => h (hx.2 ⟨k0, g⟩))]
        rw [e, if_neg (by omega)]
        simp only [spec_DeedText.j1]
        rw [if_neg (by simp), if_neg (by omega)]
        simp only [spec_DeedText.j2]
        rw [if_neg (by simp), if_neg (by simp [k0]), if_neg (by simp [k0])]
      · by_cases k2 : kind = 2
        · rw [if_pos k2, spec_l1In_is, Option.bind_some]
          by_cases ha : 0 ≤ a ∧ a ≤ 99
          · rw [if_pos (decide_eq_true ha)]
            exact j1 _ k0 ⟨fun g => ⟨k2, ha, by rw [beq_iff_eq] at g; exact g⟩, fun g => by rw [beq_iff_eq]; exact g.2.2⟩
          · rw [if_neg (fun g => ha (of_decide_eq_true g))]
            exact j1 _ k0 ⟨fun g => by simp at g, fun g => absurd g.2.1 ha⟩
        · rw [if_neg k2]
          exact j1 _ k0 ⟨fun g => by simp at g, fun g => absurd g.1 k2⟩
  unfold spec_DeedText.f
  by_cases k0 : kind = 0
  · rw [if_pos k0, spec_l1In_is, Option.bind_some]
    by_cases ha : 0 ≤ a ∧ a ≤ 99
    · rw [if_pos (decide_eq_true ha), spec_l1In_is, Option.bind_some]
      exact j0 _ ⟨fun g => ⟨k0, ha, of_decide_eq_true g⟩, fun g => decide_eq_true g.2.2⟩
    · rw [if_neg (fun g => ha (of_decide_eq_true g))]
      exact j0 _ ⟨fun g => by simp at g, fun g => absurd g.2.1 ha⟩
  · rw [if_neg k0]
    exact j0 _ ⟨fun g => by simp at g, fun g => absurd g.1 k0⟩

/-! readdeed -/
/-! Reading deeds: what both texts come to. -/
theorem strP_list (l : List UInt8) : (strP l).data.toList = l := rfl
theorem strP_eq (s : ByteArray) : strP s.data.toList = s := by
  apply ByteArray.ext
  simp [strP]
theorem strP_size (l : List UInt8) : (strP l).size = l.length := rfl
theorem str_ext {a b : ByteArray} (h : a.data.toList = b.data.toList) : a = b := by rw [← strP_eq a, ← strP_eq b, h]
theorem toList_iff (a b : ByteArray) : a.toList = b.toList ↔ a = b := by
  have := Lib.bytes_beq_iff a b
  rw [beq_iff_eq] at this
  exact this
theorem extract_str (s : ByteArray) (a b : Nat) : s.extract a b = strP ((s.data.toList.drop a).take (b - a)) := by
  apply str_ext
  rw [Lib.extract_data, strP_list]
theorem empty_toList : (ByteArray.mk #[]).toList = [] := by
  unfold ByteArray.toList
  unfold ByteArray.toList.loop
  rfl
theorem indexByte_at (w rest : List UInt8) (h : ∀ c ∈ w, c ≠ 32) : Lib.indexByte (w ++ 32 :: rest) 32 = w.length := by
  induction w with
  | nil => simp [Lib.indexByte]
  | cons c cs ih =>
    have h1 := h c (by simp)
    have h2 := ih (fun x hx => h x (by simp [hx]))
    simp only [List.cons_append, Lib.indexByte]
    rw [if_neg (by simpa using h1), h2, if_neg (by simp)]
    simp
theorem indexByte_no (w : List UInt8) (h : ∀ c ∈ w, c ≠ 32) : Lib.indexByte w 32 = -1 := by
  induction w with
  | nil => rfl
  | cons c cs ih =>
    have h1 := h c (by simp)
    have h2 := ih (fun x hx => h x (by simp [hx]))
    simp only [Lib.indexByte]
    rw [if_neg (by simpa using h1), h2, if_pos (by rfl)]
theorem indexB_eq (l : List UInt8) : Lib.indexB (strP l) ⟨#[32]⟩ = Lib.indexByte l 32 := Lib.index_one l 32
theorem parts_hit (w rest : List UInt8) (h : ∀ c ∈ w, c ≠ 32) : impl_ReadDeed.parts (strP (w ++ 32 :: rest)) = strP w :: impl_ReadDeed.parts (strP rest) := by
  have hi : Lib.indexB (strP (w ++ 32 :: rest)) ⟨#[32]⟩ = ((w.length : Nat) : Int) := by rw [indexB_eq, indexByte_at w rest h]
  have hc := Lib.countB_hit _ ⟨#[32]⟩ w.length (by decide) hi
  have e2 : (strP (w ++ 32 :: rest)).extract (w.length + (⟨#[32]⟩ : ByteArray).size) (strP (w ++ 32 :: rest)).size = strP rest := by
    apply str_ext
    rw [Lib.extract_to_end, strP_list, strP_list]
    show (w ++ 32 :: rest).drop (w.length + 1) = rest
    rw [← List.drop_drop, List.drop_left]; rfl
  have e1 : (strP (w ++ 32 :: rest)).extract 0 (w.length + 0) = strP w := by
    apply str_ext
    rw [Lib.extract_data, strP_list, strP_list]
    simp
  unfold impl_ReadDeed.parts
  rw [hc, e2, Nat.add_comm 1 _, Lib.splitB_hit _ 0 _ _ w.length hi, e1, e2]
theorem parts_last (w : List UInt8) (h : ∀ c ∈ w, c ≠ 32) : impl_ReadDeed.parts (strP w) = [strP w] := by
  unfold impl_ReadDeed.parts
  exact Lib.splitB_miss _ 0 _ _ (by rw [indexB_eq, indexByte_no w h])
theorem splitB_small (sep : ByteArray) : ∀ (k : Nat) (s : ByteArray), ∀ p ∈ Lib.splitB sep 0 k s, p.size ≤ s.size := by
  intro k
  induction k with
  | zero => intro s p hp; rw [Lib.splitB_zero, List.mem_singleton] at hp; rw [hp]; exact Nat.le_refl _
  | succ k ih =>
    intro s p hp
    rcases Lib.indexB_cases s sep with hix | ⟨i, hix, -⟩
    · rw [Lib.splitB_miss _ _ _ _ hix, List.mem_singleton] at hp; rw [hp]; exact Nat.le_refl _
    · rw [Lib.splitB_hit _ _ _ _ i hix] at hp
      rcases List.mem_cons.1 hp with hp | hp
      · rw [hp, ByteArray.size_extract]; omega
      · have := ih _ p hp
        rw [ByteArray.size_extract] at this; omega
/-- The digits of a number in 0..99. -/
def digs (n : Int) : List UInt8 := if n < 10 then [UInt8.ofNat (48 + n.toNat)] else [UInt8.ofNat (48 + n.toNat / 10), UInt8.ofNat (48 + n.toNat % 10)]
theorem numP_digs (n : Int) (h0 : 0 ≤ n) (h1 : n ≤ 99) : numP n = strP (digs n) := by
  unfold numP digs strP
  by_cases h : n < 10
  · rw [if_pos h, dec_small n.toNat (by omega)]
  · rw [if_neg h, dec_big n.toNat (by omega), dec_small (n.toNat / 10) (by omega)]; rfl
theorem of_nat_toNat (u : Nat) (h : u < 256) : (UInt8.ofNat u).toNat = u := by
  rw [UInt8.toNat_ofNat']; omega
theorem digs_no (n : Int) (h0 : 0 ≤ n) (h1 : n ≤ 99) : ∀ c ∈ digs n, 48 ≤ c.toNat ∧ c.toNat ≤ 57 := by
  intro c hc
  unfold digs at hc
  split at hc
  · rw [List.mem_singleton] at hc
    rw [hc, of_nat_toNat _ (by omega)]; omega
  · rcases List.mem_cons.1 hc with hc | hc
    · rw [hc, of_nat_toNat _ (by omega)]; omega
    · rw [List.mem_singleton] at hc
      rw [hc, of_nat_toNat _ (by omega)]; omega
theorem no_space {c : UInt8} (h : 48 ≤ c.toNat ∧ c.toNat ≤ 57) : c ≠ 32 := by
  intro e
  rw [e] at h
  exact absurd h.1 (by decide)
theorem atoi_digs (n : Int) (h0 : 0 ≤ n) (h1 : n ≤ 99) : impl_ReadDeed.atoi (numP n) = n := by
  rw [numP_digs n h0 h1]
  unfold impl_ReadDeed.atoi
  rw [strP_list]
  have key : Lib.atoiAll (digs n) = .ok n := by
    unfold digs
    by_cases h : n < 10
    · rw [if_pos h]
      have hc := of_nat_toNat (48 + n.toNat) (by omega)
      simp only [Lib.atoiAll, hc]
      rw [if_neg (by omega)]
      simp only [Lib.parseMag]
      rw [if_neg (by simp)]
      simp only [Lib.parseUint10, hc]
      rw [if_pos (by omega), if_neg (by omega), if_neg (by omega)]
      simp only [Nat.zero_mul, Nat.zero_add]
      rw [if_neg (by omega), if_neg (by omega)]
      have : ¬ (48 + n.toNat = 45) := by omega
      simp only [this, if_false]
      congr 1
      omega
    · rw [if_neg h]
      have hc := of_nat_toNat (48 + n.toNat / 10) (by omega)
      have hd := of_nat_toNat (48 + n.toNat % 10) (by omega)
      simp only [Lib.atoiAll, hc]
      rw [if_neg (by omega)]
      simp only [Lib.parseMag]
      rw [if_neg (by simp)]
      simp only [Lib.parseUint10, hc, hd]
      rw [if_pos (by omega), if_neg (by omega), if_neg (by omega), if_pos (by omega), if_neg (by omega), if_neg (by omega)]
      simp only [Nat.zero_mul, Nat.zero_add]
      rw [if_neg (by omega), if_neg (by omega)]
      have : ¬ (48 + n.toNat / 10 = 45) := by omega
      simp only [this, if_false]
      congr 1
      omega
  rw [key]
/-- What is read. -/
def readP (s : ByteArray) : Int × Int × Int × Bool :=
  if impl_ReadDeed.kind s < 0 ∨ 3 < (impl_ReadDeed.parts s).length then (0, 0, 0, false)
  else if deedP (impl_ReadDeed.kind s) (impl_ReadDeed.numA s) (impl_ReadDeed.numB s) = s then (impl_ReadDeed.kind s, impl_ReadDeed.numA s, impl_ReadDeed.numB s, true) else (0, 0, 0, false)
theorem idx_lt (x : ByteArray) : ∀ (zs : List ByteArray) (i : Nat), Lib.idxFromS zs x i = -1 ∨ Lib.idxFromS zs x i < ((i + zs.length : Nat) : Int) := by
  intro zs
  induction zs with
  | nil => intro i; left; rfl
  | cons z zs ih =>
    intro i
    simp only [Lib.idxFromS]
    split
    · right; simp only [List.length_cons]; omega
    · rcases ih (i + 1) with h | h
      · exact .inl h
      · right; simp only [List.length_cons]; omega
theorem kind_lt (s : ByteArray) : impl_ReadDeed.kind s < 5 := by
  rcases idx_lt (impl_ReadDeed.part s 0) impl_ReadDeed.kinds 0 with h | h
  · show Lib.idxFromS _ _ _ < 5
    rw [h]; omega
  · exact h
theorem impl_ReadDeed_is (s : ByteArray) (hs : s.size ≤ 4294967280) (k : Nat) (hk : 5 ≤ k) : impl_ReadDeed.f k s = some (readP s) := by
  unfold impl_ReadDeed.f readP
  have hall : (impl_ReadDeed.parts s).all (fun p => decide (p.size ≤ 4294967281)) = true := by
    rw [List.all_eq_true]
    intro p hp
    have := splitB_small _ _ s p hp
    exact decide_eq_true (by omega)
  rw [if_pos (by omega), if_pos hall]
  by_cases h1 : impl_ReadDeed.kind s < 0
  · rw [if_pos h1, if_pos (.inl h1)]
  · rw [if_neg h1]
    by_cases h2 : 3 < (impl_ReadDeed.parts s).length
    · rw [if_pos h2, if_pos (.inr h2)]
    · rw [if_neg h2, if_pos (kind_lt s), if_neg (show ¬ (impl_ReadDeed.kind s < 0 ∨ 3 < (impl_ReadDeed.parts s).length) from fun h => Or.elim h h1 h2), impl_DeedText_is _ _ _ k hk, Option.bind_some]
      by_cases h3 : deedP (impl_ReadDeed.kind s) (impl_ReadDeed.numA s) (impl_ReadDeed.numB s) = s
      · rw [if_pos ((toList_iff _ _).2 h3), if_pos h3]
      · rw [if_neg (fun h => h3 ((toList_iff _ _).1 h)), if_neg h3]
/-- A deed that has a text is one of five. -/
theorem deedP_cases {kind a b : Int} {s : ByteArray} (h : deedP kind a b = s) (hs : s ≠ ⟨#[]⟩) :
    (kind = 0 ∧ (0 ≤ a ∧ a ≤ 99) ∧ (0 ≤ b ∧ b ≤ 99) ∧ s = strP ([99, 111, 109, 101] ++ 32 :: (digs a ++ 32 :: digs b))) ∨ (kind = 2 ∧ (0 ≤ a ∧ a ≤ 99) ∧ b = 0 ∧ s = strP ([110, 101, 101, 100] ++ 32 :: digs a)) ∨
      (kind = 3 ∧ (0 ≤ a ∧ a ≤ 99) ∧ b = 0 ∧ s = strP ([108, 97, 116, 101, 114] ++ 32 :: digs a)) ∨ (kind = 1 ∧ a = 0 ∧ b = 0 ∧ s = strP [103, 111]) ∨ (kind = 4 ∧ a = 0 ∧ b = 0 ∧ s = strP [98, 97, 99, 107]) := by
  unfold deedP at h
  by_cases hab : (0 ≤ a ∧ a ≤ 99) ∧ (0 ≤ b ∧ b ≤ 99)
  · rw [if_pos hab] at h
    obtain ⟨ha, hb⟩ := hab
    by_cases k0 : kind = 0
    · rw [if_pos k0, numP_digs a ha.1 ha.2, numP_digs b hb.1 hb.2] at h
      refine .inl ⟨k0, ha, hb, ?_⟩
      rw [← h]
      apply str_ext
      simp [strP, ByteArray.data_append]
    · rw [if_neg k0] at h
      by_cases hz : b = 0
      · rw [if_pos hz] at h
        by_cases k2 : kind = 2
        · rw [if_pos k2, numP_digs a ha.1 ha.2] at h
          refine .inr (.inl ⟨k2, ha, hz, ?_⟩)
          rw [← h]
          apply str_ext
          simp [strP, ByteArray.data_append]
        · rw [if_neg k2] at h
          by_cases k3 : kind = 3
          · rw [if_pos k3, numP_digs a ha.1 ha.2] at h
            refine .inr (.inr (.inl ⟨k3, ha, hz, ?_⟩))
            rw [← h]
            apply str_ext
            simp [strP, ByteArray.data_append]
          · rw [if_neg k3] at h
            by_cases az : a = 0
            · rw [if_pos az] at h
              by_cases k1 : kind = 1
              · rw [if_pos k1] at h
                exact .inr (.inr (.inr (.inl ⟨k1, az, hz, h.symm⟩)))
              · rw [if_neg k1] at h
                by_cases k4 : kind = 4
                · rw [if_pos k4] at h
                  exact .inr (.inr (.inr (.inr ⟨k4, az, hz, h.symm⟩)))
                · rw [if_neg k4] at h; exact absurd h.symm hs
            · rw [if_neg az] at h; exact absurd h.symm hs
      · rw [if_neg hz] at h; exact absurd h.symm hs
  · rw [if_neg hab] at h; exact absurd h.symm hs
theorem digs_sp (n : Int) (h0 : 0 ≤ n) (h1 : n ≤ 99) : ∀ c ∈ digs n, c ≠ 32 := fun c hc => no_space (digs_no n h0 h1 c hc)
theorem read_of_parts {s : ByteArray} {kind a b : Int} {ps : List ByteArray} (hp : impl_ReadDeed.parts s = ps) (hl : ps.length ≤ 3) (hk : Lib.idxOfS impl_ReadDeed.kinds (ps.getD 0 ByteArray.empty) = kind) (hk0 : 0 ≤ kind) (ha : (if 1 < ps.length then impl_ReadDeed.atoi (ps.getD 1 ByteArray.empty) else 0) = a) (hb : (if 2 < ps.length then impl_ReadDeed.atoi (ps.getD 2 ByteArray.empty) else 0) = b) (h : deedP kind a b = s) : readP s = (kind, a, b, true) := by
  have e1 : impl_ReadDeed.kind s = kind := by unfold impl_ReadDeed.kind impl_ReadDeed.part; rw [hp]; exact hk
  have e2 : impl_ReadDeed.numA s = a := by unfold impl_ReadDeed.numA impl_ReadDeed.part; rw [hp]; exact ha
  have e3 : impl_ReadDeed.numB s = b := by unfold impl_ReadDeed.numB impl_ReadDeed.part; rw [hp]; exact hb
  unfold readP
  rw [e1, e2, e3, hp, if_neg (by omega), if_pos h]
theorem read_text {kind a b : Int} {s : ByteArray} (h : deedP kind a b = s) (hs : s ≠ ⟨#[]⟩) : readP s = (kind, a, b, true) := by
  rcases deedP_cases h hs with ⟨rfl, ha, hb, e⟩ | ⟨rfl, ha, rfl, e⟩ | ⟨rfl, ha, rfl, e⟩ | ⟨rfl, rfl, rfl, e⟩ | ⟨rfl, rfl, rfl, e⟩
  · have hp : impl_ReadDeed.parts s = [strP [99, 111, 109, 101], strP (digs a), strP (digs b)] := by
      rw [e, parts_hit _ _ (by decide), parts_hit _ _ (digs_sp a ha.1 ha.2), parts_last _ (digs_sp b hb.1 hb.2)]
    refine read_of_parts hp (by simp) (show Lib.idxOfS impl_ReadDeed.kinds (strP [99, 111, 109, 101]) = 0 by decide) (by decide) ?_ ?_ h
    · rw [if_pos (by simp)]
      show impl_ReadDeed.atoi (strP (digs a)) = a
      rw [← numP_digs a ha.1 ha.2, atoi_digs a ha.1 ha.2]
    · rw [if_pos (by simp)]
      show impl_ReadDeed.atoi (strP (digs b)) = b
      rw [← numP_digs b hb.1 hb.2, atoi_digs b hb.1 hb.2]
  · have hp : impl_ReadDeed.parts s = [strP [110, 101, 101, 100], strP (digs a)] := by
      rw [e, parts_hit _ _ (by decide), parts_last _ (digs_sp a ha.1 ha.2)]
    refine read_of_parts hp (by simp) (show Lib.idxOfS impl_ReadDeed.kinds (strP [110, 101, 101, 100]) = 2 by decide) (by decide) ?_ (by simp) h
    rw [if_pos (by simp)]
    show impl_ReadDeed.atoi (strP (digs a)) = a
    rw [← numP_digs a ha.1 ha.2, atoi_digs a ha.1 ha.2]
  · have hp : impl_ReadDeed.parts s = [strP [108, 97, 116, 101, 114], strP (digs a)] := by
      rw [e, parts_hit _ _ (by decide), parts_last _ (digs_sp a ha.1 ha.2)]
    refine read_of_parts hp (by simp) (show Lib.idxOfS impl_ReadDeed.kinds (strP [108, 97, 116, 101, 114]) = 3 by decide) (by decide) ?_ (by simp) h
    rw [if_pos (by simp)]
    show impl_ReadDeed.atoi (strP (digs a)) = a
    rw [← numP_digs a ha.1 ha.2, atoi_digs a ha.1 ha.2]
  · exact read_of_parts (ps := [strP [103, 111]]) (by rw [e]; exact parts_last _ (by decide)) (by simp) (by decide) (by decide) (by simp) (by simp) h
  · exact read_of_parts (ps := [strP [98, 97, 99, 107]]) (by rw [e]; exact parts_last _ (by decide)) (by simp) (by decide) (by decide) (by simp) (by simp) h
theorem read_empty : readP ⟨#[]⟩ = (0, 0, 0, false) := by
  have hp : impl_ReadDeed.parts ⟨#[]⟩ = [⟨#[]⟩] := parts_last [] (by simp)
  have hk : impl_ReadDeed.kind ⟨#[]⟩ = -1 := by
    unfold impl_ReadDeed.kind impl_ReadDeed.part
    rw [hp]; decide
  unfold readP
  rw [if_pos (.inl (by rw [hk]; decide))]
theorem read_cases (s : ByteArray) : (∃ kind a b, deedP kind a b = s ∧ s ≠ ⟨#[]⟩ ∧ readP s = (kind, a, b, true)) ∨ ((∀ kind a b, deedP kind a b = s → s = ⟨#[]⟩) ∧ readP s = (0, 0, 0, false)) := by
  by_cases h0 : s = ⟨#[]⟩
  · right
    rw [h0]
    exact ⟨fun _ _ _ _ => rfl, read_empty⟩
  · by_cases h : ∃ kind a b, deedP kind a b = s
    · obtain ⟨kind, a, b, h⟩ := h
      exact .inl ⟨kind, a, b, h, h0, read_text h h0⟩
    · refine .inr ⟨fun kind a b e => absurd ⟨kind, a, b, e⟩ h, ?_⟩
      unfold readP
      split
      · rfl
      · rw [if_neg (fun e => h ⟨_, _, _, e⟩)]

/-! readdeed_spec -/
theorem bt_nat (s : ByteArray) (i : Nat) (h : i < s.size) : bt s (i : Int) = ((s.data.toList.getD i 0).toNat : Int) := by
  have h2 : i < s.data.toList.length := by rw [Array.length_toList]; exact h
  unfold bt
  rw [dif_pos (by rw [Int.toNat_natCast]; exact h), getD_lt h2]
  rfl
theorem of32 (c : UInt8) : ((c.toNat : Int) = 32) ↔ c = 32 := by
  constructor
  · intro h
    apply UInt8.toNat_inj.1
    have : c.toNat = 32 := by omega
    rw [this]; rfl
  · intro h; rw [h]; rfl
/-- What stands between the spaces. -/
def cutP : List UInt8 → List UInt8 → List ByteArray
  | acc, [] => [strP acc]
  | acc, c :: cs => if c = 32 then strP acc :: cutP [] cs else cutP (acc ++ [c]) cs
theorem cutP_length : ∀ (l acc : List UInt8), (cutP acc l).length ≤ l.length + 1 := by
  intro l
  induction l with
  | nil => intro acc; simp [cutP]
  | cons c cs ih =>
    intro acc
    simp only [cutP]
    split
    · have := ih []; simp only [List.length_cons]; omega
    · have := ih (acc ++ [c]); simp only [List.length_cons]; omega
theorem cutP_hit : ∀ (w acc rest : List UInt8), (∀ c ∈ w, c ≠ 32) → cutP acc (w ++ 32 :: rest) = strP (acc ++ w) :: cutP [] rest := by
  intro w
  induction w with
  | nil => intro acc rest _; simp [cutP]
  | cons c cs ih =>
    intro acc rest h
    simp only [List.cons_append, cutP]
    rw [if_neg (h c (by simp)), ih _ _ (fun x hx => h x (by simp [hx]))]
    simp
theorem cutP_last : ∀ (w acc : List UInt8), (∀ c ∈ w, c ≠ 32) → cutP acc w = [strP (acc ++ w)] := by
  intro w
  induction w with
  | nil => intro acc _; simp [cutP]
  | cons c cs ih =>
    intro acc h
    simp only [cutP]
    rw [if_neg (h c (by simp)), ih _ (fun x hx => h x (by simp [hx]))]
    simp
theorem spec_l1Cut_loop (s : ByteArray) (hs : s.size ≤ 1048577) : ∀ (suf : List UInt8) (i frm k : Nat) (out : List ByteArray), s.data.toList.drop i = suf → suf.length < k → i ≤ s.size → frm ≤ i → out.length ≤ i →
    spec_l1Cut.l0 k s 32 out frm i = some (out ++ cutP ((s.data.toList.drop frm).take (i - frm)) suf) := by
  have hsz : s.data.toList.length = s.size := by rw [Array.length_toList]; rfl
  intro suf
  induction suf with
  | nil =>
    intro i frm k out hd hk hi hf ho
    obtain ⟨k, rfl⟩ : ∃ m, k = m + 1 := ⟨k - 1, by omega⟩
    have := drop_nil hd
    simp only [spec_l1Cut.l0]
    rw [if_neg (by omega), if_pos (by omega), if_pos (by omega), if_pos (by omega), Int.toNat_natCast, extract_str]
    simp only [cutP]
    rw [show i = s.size from by omega]
  | cons c cs ih =>
    intro i frm k out hd hk hi hf ho
    obtain ⟨k, rfl⟩ : ∃ m, k = m + 1 := ⟨k - 1, by omega⟩
    obtain ⟨hlt, hd2, hx⟩ := drop_split hd
    simp only [List.length_cons] at hk
    simp only [spec_l1Cut.l0]
    rw [if_pos (by omega), if_pos (by omega), bt_nat s i (by omega), hx 0, w64s i (by omega)]
    simp only [cutP]
    by_cases h : c = 32
    · rw [if_pos ((of32 c).2 h), if_pos (by omega), if_pos (by omega), if_pos (by omega), if_pos (by omega), if_pos h, Int.toNat_natCast, Int.toNat_natCast, extract_str, ih (i + 1) (i + 1) k _ hd2 (by omega) (by omega) (by omega) (by rw [List.length_append]; simp; omega)]
      simp
    · rw [if_neg (fun e => h ((of32 c).1 e)), if_neg h, ih (i + 1) frm k out hd2 (by omega) (by omega) (by omega) (by omega)]
      congr 3
      rw [show i + 1 - frm = (i - frm) + 1 from by omega, List.take_succ_eq_append_getElem (by rw [List.length_drop]; omega)]
      congr 1
      have e1 := hx 0
      rw [getD_lt hlt] at e1
      rw [List.getElem_drop, ← e1]
      congr 2
      omega
theorem spec_l1Cut_is (s : ByteArray) (hs : s.size ≤ 1048577) (k : Nat) (hk : s.size < k) : spec_l1Cut.f k s 32 = some (cutP [] s.data.toList) := by
  have hsz : s.data.toList.length = s.size := by rw [Array.length_toList]; rfl
  unfold spec_l1Cut.f
  have := spec_l1Cut_loop s hs s.data.toList 0 0 k [] rfl (by omega) (by omega) (by omega) (by simp)
  rw [show ((0 : Nat) : Int) = 0 from rfl] at this
  rw [this]; rfl
/-- Digits are some number or none, of whatever text. -/
theorem l1Digits_loop (s : ByteArray) (h6 : s.size ≤ 6) : ∀ (d i k : Nat) (n : Int), i + d = s.size → d < k → 0 ≤ n → n < 10 ^ i → ∃ v, spec_l1Digits.l0 k s n i = some v := by
  intro d
  induction d with
  | zero =>
    intro i k n hi hk h0 h1
    obtain ⟨k, rfl⟩ : ∃ m, k = m + 1 := ⟨k - 1, by omega⟩
    simp only [spec_l1Digits.l0]
    rw [if_neg (by omega)]
    exact ⟨n, rfl⟩
  | succ d ih =>
    intro i k n hi hk h0 h1
    obtain ⟨k, rfl⟩ : ∃ m, k = m + 1 := ⟨k - 1, by omega⟩
    simp only [spec_l1Digits.l0]
    have hb := bt_range s (i : Int)
    have hp : (10 : Int) ^ i ≤ 10 ^ 6 := by
      have : (10 : Nat) ^ i ≤ 10 ^ 6 := Nat.pow_le_pow_right (by omega) (by omega)
      exact_mod_cast this
    rw [if_pos (by omega), if_pos (by omega)]
    by_cases h2 : bt s (i : Int) < 48
    · rw [if_pos h2]; exact ⟨_, rfl⟩
    · rw [if_neg h2]
      by_cases h3 : bt s (i : Int) > 57
      · rw [if_pos h3]; exact ⟨_, rfl⟩
      · have e10 : (10 : Int) ^ 6 = 1000000 := by decide
        rw [if_neg h3, w64s i (by omega), show wrap64 (10 * n) = 10 * n from w64 (by omega) (by omega), show wrap64 (10 * n + (bt s (i : Int) - 48) % 256) = 10 * n + (bt s (i : Int) - 48) % 256 from w64 (by omega) (by omega)]
        refine ih (i + 1) k _ (by omega) (by omega) (by omega) ?_
        rw [Int.pow_succ]; omega
theorem l1Digits_some (s : ByteArray) (k : Nat) (hk : 9 ≤ k) : ∃ v, spec_l1Digits.f k s = some v := by
  obtain ⟨k, rfl⟩ : ∃ m, k = m + 1 := ⟨k - 1, by omega⟩
  unfold spec_l1Digits.f
  rw [spec_l1In_is, Option.bind_some]
  have hj : ∀ x : Bool, s.size ≤ 6 → ∃ v, spec_l1Digits.j0 (k + 1) s x = some v := by
    intro x h6
    simp only [spec_l1Digits.j0]
    cases x with
    | true => rw [if_pos rfl]; exact ⟨_, rfl⟩
    | false =>
      rw [if_neg (by simp)]
      exact l1Digits_loop s h6 s.size 0 k 0 (by omega) (by omega) (by omega) (by simp)
  by_cases h : (1 : Int) ≤ (s.size : Int) ∧ (s.size : Int) ≤ 6
  · rw [if_pos (decide_eq_true h)]
    split
    · rw [if_pos (by omega)]; exact hj _ (by omega)
    · exact hj _ (by omega)
  · rw [if_neg (by rw [decide_eq_false h]; simp)]
    simp only [spec_l1Digits.j0]
    exact ⟨_, rfl⟩
theorem l1Digits_num (n : Int) (h0 : 0 ≤ n) (h1 : n ≤ 99) (k : Nat) (hk : 9 ≤ k) : spec_l1Digits.f k (strP (digs n)) = some n := by
  obtain ⟨k, rfl⟩ : ∃ m, k = m + 1 := ⟨k - 1, by omega⟩
  obtain ⟨k, rfl⟩ : ∃ m, k = m + 1 := ⟨k - 1, by omega⟩
  obtain ⟨k, rfl⟩ : ∃ m, k = m + 1 := ⟨k - 1, by omega⟩
  obtain ⟨k, rfl⟩ : ∃ m, k = m + 1 := ⟨k - 1, by omega⟩
  unfold spec_l1Digits.f
  rw [spec_l1In_is, Option.bind_some]
  have z0 : wrap64 (10 * 0) = 0 := w64 (by omega) (by omega)
  have z1 : wrap64 (0 + 1) = 1 := w64 (by omega) (by omega)
  have z2 : wrap64 (1 + 1) = 2 := w64 (by omega) (by omega)
  by_cases h : n < 10
  · have e : digs n = [UInt8.ofNat (48 + n.toNat)] := by unfold digs; rw [if_pos h]
    have hc := of_nat_toNat (48 + n.toNat) (by omega)
    have hsz : (strP (digs n)).size = 1 := by rw [e]; rfl
    have hb : bt (strP (digs n)) 0 = 48 + n := by
      have := bt_nat (strP (digs n)) 0 (by omega)
      rw [show ((0 : Nat) : Int) = 0 from rfl] at this
      rw [this, strP_list, e]
      show ((UInt8.ofNat (48 + n.toNat)).toNat : Int) = 48 + n
      rw [hc]; omega
    rw [hsz, if_pos (by decide), if_neg (by decide)]
    simp only [spec_l1Digits.j0, spec_l1Digits.l0]
    rw [if_neg (by simp), hsz, hb, z1, if_pos (by decide), if_pos (by decide), if_neg (by omega), if_neg (by omega), if_neg (by decide), z0, show wrap64 (0 + (48 + n - 48) % 256) = n from by rw [w64 (by omega) (by omega)]; omega]
  · have e : digs n = [UInt8.ofNat (48 + n.toNat / 10), UInt8.ofNat (48 + n.toNat % 10)] := by unfold digs; rw [if_neg h]
    have hc := of_nat_toNat (48 + n.toNat / 10) (by omega)
    have hd := of_nat_toNat (48 + n.toNat % 10) (by omega)
    have hsz : (strP (digs n)).size = 2 := by rw [e]; rfl
    have hb : bt (strP (digs n)) 0 = 48 + n / 10 := by
      have := bt_nat (strP (digs n)) 0 (by omega)
      rw [show ((0 : Nat) : Int) = 0 from rfl] at this
      rw [this, strP_list, e]
      show ((UInt8.ofNat (48 + n.toNat / 10)).toNat : Int) = 48 + n / 10
      rw [hc]; omega
    have hb2 : bt (strP (digs n)) 1 = 48 + n % 10 := by
      have := bt_nat (strP (digs n)) 1 (by omega)
      rw [show ((1 : Nat) : Int) = 1 from rfl] at this
      rw [this, strP_list, e]
      show ((UInt8.ofNat (48 + n.toNat % 10)).toNat : Int) = 48 + n % 10
      rw [hd]; omega
    rw [hsz, if_pos (by decide), if_pos (by decide), if_pos (by decide), hb, show ((48 + n / 10 == (48 : Int)) : Bool) = false from beq_eq_false_iff_ne.2 (by omega)]
    simp only [spec_l1Digits.j0, spec_l1Digits.l0]
    rw [if_neg (by simp), hsz, hb, z1, z2, hb2, if_pos (by decide), if_pos (by decide), if_neg (by omega), if_neg (by omega), if_pos (by decide), if_pos (by decide), if_neg (by omega), if_neg (by omega), if_neg (by decide), z0, show wrap64 (0 + (48 + n / 10 - 48) % 256) = n / 10 from by rw [w64 (by omega) (by omega)]; omega, show wrap64 (10 * (n / 10)) = 10 * (n / 10) from w64 (by omega) (by omega), show wrap64 (10 * (n / 10) + (48 + n % 10 - 48) % 256) = n from by rw [w64 (by omega) (by omega)]; omega]
theorem rd_Deed_nat (l : List S39) (i : Nat) : rd_T39 l (i : Int) = l.getD i z39 := by
  unfold rd_T39
  rw [Int.toNat_natCast]
/-- The loop over what a text may be: the first that has this text, if the text isn't empty. -/
theorem spec_find (s : ByteArray) (L : List S39) (hL : L.length ≤ 10) : ∀ (suf : List S39) (i k : Nat), L.drop i = suf → suf.length + 12 < k → i ≤ L.length →
    spec_ReadDeed.l0 k s L i = some (match suf.find? (fun d => decide (s ≠ ⟨#[]⟩ ∧ deedP d.f0 d.f1 d.f2 = s)) with | some d => (d.f0, d.f1, d.f2, true) | none => (0, 0, 0, false)) := by
  intro suf
  induction suf with
  | nil =>
    intro i k hd hk hi
    obtain ⟨k, rfl⟩ : ∃ m, k = m + 1 := ⟨k - 1, by omega⟩
    have := drop_nil hd
    simp only [spec_ReadDeed.l0]
    rw [if_neg (by omega)]; rfl
  | cons d ds ih =>
    intro i k hd hk hi
    obtain ⟨k, rfl⟩ : ∃ m, k = m + 1 := ⟨k - 1, by omega⟩
    obtain ⟨hlt, hd2, hx⟩ := drop_split hd
    simp only [List.length_cons] at hk
    simp only [spec_ReadDeed.l0]
    have hnil : s.toList = ([] : List UInt8) ↔ s = ⟨#[]⟩ := by rw [← toList_iff]; exact ⟨fun e => e.trans empty_toList.symm, fun e => e.trans empty_toList⟩
    rw [if_pos (by omega), w64s i (by omega), ih (i + 1) k hd2 (by omega) (by omega)]
    by_cases h0 : s = ⟨#[]⟩
    · rw [if_pos (hnil.2 h0), List.find?_cons_of_neg (by simp [h0])]
    · rw [if_neg (fun e => h0 (hnil.1 e)), if_pos (by omega), rd_Deed_nat, hx, spec_DeedText_is _ _ _ k (by omega), Option.bind_some]
      by_cases h1 : deedP d.f0 d.f1 d.f2 = s
      · rw [if_pos ((toList_iff _ _).2 h1), List.find?_cons_of_pos (by simp [h0, h1])]
      · rw [if_neg (fun e => h1 ((toList_iff _ _).1 e)), List.find?_cons_of_neg (by simp [h1])]
theorem find_read (s : ByteArray) (L : List S39) (hL : ∀ kind a b, deedP kind a b = s → s ≠ ⟨#[]⟩ → (⟨kind, a, b⟩ : S39) ∈ L) :
    (match L.find? (fun d => decide (s ≠ ⟨#[]⟩ ∧ deedP d.f0 d.f1 d.f2 = s)) with | some d => (d.f0, d.f1, d.f2, true) | none => (0, 0, 0, false)) = readP s := by
  cases hf : L.find? (fun d => decide (s ≠ ⟨#[]⟩ ∧ deedP d.f0 d.f1 d.f2 = s)) with
  | some d =>
    have h := List.find?_some hf
    rw [decide_eq_true_eq] at h
    exact (read_text h.2 h.1).symm
  | none =>
    rcases read_cases s with ⟨kind, a, b, h, h0, -⟩ | ⟨-, h⟩
    · have := List.find?_eq_none.1 hf _ (hL kind a b h h0)
      exact absurd (decide_eq_true (show s ≠ ⟨#[]⟩ ∧ deedP kind a b = s from ⟨h0, h⟩)) this
    · exact h.symm
theorem spec_ReadDeed_is (s : ByteArray) (hs : s.size ≤ 1048577) (k : Nat) (hk : s.size + 40 ≤ k) : spec_ReadDeed.f k s = some (readP s) := by
  obtain ⟨k, rfl⟩ : ∃ m, k = m + 1 := ⟨k - 1, by omega⟩
  obtain ⟨k, rfl⟩ : ∃ m, k = m + 1 := ⟨k - 1, by omega⟩
  unfold spec_ReadDeed.f
  rw [spec_l1Cut_is s hs _ (by omega), Option.bind_some, Option.bind_some]
  generalize hW : cutP [] s.data.toList = W
  have hgo : ∀ L : List S39, L.length ≤ 10 → (∀ kind a b, deedP kind a b = s → s ≠ ⟨#[]⟩ → (⟨kind, a, b⟩ : S39) ∈ L) → spec_ReadDeed.j1 (k + 1) s L = some (readP s) := by
    intro L h10 hL
    simp only [spec_ReadDeed.j1]
    have := spec_find s L h10 L 0 k rfl (by omega) (by omega)
    rw [show ((0 : Nat) : Int) = 0 from rfl] at this
    rw [this, find_read s L hL]
  have words : ∀ kind a b, deedP kind a b = s → s ≠ ⟨#[]⟩ → (kind = 0 ∧ W.length = 3 ∧ (0 ≤ a ∧ a ≤ 99) ∧ (0 ≤ b ∧ b ≤ 99) ∧ W.getD 1 ByteArray.empty = strP (digs a) ∧ W.getD 2 ByteArray.empty = strP (digs b)) ∨ ((kind = 2 ∨ kind = 3) ∧ W.length = 2 ∧ (0 ≤ a ∧ a ≤ 99) ∧ b = 0 ∧ W.getD 1 ByteArray.empty = strP (digs a)) ∨ ((kind = 1 ∨ kind = 4) ∧ a = 0 ∧ b = 0) := by
    intro kind a b h h0
    rcases deedP_cases h h0 with ⟨hk, ha, hb, e⟩ | ⟨hk, ha, hb, e⟩ | ⟨hk, ha, hb, e⟩ | ⟨hk, ha, hb, e⟩ | ⟨hk, ha, hb, e⟩
    · have hw : W = [strP [99, 111, 109, 101], strP (digs a), strP (digs b)] := by
        rw [← hW, e, strP_list, cutP_hit _ _ _ (by decide), cutP_hit _ _ _ (digs_sp a ha.1 ha.2), cutP_last _ _ (digs_sp b hb.1 hb.2)]; rfl
      exact .inl ⟨hk, by rw [hw]; rfl, ha, hb, by rw [hw]; rfl, by rw [hw]; rfl⟩
    · have hw : W = [strP [110, 101, 101, 100], strP (digs a)] := by
        rw [← hW, e, strP_list, cutP_hit _ _ _ (by decide), cutP_last _ _ (digs_sp a ha.1 ha.2)]; rfl
      exact .inr (.inl ⟨.inl hk, by rw [hw]; rfl, ha, hb, by rw [hw]; rfl⟩)
    · have hw : W = [strP [108, 97, 116, 101, 114], strP (digs a)] := by
        rw [← hW, e, strP_list, cutP_hit _ _ _ (by decide), cutP_last _ _ (digs_sp a ha.1 ha.2)]; rfl
      exact .inr (.inl ⟨.inr hk, by rw [hw]; rfl, ha, hb, by rw [hw]; rfl⟩)
    · exact .inr (.inr ⟨.inl hk, ha, hb⟩)
    · exact .inr (.inr ⟨.inr hk, ha, hb⟩)
  have e1 : rdOf ByteArray.empty W 1 = W.getD 1 ByteArray.empty := rfl
  have e2 : rdOf ByteArray.empty W 2 = W.getD 2 ByteArray.empty := rfl
  have hgb : ∀ kind : Int, (kind = 1 ∨ kind = 4) → (⟨kind, 0, 0⟩ : S39) ∈ [(⟨1, 0, 0⟩ : S39), ⟨4, 0, 0⟩] := by
    rintro kind (rfl | rfl) <;> simp
  by_cases h3 : (W.length : Int) = 3
  · obtain ⟨da, hda⟩ := l1Digits_some (W.getD 1 ByteArray.empty) (k + 2) (by omega)
    obtain ⟨db, hdb⟩ := l1Digits_some (W.getD 2 ByteArray.empty) (k + 2) (by omega)
    rw [if_pos h3, if_pos (by omega), e1, hda, Option.bind_some, if_pos (by omega), e2, hdb, Option.bind_some, if_pos (by simp)]
    simp only [spec_ReadDeed.j0]
    rw [if_neg (by omega)]
    refine hgo _ (by simp) (fun kind a b h h0 => ?_)
    rcases words kind a b h h0 with ⟨hk0, -, ha, hb, g1, g2⟩ | ⟨-, hl, -⟩ | ⟨hk1, ha, hb⟩
    · rw [g1, l1Digits_num a ha.1 ha.2 _ (by omega)] at hda
      rw [g2, l1Digits_num b hb.1 hb.2 _ (by omega)] at hdb
      rw [hk0, Option.some.inj hda, Option.some.inj hdb]; simp
    · omega
    · rw [ha, hb]; exact List.mem_append_left _ (hgb kind hk1)
  · rw [if_neg h3]
    simp only [spec_ReadDeed.j0]
    by_cases h2 : (W.length : Int) = 2
    · obtain ⟨da, hda⟩ := l1Digits_some (W.getD 1 ByteArray.empty) (k + 1) (by omega)
      rw [if_pos h2, if_pos (by omega), e1, hda, Option.bind_some, Option.bind_some, if_pos (by simp)]
      refine hgo _ (by simp) (fun kind a b h h0 => ?_)
      rcases words kind a b h h0 with ⟨-, hl, -⟩ | ⟨hk2, -, ha, hb, g1⟩ | ⟨hk1, ha, hb⟩
      · omega
      · rw [g1, l1Digits_num a ha.1 ha.2 _ (by omega)] at hda
        have := Option.some.inj hda
        subst this
        rw [hb]
        rcases hk2 with rfl | rfl <;> simp
      · rw [ha, hb]; exact List.mem_append_left _ (hgb kind hk1)
    · rw [if_neg h2]
      refine hgo _ (by simp) (fun kind a b h h0 => ?_)
      rcases words kind a b h h0 with ⟨-, hl, -⟩ | ⟨-, hl, -⟩ | ⟨hk1, ha, hb⟩
      · omega
      · omega
      · rw [ha, hb]; exact hgb kind hk1

/-! journal -/
/-! The text of a journal. -/
theorem deedP_size (kind a b : Int) : (deedP kind a b).size ≤ 12 := by
  unfold deedP
  have e0 : ∀ l : ByteArray, l = ⟨#[]⟩ → l.size ≤ 12 := fun l h => by rw [h]; decide
  by_cases h : (0 ≤ a ∧ a ≤ 99) ∧ (0 ≤ b ∧ b ≤ 99)
  · rw [if_pos h]
    have sa := numP_size a h.1.1 h.1.2
    have sb := numP_size b h.2.1 h.2.2
    by_cases k0 : kind = 0
    · rw [if_pos k0, ByteArray.size_append, ByteArray.size_append, ByteArray.size_append]
      show 5 + _ + 1 + _ ≤ 12
      omega
    · rw [if_neg k0]
      by_cases hb : b = 0
      · rw [if_pos hb]
        by_cases k2 : kind = 2
        · rw [if_pos k2, ByteArray.size_append]
          show 5 + _ ≤ 12
          omega
        · rw [if_neg k2]
          by_cases k3 : kind = 3
          · rw [if_pos k3, ByteArray.size_append]
            show 6 + _ ≤ 12
            omega
          · rw [if_neg k3]
            split
            · split
              · decide
              · split <;> decide
            · decide
      · rw [if_neg hb]; decide
  · rw [if_neg h]; decide
def journalP : ByteArray → List S39 → ByteArray
  | acc, [] => acc
  | acc, d :: ds => if (deedP d.f0 d.f1 d.f2).toList = ([] : List UInt8) then ⟨#[]⟩ else journalP ((acc ++ deedP d.f0 d.f1 d.f2) ++ (⟨#[10]⟩ : ByteArray)) ds
theorem acc_size (acc t : ByteArray) : ((acc ++ t) ++ (⟨#[10]⟩ : ByteArray)).size = acc.size + t.size + 1 := by
  rw [ByteArray.size_append, ByteArray.size_append]; rfl
theorem impl_Journal_loop (l : List S39) (hl : l.length ≤ 1048576) : ∀ (suf : List S39) (i k : Nat) (acc : ByteArray), l.drop i = suf → suf.length + 20 < k → i ≤ l.length → acc.size ≤ 13 * i → impl_JournalText.l0 k acc l (l.length : Int) (i : Int) = some (journalP acc suf) := by
  intro suf
  induction suf with
  | nil =>
    intro i k acc hd hk hi ha
    obtain ⟨k, rfl⟩ : ∃ m, k = m + 1 := ⟨k - 1, by omega⟩
    have := drop_nil hd
    simp only [impl_JournalText.l0]
    rw [if_neg (by omega)]; rfl
  | cons x xs ih =>
    intro i k acc hd hk hi ha
    obtain ⟨k, rfl⟩ : ∃ m, k = m + 1 := ⟨k - 1, by omega⟩
    obtain ⟨hlt, hd2, hx⟩ := drop_split hd
    have hs := deedP_size x.f0 x.f1 x.f2
    have e1 : (deedP x.f0 x.f1 x.f2 ++ (⟨#[10]⟩ : ByteArray)).size = (deedP x.f0 x.f1 x.f2).size + 1 := by rw [ByteArray.size_append]; rfl
    simp only [List.length_cons] at hk
    simp only [impl_JournalText.l0, journalP]
    rw [if_pos (by omega), if_pos (by omega), if_pos (by omega), rd_Deed_nat, hx, impl_DeedText_is _ _ _ k (by omega), Option.bind_some]
    by_cases hn : (deedP x.f0 x.f1 x.f2).toList = ([] : List UInt8)
    · rw [if_pos hn, if_pos hn]
    · rw [if_neg hn, if_neg hn, if_pos (by omega), if_pos (by omega), w64s i (by omega), ← ByteArray.append_assoc]
      exact ih (i + 1) k _ hd2 (by omega) (by omega) (by rw [acc_size]; omega)
theorem impl_JournalText_is (l : List S39) (hl : l.length ≤ 1048576) (k : Nat) (hk : l.length + 20 < k) : impl_JournalText.f k l = some (journalP ⟨#[]⟩ l) := by
  unfold impl_JournalText.f
  exact impl_Journal_loop l hl l 0 k _ rfl hk (by omega) (by decide)
theorem spec_Journal_loop (l : List S39) (hl : l.length ≤ 1048576) : ∀ (suf : List S39) (i k : Nat) (acc : ByteArray), l.drop i = suf → suf.length + 20 < k → i ≤ l.length → acc.size ≤ 13 * i → spec_JournalText.l0 k l acc (i : Int) = some (journalP acc suf) := by
  intro suf
  induction suf with
  | nil =>
    intro i k acc hd hk hi ha
    obtain ⟨k, rfl⟩ : ∃ m, k = m + 1 := ⟨k - 1, by omega⟩
    have := drop_nil hd
    simp only [spec_JournalText.l0]
    rw [if_neg (by omega)]; rfl
  | cons x xs ih =>
    intro i k acc hd hk hi ha
    obtain ⟨k, rfl⟩ : ∃ m, k = m + 1 := ⟨k - 1, by omega⟩
    obtain ⟨hlt, hd2, hx⟩ := drop_split hd
    have hs := deedP_size x.f0 x.f1 x.f2
    have e1 : (acc ++ deedP x.f0 x.f1 x.f2).size = acc.size + (deedP x.f0 x.f1 x.f2).size := ByteArray.size_append
    simp only [List.length_cons] at hk
    simp only [spec_JournalText.l0, journalP]
    rw [if_pos (by omega), if_pos (by omega), rd_Deed_nat, hx, spec_DeedText_is _ _ _ k (by omega), Option.bind_some]
    by_cases hn : (deedP x.f0 x.f1 x.f2).toList = ([] : List UInt8)
    · rw [if_pos hn, if_pos hn]
    · rw [if_neg hn, if_neg hn, Option.bind_some, if_pos (by omega), if_pos (by omega), w64s i (by omega)]
      exact ih (i + 1) k _ hd2 (by omega) (by omega) (by rw [acc_size]; omega)
theorem spec_JournalText_is (l : List S39) (hl : l.length ≤ 1048576) (k : Nat) (hk : l.length + 20 < k) : spec_JournalText.f k l = some (journalP ⟨#[]⟩ l) := by
  unfold spec_JournalText.f
  exact spec_Journal_loop l hl l 0 k _ rfl hk (by omega) (by decide)

/-! drawwritten -/
theorem l20Deeds_loop {s : List Int} (hs : ∀ x ∈ s, 0 ≤ x ∧ x ≤ 255) (hl : s.length ≤ 2000) (l : List S84) (hll : l.length ≤ 1000) : ∀ (d k : Nat) (out : List S39) (p : Int), d + 10 ≤ k → 0 ≤ p → p + 10 * d ≤ 600000 → out.length + d ≤ 1000 →
    ∃ r q, spec_l20Deeds.l0 k l out (d : Int) s p = some (r, q) ∧ r.length ≤ 1000 ∧ p ≤ q ∧ q ≤ p + 10 * d := by
  intro d
  induction d with
  | zero =>
    intro k out p hk hp hp2 ho
    obtain ⟨k, rfl⟩ : ∃ m, k = m + 1 := ⟨k - 1, by omega⟩
    simp only [spec_l20Deeds.l0]
    rw [if_neg (by omega)]
    exact ⟨_, _, rfl, by omega, by omega, by omega⟩
  | succ d ih =>
    intro k out p hk hp hp2 ho
    obtain ⟨k, rfl⟩ : ∃ m, k = m + 1 := ⟨k - 1, by omega⟩
    simp only [spec_l20Deeds.l0]
    obtain ⟨kd, a, b, q, e, h1, h2⟩ := l20Deed_ok hs hl k (by omega) p hp (by omega) l hll
    rw [if_pos (by omega), e, Option.bind_some]; dsimp only
    rw [if_pos (by omega), show wrap64 (((d + 1 : Nat) : Int) - 1) = (d : Int) from by rw [w64 (by omega) (by omega)]; omega]
    obtain ⟨r, q2, e2, g1, g2, g3⟩ := ih k (out ++ [⟨kd, a, b⟩]) q (by omega) (by omega) (by omega) (by rw [List.length_append]; simp; omega)
    exact ⟨r, q2, e2, g1, by omega, by omega⟩
theorem l20Deeds_ok {s : List Int} (hs : ∀ x ∈ s, 0 ≤ x ∧ x ≤ 255) (hl : s.length ≤ 2000) (l : List S84) (hll : l.length ≤ 1000) (k : Nat) (hk : 20 ≤ k) (p : Int) (hp : 0 ≤ p) (hp2 : p ≤ 500000) :
    ∃ r q, spec_l20Deeds.f k s p l = some (r, q) ∧ r.length ≤ 1000 ∧ p ≤ q ∧ q ≤ p + 100 := by
  unfold spec_l20Deeds.f
  obtain ⟨v, e, h1, h2, -⟩ := pick_ok (k := k) (by omega) hs hl p hp (by omega) 6
  have h2' := h2 (by omega)
  obtain ⟨n, rfl⟩ := Int.eq_ofNat_of_zero_le h1
  rw [e, Option.bind_some]; dsimp only
  obtain ⟨r, q, e2, g1, g2, g3⟩ := l20Deeds_loop hs hl l hll n k [] (p + 1) (by omega) (by omega) (by omega) (by simp; omega)
  exact ⟨r, q, e2, g1, by omega, by omega⟩
theorem l20Written_loop (L : List S39) (hL : L.length ≤ 1000) (s : List Int) (q : Int) : ∀ (suf : List S39) (i k : Nat) (out : List S39), L.drop i = suf → suf.length + 20 < k → i ≤ L.length → out.length ≤ i →
    ∃ r, spec_l20Written.l0 k out L i s q = some (r, q) ∧ r.length ≤ 1000 := by
  intro suf
  induction suf with
  | nil =>
    intro i k out hd hk hi ho
    obtain ⟨k, rfl⟩ : ∃ m, k = m + 1 := ⟨k - 1, by omega⟩
    have := drop_nil hd
    simp only [spec_l20Written.l0]
    rw [if_neg (by omega)]
    exact ⟨_, rfl, by omega⟩
  | cons x xs ih =>
    intro i k out hd hk hi ho
    obtain ⟨k, rfl⟩ : ∃ m, k = m + 1 := ⟨k - 1, by omega⟩
    obtain ⟨hlt, hd2, hx⟩ := drop_split hd
    simp only [List.length_cons] at hk
    simp only [spec_l20Written.l0]
    rw [if_pos (by omega), if_pos (by omega), rd_Deed_nat, hx, spec_DeedText_is _ _ _ k (by omega), Option.bind_some, w64s i (by omega)]
    split
    · exact ih (i + 1) k out hd2 (by omega) (by omega) (by omega)
    · rw [if_pos (by omega)]
      exact ih (i + 1) k _ hd2 (by omega) (by omega) (by rw [List.length_append]; simp; omega)
theorem l20Written_ok {s : List Int} (hs : ∀ x ∈ s, 0 ≤ x ∧ x ≤ 255) (hl : s.length ≤ 2000) (k : Nat) (hk : 2000 ≤ k) : ∃ r q, spec_l20Written.f k s 0 = some (r, q) ∧ r.length ≤ 1000 ∧ 0 ≤ q ∧ q ≤ 1000 := by
  unfold spec_l20Written.f
  obtain ⟨c, q, e, h1, h2, h3⟩ := l20Customers_ok hs hl 0 (by omega) k (by omega) 0 (by omega) (by omega)
  rw [e, Option.bind_some]; dsimp only
  obtain ⟨L, q2, e2, g1, g2, g3⟩ := l20Deeds_ok hs hl c (by omega) k (by omega) q (by omega) (by omega)
  rw [e2, Option.bind_some]; dsimp only
  obtain ⟨r, e3, g4⟩ := l20Written_loop L g1 s q2 L 0 k [] rfl (by omega) (by omega) (by simp)
  exact ⟨r, q2, e3, g4, by omega, by omega⟩

/-! spoil -/
theorem extract_size (s : ByteArray) (a b : Nat) : (s.extract a b).size = min b s.size - a := ByteArray.size_extract
theorem words_size (v : Int) : (rdOf ByteArray.empty ([(⟨#[]⟩ : ByteArray), (⟨#[48]⟩ : ByteArray), (⟨#[32]⟩ : ByteArray), (⟨#[10]⟩ : ByteArray), (⟨#[45]⟩ : ByteArray), (⟨#[98, 97, 99, 107]⟩ : ByteArray)] : List ByteArray) v).size ≤ 4 := by
  have : ∀ i : Nat, (([(⟨#[]⟩ : ByteArray), (⟨#[48]⟩ : ByteArray), (⟨#[32]⟩ : ByteArray), (⟨#[10]⟩ : ByteArray), (⟨#[45]⟩ : ByteArray), (⟨#[98, 97, 99, 107]⟩ : ByteArray)] : List ByteArray).getD i ByteArray.empty).size ≤ 4 := by
    intro i
    match i with
    | 0 => decide
    | 1 => decide
    | 2 => decide
    | 3 => decide
    | 4 => decide
    | 5 => decide
    | n + 6 => exact Nat.zero_le 4
  exact this v.toNat
/-- The spoiling never panics, and leaves a short text short. -/
theorem spoil_ok {t : List Int} (hs : ∀ x ∈ t, 0 ≤ x ∧ x ≤ 255) (hl : t.length ≤ 2000) (k : Nat) (hk : 1 ≤ k) (p : Int) (hp : 0 ≤ p) (hp2 : p ≤ 100000) (s : ByteArray) (h : s.size ≤ 1000000) :
    ∃ r q, spec_l20Spoil.f k t p s = some (r, q) ∧ r.size ≤ s.size + 4 := by
  unfold spec_l20Spoil.f
  by_cases h0 : (s.size : Int) = 0
  · rw [if_pos h0]
    exact ⟨_, _, rfl, by show 1 ≤ _; omega⟩
  · rw [if_neg h0]
    obtain ⟨v, e1, h1, h2, -⟩ := pick_ok (k := k) hk hs hl p hp (by omega) (s.size : Int)
    have h2' := h2 (by omega)
    rw [e1, Option.bind_some]; dsimp only
    rw [if_pos h1, if_pos (by omega), Option.bind_some]
    obtain ⟨u, e2, g1, g2, -⟩ := pick_ok (k := k) hk hs hl (p + 1) (by omega) (by omega) 6
    have g2' := g2 (by omega)
    have hw := words_size u
    rw [e2, Option.bind_some]; dsimp only
    generalize rdOf ByteArray.empty ([(⟨#[]⟩ : ByteArray), (⟨#[48]⟩ : ByteArray), (⟨#[32]⟩ : ByteArray), (⟨#[10]⟩ : ByteArray), (⟨#[45]⟩ : ByteArray), (⟨#[98, 97, 99, 107]⟩ : ByteArray)] : List ByteArray) u = w at *
    have hv : wrap64 (v + 1) = v + 1 := w64 (by omega) (by omega)
    have z1 := extract_size s 0 v.toNat
    have z2 := extract_size s (v + 1).toNat s.size
    rw [if_pos g1, if_pos (by simp only [List.length_cons, List.length_nil]; omega), if_pos (by omega), hv, if_pos (by omega), if_pos (by omega), if_pos (by rw [ByteArray.size_append]; omega)]
    exact ⟨_, _, rfl, by rw [ByteArray.size_append, ByteArray.size_append]; omega⟩
theorem digs_last (n : Int) (h0 : 0 ≤ n) (h1 : n ≤ 99) (w x : List UInt8) (h : x ++ [32] = w ++ 32 :: digs n) : False := by
  have hn : digs n ≠ [] := by unfold digs; split <;> simp
  have e1 : (x ++ [32]).getLast? = some 32 := by simp
  rw [h, show w ++ 32 :: digs n = (w ++ [32] ++ (digs n).dropLast) ++ [(digs n).getLast hn] from by rw [List.append_assoc, List.dropLast_concat_getLast hn]; simp, List.getLast?_concat] at e1
  exact digs_sp n h0 h1 _ (List.getLast_mem hn) (Option.some.inj e1)
/-- With a space behind it a text is none. -/
theorem read_more (s : ByteArray) : (readP (s ++ (⟨#[32]⟩ : ByteArray))).2.2.2 = false := by
  have hd : (s ++ (⟨#[32]⟩ : ByteArray)).data.toList = s.data.toList ++ [32] := by simp
  rcases read_cases (s ++ (⟨#[32]⟩ : ByteArray)) with ⟨kind, a, b, h, h0, -⟩ | ⟨-, h⟩
  · exfalso
    rcases deedP_cases h h0 with ⟨-, ha, hb, e⟩ | ⟨-, ha, -, e⟩ | ⟨-, ha, -, e⟩ | ⟨-, -, -, e⟩ | ⟨-, -, -, e⟩
    · rw [e, strP_list] at hd
      exact digs_last b hb.1 hb.2 ([99, 111, 109, 101] ++ 32 :: digs a) s.data.toList (by rw [← hd]; simp)
    · rw [e, strP_list] at hd
      exact digs_last a ha.1 ha.2 _ s.data.toList hd.symm
    · rw [e, strP_list] at hd
      exact digs_last a ha.1 ha.2 _ s.data.toList hd.symm
    · rw [e, strP_list] at hd
      have := congrArg List.getLast? hd
      simp at this
    · rw [e, strP_list] at hd
      have := congrArg List.getLast? hd
      simp at this
  · rw [h]

/-! readjournal -/
/-- A journal is read line by line: deeds so far, where the line began, the line so far, the bytes to come. -/
def jrP (out : List S39) (frm : Nat) (acc : List UInt8) : List UInt8 → List S39 × Nat
  | [] => (out, frm)
  | c :: cs => if c = 10 then (if (readP (strP acc)).2.2.2 = true then jrP (out ++ [⟨(readP (strP acc)).1, (readP (strP acc)).2.1, (readP (strP acc)).2.2.1⟩]) (frm + acc.length + 1) [] cs else (out, frm)) else jrP out frm (acc ++ [c]) cs
theorem jrP_hit : ∀ (w acc rest : List UInt8) (out : List S39) (frm : Nat), (∀ c ∈ w, c ≠ 10) →
    jrP out frm acc (w ++ 10 :: rest) = (if (readP (strP (acc ++ w))).2.2.2 = true then jrP (out ++ [⟨(readP (strP (acc ++ w))).1, (readP (strP (acc ++ w))).2.1, (readP (strP (acc ++ w))).2.2.1⟩]) (frm + (acc ++ w).length + 1) [] rest else (out, frm)) := by
  intro w
  induction w with
  | nil => intro acc rest out frm _; simp [jrP]
  | cons c cs ih =>
    intro acc rest out frm h
    simp only [List.cons_append, jrP]
    rw [if_neg (h c (by simp)), ih _ _ _ _ (fun x hx => h x (by simp [hx])), List.append_assoc, List.singleton_append]
theorem jrP_last : ∀ (w acc : List UInt8) (out : List S39) (frm : Nat), (∀ c ∈ w, c ≠ 10) → jrP out frm acc w = (out, frm) := by
  intro w
  induction w with
  | nil => intro acc out frm _; rfl
  | cons c cs ih =>
    intro acc out frm h
    simp only [jrP]
    rw [if_neg (h c (by simp)), ih _ _ _ (fun x hx => h x (by simp [hx]))]
theorem jrP_size : ∀ (l acc : List UInt8) (out : List S39) (frm : Nat), out.length ≤ frm → (jrP out frm acc l).1.length ≤ (jrP out frm acc l).2 ∧ (jrP out frm acc l).2 ≤ frm + acc.length + l.length := by
  intro l
  induction l with
  | nil => intro acc out frm h; exact ⟨h, by show frm ≤ _; omega⟩
  | cons c cs ih =>
    intro acc out frm h
    simp only [jrP]
    split
    · split
      · have := ih [] (out ++ [⟨(readP (strP acc)).1, (readP (strP acc)).2.1, (readP (strP acc)).2.2.1⟩]) (frm + acc.length + 1) (by rw [List.length_append]; simp; omega)
        simp only [List.length_cons, List.length_nil] at *; omega
      · simp only [List.length_cons]; omega
    · have := ih (acc ++ [c]) out frm h
      simp only [List.length_cons, List.length_append, List.length_nil] at *; omega
theorem split10 : ∀ l : List UInt8, (∃ w rest, l = w ++ 10 :: rest ∧ (∀ c ∈ w, c ≠ 10)) ∨ (∀ c ∈ l, c ≠ 10) := by
  intro l
  induction l with
  | nil => right; simp
  | cons c cs ih =>
    by_cases h : c = 10
    · left; exact ⟨[], cs, by rw [h]; rfl, by simp⟩
    · rcases ih with ⟨w, rest, e, hw⟩ | hw
      · left
        refine ⟨c :: w, rest, by rw [e]; rfl, ?_⟩
        intro x hx
        rcases List.mem_cons.1 hx with rfl | hx
        · exact h
        · exact hw x hx
      · right
        intro x hx
        rcases List.mem_cons.1 hx with rfl | hx
        · exact h
        · exact hw x hx
theorem index10_at (w rest : List UInt8) (h : ∀ c ∈ w, c ≠ 10) : Lib.indexByte (w ++ 10 :: rest) 10 = w.length := by
  induction w with
  | nil => simp [Lib.indexByte]
  | cons c cs ih =>
    have h1 := h c (by simp)
    have h2 := ih (fun x hx => h x (by simp [hx]))
    simp only [List.cons_append, Lib.indexByte]
    rw [if_neg (by simpa using h1), h2, if_neg (by simp)]
    simp
theorem index10_no (w : List UInt8) (h : ∀ c ∈ w, c ≠ 10) : Lib.indexByte w 10 = -1 := by
  induction w with
  | nil => rfl
  | cons c cs ih =>
    simp only [Lib.indexByte]
    rw [if_neg (by simp [h c (by simp)]), ih (fun x hx => h x (by simp [hx]))]
    rfl
theorem cut10_at (w rest : List UInt8) (h : ∀ c ∈ w, c ≠ 10) : Lib.cut (w ++ 10 :: rest) [10] = (w, rest, true) := by
  have e : Lib.index (w ++ 10 :: rest) [10] = w.length := (Lib.index_one _ 10).trans (index10_at w rest h)
  unfold Lib.cut
  rw [e, if_pos (by omega), Int.toNat_natCast]
  simp
theorem cut10_no (w : List UInt8) (h : ∀ c ∈ w, c ≠ 10) : Lib.cut w [10] = (w, [], false) := by
  have e : Lib.index w [10] = -1 := (Lib.index_one _ 10).trans (index10_no w h)
  unfold Lib.cut
  rw [e, if_neg (by omega)]
theorem impl_ReadJournal_loop (s : ByteArray) (hs : s.size ≤ 1048577) : ∀ (n frm k : Nat) (out : List S39), s.size - frm ≤ n → n + 10 < k → frm ≤ s.size → out.length ≤ frm →
    impl_ReadJournal.l0 k s out frm = some ((jrP out frm [] (s.data.toList.drop frm)).1, ((jrP out frm [] (s.data.toList.drop frm)).2 : Int)) := by
  have hsz : s.data.toList.length = s.size := by rw [Array.length_toList]; rfl
  intro n
  induction n with
  | zero =>
    intro frm k out hn hk hf ho
    obtain ⟨k, rfl⟩ : ∃ m, k = m + 1 := ⟨k - 1, by omega⟩
    have ez : (s.data.toList.drop frm) = [] := List.drop_eq_nil_iff.2 (by omega)
    have ex : s.extract frm s.size = strP [] := by rw [extract_str, ez, List.take_nil]
    simp only [impl_ReadJournal.l0]
    rw [if_pos (by omega), if_pos (by omega), Int.toNat_natCast, ex, ez]
    unfold strings_Cut.f
    rw [if_pos (by rw [strP_size]; simp), Option.bind_some, strP_list, show ((⟨#[10]⟩ : ByteArray)).data.toList = [10] from rfl, cut10_no [] (by simp)]
    dsimp only
    rw [impl_ReadDeed_is _ (by show 0 ≤ _; omega) k (by omega), Option.bind_some, if_neg (by simp)]
    rfl
  | succ n ih =>
    intro frm k out hn hk hf ho
    obtain ⟨k, rfl⟩ : ∃ m, k = m + 1 := ⟨k - 1, by omega⟩
    have hdl : (s.data.toList.drop frm).length = s.size - frm := by rw [List.length_drop]; omega
    have ex : s.extract frm s.size = strP (s.data.toList.drop frm) := by rw [extract_str, List.take_of_length_le (by omega)]
    simp only [impl_ReadJournal.l0]
    rw [if_pos (by omega), if_pos (by omega), Int.toNat_natCast, ex]
    unfold strings_Cut.f
    rw [if_pos (by rw [strP_size]; omega), Option.bind_some, strP_list, show ((⟨#[10]⟩ : ByteArray)).data.toList = [10] from rfl]
    dsimp only
    rcases split10 (s.data.toList.drop frm) with ⟨w, rest, e, hw⟩ | hw
    · have hwl : w.length + rest.length + 1 = s.size - frm := by rw [← hdl, e]; simp; omega
      rw [e, cut10_at w rest hw, jrP_hit w [] rest out frm hw, List.nil_append]
      dsimp only
      rw [show (⟨w.toArray⟩ : ByteArray) = strP w from rfl, impl_ReadDeed_is _ (by rw [strP_size]; omega) k (by omega), Option.bind_some, if_pos rfl]
      by_cases h2 : (readP (strP w)).2.2.2 = true
      · have er : s.data.toList.drop (frm + w.length + 1) = rest := by
          rw [show frm + w.length + 1 = frm + (w.length + 1) from by omega, ← List.drop_drop, e, show w ++ 10 :: rest = (w ++ [10]) ++ rest from by simp, List.drop_left' (by simp)]
        have p1 := ih (frm + w.length + 1) k (out ++ [⟨(readP (strP w)).1, (readP (strP w)).2.1, (readP (strP w)).2.2.1⟩]) (by omega) (by omega) (by omega) (by rw [List.length_append]; simp; omega)
        have hol : out.length < 5864062014805 := by omega
        have ew : wrap64 ((frm : Int) + wrap64 (((strP w).size : Int) + 1)) = ((frm + w.length + 1 : Nat) : Int) := by
          rw [strP_size, w64 (x := (w.length : Int) + 1) (by omega) (by omega), w64 (by omega) (by omega)]; omega
        rw [if_pos h2, if_pos h2, if_pos hol, ew, p1, er]
      · rw [if_neg h2, if_neg h2]
    · rw [cut10_no _ hw, jrP_last _ [] out frm hw]
      dsimp only
      rw [show (⟨(s.data.toList.drop frm).toArray⟩ : ByteArray) = strP (s.data.toList.drop frm) from rfl, impl_ReadDeed_is _ (by rw [strP_size]; omega) k (by omega), Option.bind_some, if_neg (by simp)]
theorem impl_ReadJournal_is (s : ByteArray) (hs : s.size ≤ 1048577) (k : Nat) (hk : s.size + 10 < k) : impl_ReadJournal.f k s = some ((jrP [] 0 [] s.data.toList).1, ((jrP [] 0 [] s.data.toList).2 : Int)) := by
  unfold impl_ReadJournal.f
  have := impl_ReadJournal_loop s hs s.size 0 k [] (by omega) (by omega) (by omega) (by simp)
  rw [show ((0 : Nat) : Int) = 0 from rfl] at this
  rw [this]; rfl

/-! readjournal_spec -/
theorem of10 (c : UInt8) : ((c.toNat : Int) = 10) ↔ c = 10 := by
  constructor
  · intro h
    apply UInt8.toNat_inj.1
    have : c.toNat = 10 := by omega
    rw [this]; rfl
  · intro h; rw [h]; rfl
theorem spec_ReadJournal_loop (s : ByteArray) (hs : s.size ≤ 1048577) : ∀ (suf : List UInt8) (i frm k : Nat) (out : List S39), s.data.toList.drop i = suf → suf.length + s.size + 50 < k → i ≤ s.size → frm ≤ i → out.length ≤ frm →
    spec_ReadJournal.l0 k s out frm i = some ((jrP out frm ((s.data.toList.drop frm).take (i - frm)) suf).1, ((jrP out frm ((s.data.toList.drop frm).take (i - frm)) suf).2 : Int)) := by
  have hsz : s.data.toList.length = s.size := by rw [Array.length_toList]; rfl
  intro suf
  induction suf with
  | nil =>
    intro i frm k out hd hk hi hf ho
    obtain ⟨k, rfl⟩ : ∃ m, k = m + 1 := ⟨k - 1, by omega⟩
    have := drop_nil hd
    simp only [spec_ReadJournal.l0]
    rw [if_neg (by omega)]
    rfl
  | cons c cs ih =>
    intro i frm k out hd hk hi hf ho
    obtain ⟨k, rfl⟩ : ∃ m, k = m + 1 := ⟨k - 1, by omega⟩
    obtain ⟨hlt, hd2, hx⟩ := drop_split hd
    simp only [List.length_cons] at hk
    simp only [spec_ReadJournal.l0]
    rw [if_pos (by omega), if_pos (by omega), bt_nat s i (by omega), hx 0, w64s i (by omega)]
    simp only [jrP]
    by_cases h : c = 10
    · have hal : ((s.data.toList.drop frm).take (i - frm)).length = i - frm := by rw [List.length_take, List.length_drop]; omega
      have hlz : (strP ((s.data.toList.drop frm).take (i - frm))).size ≤ s.size := by rw [strP_size, hal]; omega
      rw [if_pos ((of10 c).2 h), if_pos (by omega), if_pos (by omega), if_pos (by omega), Int.toNat_natCast, Int.toNat_natCast, extract_str, spec_ReadDeed_is _ (by omega) k (by omega), Option.bind_some, if_pos h]
      by_cases h2 : (readP (strP ((s.data.toList.drop frm).take (i - frm)))).2.2.2 = true
      · rw [if_pos h2, if_pos h2, if_pos (by omega), ih (i + 1) (i + 1) k _ hd2 (by omega) (by omega) (by omega) (by rw [List.length_append]; simp; omega), hal]
        rw [show frm + (i - frm) + 1 = i + 1 from by omega]
        simp
      · rw [if_neg h2, if_neg h2]
    · rw [if_neg (fun e => h ((of10 c).1 e)), if_neg h, ih (i + 1) frm k out hd2 (by omega) (by omega) (by omega) (by omega)]
      have e : List.take (i + 1 - frm) (List.drop frm s.data.toList) = List.take (i - frm) (List.drop frm s.data.toList) ++ [c] := by
        rw [show i + 1 - frm = (i - frm) + 1 from by omega, List.take_succ_eq_append_getElem (by rw [List.length_drop]; omega)]
        congr 1
        have e1 := hx 0
        rw [getD_lt hlt] at e1
        rw [List.getElem_drop, ← e1]
        congr 2
        omega
      rw [e]
theorem spec_ReadJournal_is (s : ByteArray) (hs : s.size ≤ 1048577) (k : Nat) (hk : 2 * s.size + 50 < k) : spec_ReadJournal.f k s = some ((jrP [] 0 [] s.data.toList).1, ((jrP [] 0 [] s.data.toList).2 : Int)) := by
  have hsz : s.data.toList.length = s.size := by rw [Array.length_toList]; rfl
  unfold spec_ReadJournal.f
  have := spec_ReadJournal_loop s hs s.data.toList 0 0 k [] rfl (by omega) (by omega) (by omega) (by simp)
  rw [show ((0 : Nat) : Int) = 0 from rfl] at this
  rw [this]; rfl

/-! jrtext -/
def textL : List S39 → List UInt8
  | [] => []
  | d :: ds => (deedP d.f0 d.f1 d.f2).data.toList ++ 10 :: textL ds
theorem toList_nil_iff (s : ByteArray) : s.toList = ([] : List UInt8) ↔ s = ⟨#[]⟩ := by
  rw [← toList_iff]; exact ⟨fun e => e.trans empty_toList.symm, fun e => e.trans empty_toList⟩
theorem journalP_text : ∀ (l : List S39) (acc : ByteArray), journalP acc l = ⟨#[]⟩ ∨ ((∀ d ∈ l, deedP d.f0 d.f1 d.f2 ≠ ⟨#[]⟩) ∧ (journalP acc l).data.toList = acc.data.toList ++ textL l) := by
  intro l
  induction l with
  | nil => intro acc; right; exact ⟨by simp, by simp [journalP, textL]⟩
  | cons d ds ih =>
    intro acc
    simp only [journalP]
    by_cases h : (deedP d.f0 d.f1 d.f2).toList = ([] : List UInt8)
    · rw [if_pos h]; left; rfl
    · rw [if_neg h]
      rcases ih ((acc ++ deedP d.f0 d.f1 d.f2) ++ (⟨#[10]⟩ : ByteArray)) with e | ⟨h1, e⟩
      · left; exact e
      · right
        refine ⟨?_, ?_⟩
        · intro x hx
          rcases List.mem_cons.1 hx with rfl | hx
          · exact fun e => h ((toList_nil_iff _).2 e)
          · exact h1 x hx
        · rw [e]; simp [textL]
theorem deed_no10 (kind a b : Int) (h : deedP kind a b ≠ ⟨#[]⟩) : ∀ c ∈ (deedP kind a b).data.toList, c ≠ 10 := by
  have hn : ∀ n : Int, 0 ≤ n → n ≤ 99 → ∀ c ∈ digs n, c ≠ 10 := by
    intro n h0 h1 c hc e
    have := digs_no n h0 h1 c hc
    rw [e] at this
    exact absurd this.1 (by decide)
  rcases deedP_cases rfl h with ⟨-, ha, hb, e⟩ | ⟨-, ha, -, e⟩ | ⟨-, ha, -, e⟩ | ⟨-, -, -, e⟩ | ⟨-, -, -, e⟩ <;> rw [e, strP_list] <;> intro c hc
  · have h1 := hn a ha.1 ha.2 c
    have h2 := hn b hb.1 hb.2 c
    simp only [List.mem_append, List.mem_cons, List.not_mem_nil, or_false] at hc
    rcases hc with (rfl | rfl | rfl | rfl) | rfl | hc | rfl | hc
    · decide
    · decide
    · decide
    · decide
    · decide
    · exact h1 hc
    · decide
    · exact h2 hc
  · have h1 := hn a ha.1 ha.2 c
    simp only [List.mem_append, List.mem_cons, List.not_mem_nil, or_false] at hc
    rcases hc with (rfl | rfl | rfl | rfl) | rfl | hc
    · decide
    · decide
    · decide
    · decide
    · decide
    · exact h1 hc
  · have h1 := hn a ha.1 ha.2 c
    simp only [List.mem_append, List.mem_cons, List.not_mem_nil, or_false] at hc
    rcases hc with (rfl | rfl | rfl | rfl | rfl) | rfl | hc
    · decide
    · decide
    · decide
    · decide
    · decide
    · decide
    · exact h1 hc
  · simp only [List.mem_cons, List.not_mem_nil, or_false] at hc
    rcases hc with rfl | rfl <;> decide
  · simp only [List.mem_cons, List.not_mem_nil, or_false] at hc
    rcases hc with rfl | rfl | rfl | rfl <;> decide
theorem jrP_text : ∀ (l out : List S39) (frm : Nat), (∀ d ∈ l, deedP d.f0 d.f1 d.f2 ≠ ⟨#[]⟩) → jrP out frm [] (textL l) = (out ++ l, frm + (textL l).length) := by
  intro l
  induction l with
  | nil => intro out frm _; simp [jrP, textL]
  | cons d ds ih =>
    intro out frm h
    have h0 := h d (by simp)
    simp only [textL]
    rw [jrP_hit _ _ _ _ _ (deed_no10 _ _ _ h0), List.nil_append, strP_eq, read_text rfl h0, if_pos rfl, ih _ _ (fun x hx => h x (by simp [hx]))]
    simp only [List.append_assoc, List.singleton_append, List.length_append, List.length_cons]
    congr 1
    omega
theorem sameDeeds_loop (a : List S39) (ha : a.length ≤ 1048577) : ∀ (suf : List S39) (i k : Nat), a.drop i = suf → suf.length < k → laws_sameDeeds.l0 k a a i = some true := by
  intro suf
  induction suf with
  | nil =>
    intro i k hd hk
    obtain ⟨k, rfl⟩ : ∃ m, k = m + 1 := ⟨k - 1, by omega⟩
    have := drop_nil hd
    simp only [laws_sameDeeds.l0]
    rw [if_neg (by omega)]
  | cons x xs ih =>
    intro i k hd hk
    obtain ⟨k, rfl⟩ : ∃ m, k = m + 1 := ⟨k - 1, by omega⟩
    obtain ⟨hlt, hd2, hx⟩ := drop_split hd
    simp only [laws_sameDeeds.l0]
    rw [if_pos (by omega), if_pos (by omega), if_pos (by omega), if_neg (by simp), w64s i (by omega), ih (i + 1) k hd2 (by simp at hk; omega)]
theorem sameDeeds_is (a : List S39) (ha : a.length ≤ 1048577) (k : Nat) (hk : a.length < k) : laws_sameDeeds.f k a a = some true := by
  unfold laws_sameDeeds.f
  rw [if_pos rfl]
  exact sameDeeds_loop a ha a 0 k rfl hk
theorem journalP_size : ∀ (l : List S39) (acc : ByteArray), (journalP acc l).size ≤ acc.size + 13 * l.length := by
  intro l
  induction l with
  | nil => intro acc; simp [journalP]
  | cons d ds ih =>
    intro acc
    simp only [journalP]
    have hd := deedP_size d.f0 d.f1 d.f2
    split
    · show 0 ≤ _; omega
    · have := ih ((acc ++ deedP d.f0 d.f1 d.f2) ++ (⟨#[10]⟩ : ByteArray))
      rw [acc_size] at this
      simp only [List.length_cons]; omega

/-! jrprefix -/
theorem textL_append : ∀ a b : List S39, textL (a ++ b) = textL a ++ textL b := by
  intro a b
  induction a with
  | nil => rfl
  | cons x xs ih => simp only [List.cons_append, textL, ih, List.append_assoc]
theorem jrP_ext : ∀ (l acc : List UInt8) (out : List S39) (frm : Nat), ∃ t, (jrP out frm acc l).1 = out ++ t := by
  intro l
  induction l with
  | nil => intro acc out frm; exact ⟨[], by simp [jrP]⟩
  | cons c cs ih =>
    intro acc out frm
    simp only [jrP]
    split
    · split
      · obtain ⟨t, e⟩ := ih [] (out ++ [⟨(readP (strP acc)).1, (readP (strP acc)).2.1, (readP (strP acc)).2.2.1⟩]) (frm + acc.length + 1)
        exact ⟨_ :: t, by rw [e, List.append_assoc, List.singleton_append]⟩
      · exact ⟨[], by simp⟩
    · exact ih _ _ _
/-- Of a beginning of the text the first deeds are read. -/
theorem jrP_pre : ∀ (l acc : List UInt8) (out : List S39) (frm m : Nat), ∃ t, (jrP out frm acc l).1 = (jrP out frm acc (l.take m)).1 ++ t := by
  intro l
  induction l with
  | nil => intro acc out frm m; exact ⟨[], by simp [jrP]⟩
  | cons c cs ih =>
    intro acc out frm m
    cases m with
    | zero => exact jrP_ext (c :: cs) acc out frm
    | succ m =>
      simp only [List.take_succ_cons, jrP]
      split
      · split
        · exact ih _ _ _ _
        · exact ⟨[], by simp⟩
      · exact ih _ _ _ _
/-- What was read is the text of the deeds. -/
theorem jrP_back : ∀ (l acc pre : List UInt8) (out : List S39) (frm : Nat), pre.length = frm → textL out = pre → (∀ d ∈ out, deedP d.f0 d.f1 d.f2 ≠ ⟨#[]⟩) →
    textL (jrP out frm acc l).1 = (pre ++ acc ++ l).take (jrP out frm acc l).2 ∧ (∀ d ∈ (jrP out frm acc l).1, deedP d.f0 d.f1 d.f2 ≠ ⟨#[]⟩) := by
  intro l
  induction l with
  | nil =>
    intro acc pre out frm hp ht hd
    exact ⟨by show textL out = (pre ++ acc ++ []).take frm; rw [List.append_nil, ← hp, List.take_left', ht]; rfl, hd⟩
  | cons c cs ih =>
    intro acc pre out frm hp ht hd
    simp only [jrP]
    by_cases hc : c = 10
    · rw [if_pos hc]
      by_cases hr : (readP (strP acc)).2.2.2 = true
      · rw [if_pos hr]
        rcases read_cases (strP acc) with ⟨kind, a, b, e1, e2, e3⟩ | ⟨_, e3⟩
        · rw [e3]
          dsimp only
          have h := ih [] (pre ++ acc ++ [10]) (out ++ [⟨kind, a, b⟩]) (frm + acc.length + 1) (by simp; omega) (by rw [textL_append, ht]; simp [textL, e1, strP_list]) (fun d hd' => by
            rcases List.mem_append.1 hd' with h | h
            · exact hd d h
            · rw [List.mem_singleton.1 h]; show deedP kind a b ≠ ⟨#[]⟩; rw [e1]; exact e2)
          rw [hc]
          simpa using h
        · rw [e3] at hr; simp at hr
      · rw [if_neg hr]
        exact ⟨by show textL out = (pre ++ acc ++ c :: cs).take frm; rw [List.append_assoc, ← hp, List.take_left', ht]; rfl, hd⟩
    · rw [if_neg hc]
      have h := ih (acc ++ [c]) pre out frm hp ht hd
      simpa using h

/-! linerun -/
/-- A desk after lines that are deeds. -/
def lineG : List (Int × Int × Int) → List S84 → List (List S84) → List S84 × List (List S84)
  | [], now, past => (now, past)
  | d :: ds, now, past => lineG ds (deskDoG now past d.1 d.2.1 d.2.2).1 (deskDoG now past d.1 d.2.1 d.2.2).2.1
theorem deskDoG_not (now : List S84) (past : List (List S84)) (kd a b : Int) (h : deskOk now past = true) (hf : (deskDoG now past kd a b).2.2 = false) : deskDoG now past kd a b = (now, past, false) := by
  unfold deskDoG at *
  rw [if_pos h] at *
  by_cases hb : (kd = 4 ∧ a = 0 ∧ b = 0) ∧ 0 < past.length
  · rw [if_pos hb] at hf; cases hf
  · rw [if_neg hb] at *
    by_cases hm : (madeP now kd a b).2 = true
    · rw [if_pos hm] at hf; cases hf
    · rw [if_neg hm]
theorem lineG_is : ∀ (ds : List (Int × Int × Int)) (now : List S84) (past : List (List S84)) (n : Int), deskOk now past = true → lineG ds now past = ((runG ds now past n).1, (runG ds now past n).2.1) := by
  intro ds
  induction ds with
  | nil => intro now past n _; rfl
  | cons d ds ih =>
    intro now past n h
    have hok := deskDoG_ok now past d.1 d.2.1 d.2.2 h
    simp only [lineG, runG]
    by_cases hb : (deskDoG now past d.1 d.2.1 d.2.2).2.2 = true
    · rw [if_pos hb]; exact ih _ _ _ hok
    · rw [if_neg hb, deskDoG_not now past d.1 d.2.1 d.2.2 h (Bool.eq_false_iff.mpr hb)]
      exact ih _ _ _ h

/-! law_ReadJournal -/
theorem lines_is (k : Nat) (hk : 6000000 ≤ k) : ∀ (ds : List S39) (now : List S84) (past : List (List S84)), deskOk now past = true → (∀ d ∈ ds, deedP d.f0 d.f1 d.f2 ≠ ⟨#[]⟩) → laws_FnReadJournal.lines k ds now past = some (lineG (ds.map tri) now past) := by
  intro ds
  induction ds with
  | nil => intro now past _ _; rfl
  | cons d ds ih =>
    intro now past h hd
    obtain ⟨z1, z2, z3⟩ := deskOk_small h
    have hz3 : ∀ x ∈ past, x.length ≤ 1048576 := fun x hx => by have := z3 x hx; omega
    have h0 := hd d (by simp)
    have hsz := deedP_size d.f0 d.f1 d.f2
    have hok := deskDoG_ok now past d.f0 d.f1 d.f2 h
    have hl : impl_DeskLine.f k now past (deedP d.f0 d.f1 d.f2) = some ((deskDoG now past d.f0 d.f1 d.f2).1, (deskDoG now past d.f0 d.f1 d.f2).2.1, if (deskDoG now past d.f0 d.f1 d.f2).2.2 = true then (⟨#[111, 107]⟩ : ByteArray) else ⟨#[110, 111, 116]⟩) := by
      unfold impl_DeskLine.f
      rw [impl_DeskOk_is now past (by omega) (by omega) hz3 k (by omega), Option.bind_some, if_pos h, impl_ReadDeed_is _ (by omega) k (by omega), Option.bind_some, read_text rfl h0]
      dsimp only
      rw [if_pos rfl, implDo_all now past (by omega) (by omega) hz3 _ _ _ k hk, Option.bind_some]
    simp only [laws_FnReadJournal.lines, List.map_cons, lineG]
    rw [impl_DeedText_is _ _ _ k (by omega), Option.bind_some, hl, Option.bind_some]
    dsimp only
    rw [if_pos (by split; · exact .inl rfl
                   · exact .inr rfl)]
    exact ih _ _ hok (fun x hx => hd x (by simp [hx]))
theorem journalP_good : ∀ (l : List S39) (acc : ByteArray), (∀ d ∈ l, deedP d.f0 d.f1 d.f2 ≠ ⟨#[]⟩) → (journalP acc l).data.toList = acc.data.toList ++ textL l := by
  intro l
  induction l with
  | nil => intro acc _; simp [journalP, textL]
  | cons d ds ih =>
    intro acc h
    have h0 := h d (by simp)
    simp only [journalP]
    rw [if_neg (fun e => h0 ((toList_nil_iff _).1 e)), ih _ (fun x hx => h x (by simp [hx]))]
    simp [textL]
theorem extract_list (s : ByteArray) (j : Nat) : (s.extract 0 j).data.toList = s.data.toList.take j := by
  simp
theorem bytes_ext {a b : ByteArray} (h : a.data.toList = b.data.toList) : a = b := ByteArray.ext (Array.toList_inj.1 h)
theorem drawJournal_ok (K : Nat) (hK : K = 9000000) (l0 : List Int) (hb : ∀ x ∈ l0, (Lit.int .u8 x).wf = true) : ∃ s, spec_DrawReadJournal.f K l0 = some s ∧ s.size ≤ 1000000 := by
  unfold spec_DrawReadJournal.f
  obtain ⟨s, e0, hs, hls⟩ := open_ok (bytes_of hb)
  rw [e0, Option.bind_some]; dsimp only
  obtain ⟨r, q, e, h1, h2, h3⟩ := l20Written_ok hs hls K (by omega)
  rw [e, Option.bind_some]; dsimp only
  rw [spec_JournalText_is r (by omega) K (by omega), Option.bind_some]
  have hz := journalP_size r ⟨#[]⟩
  have hz0 : (⟨#[]⟩ : ByteArray).size = 0 := rfl
  obtain ⟨v, e2, g1, g2, -⟩ := pick_ok (k := K) (by omega) hs hls q h2 (by omega) 3
  rw [e2, Option.bind_some]; dsimp only
  obtain ⟨t, q2, e3, f1⟩ := spoil_ok hs hls K (by omega) (q + 1) (by omega) (by omega) (journalP ⟨#[]⟩ r) (by omega)
  have hw : wrap64 (((journalP ⟨#[]⟩ r).size : Int) + 1) = ((journalP ⟨#[]⟩ r).size : Int) + 1 := w64 (by omega) (by omega)
  obtain ⟨v2, e4, i1, i2, -⟩ := pick_ok (k := K) (by omega) hs hls (q + 1) (by omega) (by omega) (((journalP ⟨#[]⟩ r).size : Int) + 1)
  have i3 := i2 (by omega)
  by_cases c0 : v = 0
  · rw [if_pos c0, e3, Option.bind_some]
    exact ⟨_, rfl, by dsimp only; omega⟩
  · rw [if_neg c0]
    by_cases c1 : v = 1
    · rw [if_pos c1, hw, e4, Option.bind_some]; dsimp only
      rw [if_pos i1, if_pos (by omega)]
      exact ⟨_, rfl, by rw [ByteArray.size_extract]; omega⟩
    · rw [if_neg c1]
      exact ⟨_, rfl, by omega⟩
theorem drawRun_ok (K : Nat) (hK : K = 9000000) (l1 : List Int) (hb2 : ∀ x ∈ l1, (Lit.int .u8 x).wf = true) : ∃ now past ds, spec_DrawDeskRun.f K l1 = some (now, past, ds) ∧ now.length ≤ 200 ∧ (∀ x ∈ past, x.length ≤ 200) ∧ past.length ≤ 6 := by
  unfold spec_DrawDeskRun.f
  obtain ⟨s, e0, hs, hls⟩ := open_ok (bytes_of hb2)
  rw [e0, Option.bind_some]; dsimp only
  obtain ⟨now, past, q, e, h1, h2, h3, h4, h5⟩ := l20Desk_ok hs hls 12 (by omega) K (by omega)
  rw [e, Option.bind_some]; dsimp only
  obtain ⟨o, q2, e2, g1, g2, -⟩ := odd_ok (k := K) (by omega) hs hls q h4 (by omega) 30 (by omega)
  rw [e2, Option.bind_some]; dsimp only
  by_cases ho : o = true
  · rw [if_pos ho, if_pos (by omega)]
    exact ⟨_, _, _, rfl, h1, h2, h3⟩
  · rw [if_neg ho]
    obtain ⟨r, q3, e4, -⟩ := l20Deeds_ok hs hls now (by omega) K (by omega) q2 (by omega) (by omega)
    rw [e4, Option.bind_some]
    exact ⟨_, _, _, rfl, h1, h2, h3⟩
theorem FnReadJournal : laws_FnReadJournal.Pure := by
  intro l0 l1 hl hl2 hb hm hm2 hb2
  obtain ⟨K, hK⟩ : ∃ K, K = 9000000 := ⟨_, rfl⟩
  refine ⟨K, ?_⟩
  by_cases hbig : 1048576 < l0.length
  · exact .inl hbig
  refine .inr ?_
  by_cases hbig2 : 1048576 < l1.length
  · exact .inl hbig2
  refine .inr ?_
  obtain ⟨s, hs, hz⟩ := drawJournal_ok K hK l0 hb
  obtain ⟨now, past, ds, hD, h1, h2, h3⟩ := drawRun_ok K hK l1 hb2
  have hm' : ∀ x ∈ past, x.length ≤ 1048576 := fun x hx => by have := h2 x hx; omega
  have hsz : s.data.toList.length = s.size := by rw [Array.length_toList]; rfl
  have hj := jrP_size s.data.toList [] [] 0 (by simp)
  simp only [List.length_nil] at hj
  obtain ⟨b1, b2⟩ := jrP_back s.data.toList [] [] [] 0 rfl rfl (fun d h => by cases h)
  have hpre := fun m => jrP_pre s.data.toList [] [] 0 m
  have iR := impl_ReadJournal_is s (by omega) K (by omega)
  have sR := spec_ReadJournal_is s (by omega) K (by omega)
  generalize (jrP [] 0 [] s.data.toList).1 = L at *
  generalize (jrP [] 0 [] s.data.toList).2 = n at *
  have hL : L.length ≤ 1000001 := by omega
  have hjt := journalP_good L ⟨#[]⟩ b2
  refine ⟨s, L, (n : Int), now, past, ds, deskOk now past, (lineG (L.map tri) now past).1, (lineG (L.map tri) now past).2, (deskRunP now past L).1, (deskRunP now past L).2.1, (deskRunP now past L).2.2, journalP ⟨#[]⟩ L, ?_⟩
  obtain ⟨s1, s2, s3⟩ := deskRunP_small now past L
  have s3' : ∀ x ∈ (deskRunP now past L).2.1, x.length ≤ 1048576 := fun x hx => by have := s3 x hx; omega
  exact {
    hs := hs
    hz := hz
    hL := iR
    hW := sR
    hq := sameDeeds_is L (by omega) K (by omega)
    hc := fun j hj' => by
      obtain ⟨t, ht⟩ := hpre j
      have hez : (s.extract 0 j).size ≤ s.size := by rw [ByteArray.size_extract]; omega
      have i2 := impl_ReadJournal_is (s.extract 0 j) (by omega) K (by omega)
      rw [extract_list] at i2
      have i3 := jrP_size (s.data.toList.take j) [] [] 0 (by simp)
      have i4 : (s.data.toList.take j).length ≤ j := by rw [List.length_take]; omega
      simp only [List.length_nil] at i3
      refine ⟨_, _, i2, ?_, by omega, ?_⟩
      · rw [ht, List.length_append]; omega
      · rw [ht, List.take_left' rfl]
        exact sameDeeds_is _ (by omega) K (by omega)
    hD := hD
    ho := spec_DeskOk_is now past (by omega) (by omega) hm' K (by omega)
    hl := fun h => lines_is K (by omega) L now past h b2
    hx := implRun_is now past (by omega) (by omega) hm' L K (by omega)
    h0 := by omega
    hn := by omega
    hJ := impl_JournalText_is L (by omega) K (by omega)
    ht := by
      refine congrArg ByteArray.toList (bytes_ext ?_)
      rw [hjt, extract_list, b1]
      simp
    hS := fun h h40 => by
      have hR : deskRunP now past L = runG (L.map tri) now past 0 := by unfold deskRunP; rw [if_pos ⟨h, h40⟩]
      have hG := lineG_is (L.map tri) now past 0 h
      have hG1 : (lineG (L.map tri) now past).1 = (runG (L.map tri) now past 0).1 := by rw [hG]
      have hG2 : (lineG (L.map tri) now past).2 = (runG (L.map tri) now past 0).2.1 := by rw [hG]
      rw [hR] at s1 s2 s3' ⊢
      rw [hG1, hG2]
      exact sameDesk_is _ _ (by omega) (by omega) s3' K (by omega)
    ha := alive_is K (by omega) }

end Go.Proofs.YtmmoojkhlkjdkaaGreatDoor.Pure
