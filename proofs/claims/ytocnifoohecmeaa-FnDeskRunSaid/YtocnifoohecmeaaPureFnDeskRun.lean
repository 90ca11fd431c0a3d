/- The pure part of the proof of FnDeskRun: the printed functions answer true, for every drawn or given argument within the row's own bounds; no further condition. -/
import Derived.Test.YtocnifoohecmeaaPFnDeskRunx18
import Derived.Laws.BitsLemmas
namespace Go.Proofs.Ytocnifoohecmeaa.Pure
open Go.RowKit Go.Proofs.Ytocnifoohecmeaa.PFnDeskRun Go.Proofs.YtocnifoohecmeaaW.PrintWords Go.Proofs.YtocnifoohecmeaaW.PrintLast Go.Proofs.YtocnifoohecmeaaW.PrintMore
set_option linter.unusedVariables false
set_option linter.unusedSimpArgs false
/-! base -/
theorem w64 {x : Int} (h0 : -9223372036854775808 ≤ x) (h1 : x ≤ 9223372036854775807) : wrap64 x = x := by
  unfold wrap64
  omega
theorem w64s (n : Nat) (h : n ≤ 4611686018427387904) : wrap64 ((n : Int) + 1) = ((n + 1 : Nat) : Int) := by
  unfold wrap64
  omega
theorem drop_split {α : Type} {l : List α} {i : Nat} {x : α} {xs : List α} (h : l.drop i = x :: xs) : i < l.length ∧ l.drop (i + 1) = xs ∧ ∀ d, l.getD i d = x := by
  have hi : i < l.length := by
    have h2 : 0 < (l.drop i).length := by rw [h]; simp
    rw [List.length_drop] at h2
    omega
  rw [List.drop_eq_getElem_cons hi] at h
  injection h with h1 h2
  exact ⟨hi, h2, fun d => by rw [List.getD_eq_getElem?_getD, List.getElem?_eq_getElem hi, h1]; rfl⟩
theorem drop_nil {α : Type} {l : List α} {i : Nat} (h : l.drop i = []) : l.length ≤ i := List.drop_eq_nil_iff.1 h
theorem getD_lt {α : Type} {l : List α} {i : Nat} (h : i < l.length) (d : α) : l.getD i d = l[i] := by
  rw [List.getD_eq_getElem?_getD, List.getElem?_eq_getElem h]; rfl
theorem rd_nat (l : List Int) (i : Nat) : rd l (i : Int) = l.getD i 0 := by
  unfold rd
  rw [Int.toNat_natCast]
theorem getD_mem {α : Type} {l : List α} {i : Nat} (h : i < l.length) (d : α) : l.getD i d ∈ l := by
  rw [getD_lt h]; exact List.getElem_mem h
theorem take_succ_getD {α : Type} {l : List α} {i : Nat} (h : i < l.length) (d : α) : l.take (i + 1) = l.take i ++ [l.getD i d] := by
  rw [getD_lt h, List.take_succ_eq_append_getElem h]
theorem mx_max (a b : Int) : mx a b = max a b := by
  unfold mx; omega
theorem mn_min (a b : Int) : mn a b = min a b := by
  unfold mn; omega
theorem bind_of {α β : Type} {o : Option α} {r : α} {f : α → Option β} {s : Option β} (h : o = some r) (h2 : f r = s) : o.bind f = s := by rw [h]; exact h2
theorem getD_snoc_last {α : Type} (l : List α) (x d : α) {i : Nat} (h : l.length = i) : (l ++ [x]).getD i d = x := by
  subst h
  rw [List.getD_eq_getElem?_getD, List.getElem?_append_right (Nat.le_refl _), Nat.sub_self]
  rfl
theorem getD_snoc_lt {α : Type} (l r : List α) (d : α) {i : Nat} (h : i < l.length) : (l ++ r).getD i d = l.getD i d := by
  rw [List.getD_eq_getElem?_getD, List.getElem?_append_left h, List.getD_eq_getElem?_getD]

/-! pick -/
theorem xor_small (a b : Int) (ha : 0 ≤ a) (ha2 : a < 1099511627776) (hb : 0 ≤ b) (hb2 : b < 1099511627776) : 0 ≤ Go.bits .xor .i64 a b ∧ Go.bits .xor .i64 a b < 1099511627776 := by
  obtain ⟨x, rfl⟩ := Int.eq_ofNat_of_zero_le ha
  obtain ⟨y, rfl⟩ := Int.eq_ofNat_of_zero_le hb
  have hx : x < 2 ^ 40 := by have : (x : Int) < 1099511627776 := ha2; omega
  have hy : y < 2 ^ 40 := by have : (y : Int) < 1099511627776 := hb2; omega
  have hz : x ^^^ y < 2 ^ 40 := Nat.xor_lt_two_pow hx hy
  have e : Go.bits .xor .i64 (x : Int) (y : Int) = ((x ^^^ y : Nat) : Int) := by
    have hx' : x % 2 ^ IntKind.i64.bits = x := Nat.mod_eq_of_lt (Nat.lt_of_lt_of_le hx (Nat.pow_le_pow_right (by decide) (by decide)))
    have hy' : y % 2 ^ IntKind.i64.bits = y := Nat.mod_eq_of_lt (Nat.lt_of_lt_of_le hy (Nat.pow_le_pow_right (by decide) (by decide)))
    simp only [bits, BitVec.ofInt_natCast, BitVec.toNat_xor, BitVec.toNat_ofNat, hx', hy']
    rw [IntKind.wrap_i64]
    omega
  rw [e]
  omega
theorem tmod_in (x n : Int) (hx : 0 ≤ x) (hn : 1 ≤ n) : 0 ≤ Int.tmod x n ∧ Int.tmod x n < n := by
  rw [Int.tmod_eq_emod_of_nonneg hx]
  exact ⟨Int.emod_nonneg _ (by omega), Int.emod_lt_of_pos _ (by omega)⟩
theorem rd_byte {s : List Int} (hs : ∀ x ∈ s, 0 ≤ x ∧ x ≤ 255) (i : Int) : 0 ≤ rd s i ∧ rd s i ≤ 255 := by
  unfold rd
  by_cases h : i.toNat < s.length
  · exact hs _ (getD_mem h 0)
  · rw [List.getD_eq_getElem?_getD, List.getElem?_eq_none (by omega)]; simp
/-- The reader: what it draws lies in 0..n-1, and its place goes on by one. -/
theorem pick_ok {k : Nat} (hk : 1 ≤ k) {s : List Int} (hs : ∀ x ∈ s, 0 ≤ x ∧ x ≤ 255) (hl : s.length ≤ 2000) (p : Int) (hp : 0 ≤ p) (hp2 : p ≤ 1000000) (n : Int) :
    ∃ v, spec_l20Rd_pick.f k s p n = some (v, p + 1) ∧ 0 ≤ v ∧ (1 ≤ n → v < n) ∧ (n < 1 → v = 0) := by
  obtain ⟨k, rfl⟩ : ∃ m, k = m + 1 := ⟨k - 1, by omega⟩
  have hw : wrap64 (p + 1) = p + 1 := w64 (by omega) (by omega)
  unfold spec_l20Rd_pick.f
  by_cases hn : n < 1
  · refine ⟨0, ?_, by omega, by omega, fun _ => rfl⟩
    rw [if_pos hn, hw]
    simp only [spec_l20Rd_pick.j0]
    rw [if_pos trivial]
  · rw [if_neg hn, hw]
    simp only [spec_l20Rd_pick.j0]
    by_cases he : (s.length : Int) = 0
    · refine ⟨0, ?_, by omega, by omega, fun _ => rfl⟩
      rw [if_pos (by simpa using he)]
    · have hpp : wrap64 (p + 1 - 1) = p := by rw [w64 (by omega) (by omega)]; omega
      rw [if_neg (by simpa using he), hpp]
      have hn0 : ¬ n = 0 := by omega
      have hb := fun i => rd_byte hs i
      by_cases hlt : p < (s.length : Int)
      · have hr := hb p
        have hwr : wrap64 (rd s p) = rd s p := w64 (by omega) (by omega)
        rw [if_pos hlt, if_pos hp, if_neg hn0, hwr]
        have ht := tmod_in (rd s p) n hr.1 (by omega)
        exact ⟨_, rfl, ht.1, fun _ => ht.2, fun h => absurd h hn⟩
      · have hL : 1 ≤ (s.length : Int) := by omega
        have e7 : wrap64 (p * 7) = p * 7 := w64 (by omega) (by omega)
        have e73 : wrap64 (p * 7 + 3) = p * 7 + 3 := w64 (by omega) (by omega)
        have t1 := tmod_in p (s.length : Int) hp hL
        have t2 := tmod_in (p * 7 + 3) (s.length : Int) (by omega) hL
        have r1 := hb (Int.tmod p (s.length : Int))
        have r2 := hb (Int.tmod (p * 7 + 3) (s.length : Int))
        rw [if_neg hlt, if_neg he, if_pos t1.1, if_pos t1.2, e7, e73, if_pos t2.1, if_pos t2.2, if_neg hn0]
        generalize rd s (Int.tmod p (s.length : Int)) = a at *
        generalize rd s (Int.tmod (p * 7 + 3) (s.length : Int)) = b at *
        have hq : Int.tdiv p (s.length : Int) = p / (s.length : Int) := Int.tdiv_eq_ediv_of_nonneg hp
        have q0 : 0 ≤ p / (s.length : Int) := Int.ediv_nonneg hp (by omega)
        have q1 : p / (s.length : Int) ≤ p := Int.ediv_le_self _ hp
        rw [hq]
        generalize p / (s.length : Int) = q at *
        have ea : wrap64 a = a := w64 (by omega) (by omega)
        have eb : wrap64 b = b := w64 (by omega) (by omega)
        have ea2 : wrap64 (a * 131) = a * 131 := w64 (by omega) (by omega)
        have eb2 : wrap64 (b * 1117) = b * 1117 := w64 (by omega) (by omega)
        have ep : wrap64 (p * 29) = p * 29 := w64 (by omega) (by omega)
        have eq_ : wrap64 q = q := w64 (by omega) (by omega)
        have eq2 : wrap64 (q * 53) = q * 53 := w64 (by omega) (by omega)
        have e1 : wrap64 (a * 131 + b * 1117) = a * 131 + b * 1117 := w64 (by omega) (by omega)
        have e2 : wrap64 (a * 131 + b * 1117 + p * 29) = a * 131 + b * 1117 + p * 29 := w64 (by omega) (by omega)
        have e3 : wrap64 (a * 131 + b * 1117 + p * 29 + q * 53) = a * 131 + b * 1117 + p * 29 + q * 53 := w64 (by omega) (by omega)
        rw [ea, eb, ea2, eb2, ep, eq_, eq2, e1, e2, e3]
        have hX0 : 0 ≤ a * 131 + b * 1117 + p * 29 + q * 53 := by omega
        have hX1 : a * 131 + b * 1117 + p * 29 + q * 53 < 1099511627776 := by omega
        generalize a * 131 + b * 1117 + p * 29 + q * 53 = X at *
        have hd : Int.tdiv X 64 = X / 64 := Int.tdiv_eq_ediv_of_nonneg hX0
        have ed : wrap64 (X / 64) = X / 64 := w64 (by omega) (by omega)
        rw [hd, ed]
        have hx := xor_small X (X / 64) hX0 hX1 (by omega) (by omega)
        have ht := tmod_in (Go.bits .xor .i64 X (X / 64)) n hx.1 (by omega)
        exact ⟨_, rfl, ht.1, fun _ => ht.2, fun h => absurd h hn⟩
theorem odd_ok {k : Nat} (hk : 1 ≤ k) {s : List Int} (hs : ∀ x ∈ s, 0 ≤ x ∧ x ≤ 255) (hl : s.length ≤ 2000) (p : Int) (hp : 0 ≤ p) (hp2 : p ≤ 1000000) (n : Int) (hn : n ≤ 1000) :
    ∃ b q, spec_l20Rd_odd.f k s p n = some (b, q) ∧ p ≤ q ∧ q ≤ p + 1 ∧ (n ≤ 0 → b = false) := by
  unfold spec_l20Rd_odd.f
  by_cases h : n > 0
  · obtain ⟨v, hv, -⟩ := pick_ok hk hs hl p hp hp2 n
    rw [if_pos h, hv]
    exact ⟨_, _, rfl, by simp only; omega, by simp only; omega, fun hh => by omega⟩
  · rw [if_neg h]
    exact ⟨_, _, rfl, by omega, by omega, fun _ => rfl⟩
theorem open_ok {s : List Int} (hs : ∀ x ∈ s, 0 ≤ x ∧ x ≤ 255) : ∃ t, spec_l20Open.f s = some (t, 0) ∧ (∀ x ∈ t, 0 ≤ x ∧ x ≤ 255) ∧ t.length ≤ 2000 := by
  unfold spec_l20Open.f
  by_cases h : (s.length : Int) > 2000
  · rw [if_pos h, if_pos (by omega)]
    exact ⟨_, rfl, fun x hx => hs x (List.mem_of_mem_take hx), by rw [List.length_take]; omega⟩
  · rw [if_neg h]
    exact ⟨_, rfl, hs, by omega⟩
theorem bytes_of {l : List Int} (h : ∀ x ∈ l, (Lit.int .u8 x).wf = true) : ∀ x ∈ l, 0 ≤ x ∧ x ≤ 255 := by
  intro x hx
  have := h x hx
  simp only [Lit.wf, IntKind.min, IntKind.max, IntKind.signed, IntKind.bits, Bool.and_eq_true, decide_eq_true_eq, Bool.false_eq_true, if_false] at this
  omega

/-! l1in -/
theorem spec_l1In_is (a b c : Int) : spec_l1In.f a b c = some (decide (b ≤ a ∧ a ≤ c)) := by
  unfold spec_l1In.f
  by_cases h : a ≥ b
  · rw [if_pos h]
    congr 1
    apply decide_eq_decide.2
    omega
  · rw [if_neg h]
    congr 1
    symm
    exact decide_eq_false (by omega)

/-! customers_j -/
/-- Customers, as both texts ask: seen from a place on, with the one ahead. -/
def custFrom : Option S50 → List S50 → Bool
  | _, [] => true
  | none, c :: cs => decide (0 ≤ c.f0 ∧ c.f0 ≤ 60 ∧ 1 ≤ c.f1 ∧ c.f1 ≤ 9) && custFrom (some c) cs
  | some p, c :: cs => decide (0 ≤ c.f0 ∧ c.f0 ≤ 60 ∧ 1 ≤ c.f1 ∧ c.f1 ≤ 9 ∧ p.f0 ≤ c.f0) && custFrom (some c) cs
def custOk (l : List S50) : Bool := custFrom none l && decide (l.length ≤ 8)
theorem rd_Customer_nat (l : List S50) (i : Nat) : rd_T50 l (i : Int) = l.getD i z50 := by
  unfold rd_T50
  rw [Int.toNat_natCast]
theorem cust_bad {p : Option S50} {x : S50} {xs : List S50} (h : ¬ (0 ≤ x.f0 ∧ x.f0 ≤ 60 ∧ 1 ≤ x.f1 ∧ x.f1 ≤ 9)) : custFrom p (x :: xs) = false := by
  cases p with
  | none => simp only [custFrom, decide_eq_false h, Bool.false_and]
  | some q => simp only [custFrom, decide_eq_false (show ¬ (0 ≤ x.f0 ∧ x.f0 ≤ 60 ∧ 1 ≤ x.f1 ∧ x.f1 ≤ 9 ∧ q.f0 ≤ x.f0) from fun hh => h ⟨hh.1, hh.2.1, hh.2.2.1, hh.2.2.2.1⟩), Bool.false_and]
theorem cust_bad2 {p x : S50} {xs : List S50} (h : x.f0 < p.f0) : custFrom (some p) (x :: xs) = false := by
  simp only [custFrom, decide_eq_false (show ¬ (0 ≤ x.f0 ∧ x.f0 ≤ 60 ∧ 1 ≤ x.f1 ∧ x.f1 ≤ 9 ∧ p.f0 ≤ x.f0) from fun hh => by omega), Bool.false_and]
theorem impl_CustomersOk_loop (l : List S50) (hl : l.length ≤ 1048576) : ∀ (suf : List S50) (i k : Nat), l.drop i = suf → 2 * suf.length < k → i ≤ l.length →
    impl_CustomersOk.l0 k l l (l.length : Int) i = some (custFrom (if i = 0 then none else some (l.getD (i - 1) z50)) suf && decide (l.length ≤ 8)) := by
  intro suf
  induction suf with
  | nil =>
    intro i k hd hk hi
    obtain ⟨k, rfl⟩ : ∃ m, k = m + 1 := ⟨k - 1, by omega⟩
    have := drop_nil hd
    simp only [impl_CustomersOk.l0]
    rw [if_neg (by omega)]
    congr 1
    have e : (decide ((l.length : Int) ≤ 8)) = decide (l.length ≤ 8) := decide_eq_decide.2 (by omega)
    rw [e]
    split <;> simp [custFrom]
  | cons x xs ih =>
    intro i k hd hk hi
    obtain ⟨k, rfl⟩ : ∃ m, k = m + 1 := ⟨k - 1, by omega⟩
    obtain ⟨hlt, hd2, hx⟩ := drop_split hd
    simp only [List.length_cons] at hk
    obtain ⟨k, rfl⟩ : ∃ m, k = m + 1 := ⟨k - 1, by omega⟩
    have jt : impl_CustomersOk.j1 (k + 1) l l (l.length : Int) i true = some false := rfl
    have jf : impl_CustomersOk.j1 (k + 1) l l (l.length : Int) i false = some (custFrom (some x) xs && decide (l.length ≤ 8)) := by
      simp only [impl_CustomersOk.j1]
      rw [if_neg (by simp), w64s i (by omega), ih (i + 1) k hd2 (by omega) (by omega), if_neg (show ¬ i + 1 = 0 by omega), show i + 1 - 1 = i from rfl, hx]
    simp only [impl_CustomersOk.l0]
    rw [if_pos (by omega), if_pos (by omega), if_pos (by omega), rd_Customer_nat, hx, jt]
    by_cases h1 : x.f0 < 0
    · rw [if_pos h1, cust_bad (by omega), Bool.false_and]
    rw [if_neg h1]
    by_cases h2 : x.f0 > 60
    · rw [if_pos h2, cust_bad (by omega), Bool.false_and]
    rw [if_neg h2]
    by_cases hi0 : i = 0
    · subst hi0
      rw [if_neg (by omega)]
      by_cases h3 : x.f1 < 1
      · rw [if_pos h3, cust_bad (by omega), Bool.false_and]
      rw [if_neg h3]
      by_cases h4 : x.f1 > 9
      · rw [decide_eq_true h4, jt, cust_bad (by omega), Bool.false_and]
      rw [decide_eq_false h4, jf, if_pos rfl]
      have e : decide (0 ≤ x.f0 ∧ x.f0 ≤ 60 ∧ 1 ≤ x.f1 ∧ x.f1 ≤ 9) = true := decide_eq_true (by omega)
      simp only [custFrom, e, Bool.true_and]
    · rw [if_pos (by omega), show wrap64 ((i : Int) - 1) = ((i - 1 : Nat) : Int) from by rw [w64 (by omega) (by omega)]; omega, if_pos (by omega), if_pos (by omega), rd_Customer_nat, if_neg hi0]
      by_cases h5 : x.f0 < (l.getD (i - 1) z50).f0
      · rw [if_pos h5, cust_bad2 h5, Bool.false_and]
      rw [if_neg h5]
      by_cases h3 : x.f1 < 1
      · rw [if_pos h3, cust_bad (by omega), Bool.false_and]
      rw [if_neg h3]
      by_cases h4 : x.f1 > 9
      · rw [decide_eq_true h4, jt, cust_bad (by omega), Bool.false_and]
      rw [decide_eq_false h4, jf]
      have e : decide (0 ≤ x.f0 ∧ x.f0 ≤ 60 ∧ 1 ≤ x.f1 ∧ x.f1 ≤ 9 ∧ (l.getD (i - 1) z50).f0 ≤ x.f0) = true := decide_eq_true (by omega)
      simp only [custFrom, e, Bool.true_and]
theorem impl_CustomersOk_is (l : List S50) (hl : l.length ≤ 1048576) (k : Nat) (hk : 2 * l.length < k) : impl_CustomersOk.f k l = some (custOk l) := by
  unfold impl_CustomersOk.f
  exact impl_CustomersOk_loop l hl l 0 k rfl hk (by omega)

/-! custspec_h -/
theorem spec_CustomersOk_loop (l : List S50) (hl : l.length ≤ 1048576) : ∀ (suf : List S50) (i k : Nat), l.drop i = suf → suf.length < k → i ≤ l.length →
    spec_CustomersOk.l0 k l i = some (custFrom (if i = 0 then none else some (l.getD (i - 1) z50)) suf && decide (l.length ≤ 8)) := by
  intro suf
  induction suf with
  | nil =>
    intro i k hd hk hi
    obtain ⟨k, rfl⟩ : ∃ m, k = m + 1 := ⟨k - 1, by omega⟩
    have := drop_nil hd
    simp only [spec_CustomersOk.l0]
    rw [if_neg (by omega)]
    split <;> simp [custFrom]
  | cons x xs ih =>
    intro i k hd hk hi
    obtain ⟨k, rfl⟩ : ∃ m, k = m + 1 := ⟨k - 1, by omega⟩
    obtain ⟨hlt, hd2, hx⟩ := drop_split hd
    simp only [spec_CustomersOk.l0]
    rw [if_pos hlt, rd_Customer_nat, hx]
    by_cases h1 : 0 ≤ x.f0 ∧ x.f0 ≤ 60
    · by_cases h2 : 1 ≤ x.f1 ∧ x.f1 ≤ 9
      · have b1 : inP x.f0 0 60 = true := decide_eq_true h1
        have b2 : inP x.f1 1 9 = true := decide_eq_true h2
        by_cases hi0 : i = 0
        · subst hi0
          rw [if_pos ⟨b1, b2, fun h => absurd h (by omega)⟩, if_pos rfl, ih 1 k hd2 (by simp at hk; omega) (by omega), if_neg (by omega)]
          have e : decide (0 ≤ x.f0 ∧ x.f0 ≤ 60 ∧ 1 ≤ x.f1 ∧ x.f1 ≤ 9) = true := decide_eq_true (by omega)
          simp only [custFrom, e, Bool.true_and, show 1 - 1 = 0 from rfl, hx]
        · rw [show ((i : Int) - 1) = ((i - 1 : Nat) : Int) from by omega, rd_Customer_nat, if_neg hi0]
          by_cases h5 : x.f0 < (l.getD (i - 1) z50).f0
          · rw [if_neg (fun h => h.2.2 (by omega) h5), cust_bad2 h5, Bool.false_and]
          · rw [if_pos ⟨b1, b2, fun _ => h5⟩, ih (i + 1) k hd2 (by simp at hk; omega) (by omega), if_neg (by omega), show i + 1 - 1 = i from rfl, hx]
            have e : decide (0 ≤ x.f0 ∧ x.f0 ≤ 60 ∧ 1 ≤ x.f1 ∧ x.f1 ≤ 9 ∧ (l.getD (i - 1) z50).f0 ≤ x.f0) = true := decide_eq_true (by omega)
            simp only [custFrom, e, Bool.true_and]
      · rw [if_neg (fun h => h2 (of_decide_eq_true h.2.1)), cust_bad (by omega), Bool.false_and]
    · rw [if_neg (fun h => h1 (of_decide_eq_true h.1)), cust_bad (by omega), Bool.false_and]
theorem spec_CustomersOk_is (l : List S50) (hl : l.length ≤ 1048576) (k : Nat) (hk : l.length < k) : spec_CustomersOk.f k l = some (custOk l) := by
  unfold spec_CustomersOk.f
  exact spec_CustomersOk_loop l hl l 0 k rfl hk (by omega)

/-! custfacts -/
theorem custFrom_tail {p : Option S50} {x : S50} {xs : List S50} (h : custFrom p (x :: xs) = true) : (0 ≤ x.f0 ∧ x.f0 ≤ 60 ∧ 1 ≤ x.f1 ∧ x.f1 ≤ 9) ∧ custFrom (some x) xs = true ∧ ∀ q, p = some q → q.f0 ≤ x.f0 := by
  cases p with
  | none =>
    simp only [custFrom, Bool.and_eq_true, decide_eq_true_eq] at h
    exact ⟨h.1, h.2, fun q e => by cases e⟩
  | some q =>
    simp only [custFrom, Bool.and_eq_true, decide_eq_true_eq] at h
    exact ⟨⟨h.1.1, h.1.2.1, h.1.2.2.1, h.1.2.2.2.1⟩, h.2, fun q' e => by cases e; exact h.1.2.2.2.2⟩
theorem custFrom_mem {l : List S50} : ∀ {p : Option S50}, custFrom p l = true → ∀ c ∈ l, 0 ≤ c.f0 ∧ c.f0 ≤ 60 ∧ 1 ≤ c.f1 ∧ c.f1 ≤ 9 := by
  induction l with
  | nil => intro p _ c hc; cases hc
  | cons x xs ih =>
    intro p h c hc
    obtain ⟨h1, h2, -⟩ := custFrom_tail h
    rcases List.mem_cons.1 hc with rfl | hc
    · exact h1
    · exact ih h2 c hc
theorem custFrom_le {l : List S50} : ∀ {p : S50}, custFrom (some p) l = true → ∀ c ∈ l, p.f0 ≤ c.f0 := by
  induction l with
  | nil => intro p _ c hc; cases hc
  | cons x xs ih =>
    intro p h c hc
    obtain ⟨h1, h2, h3⟩ := custFrom_tail h
    have hp := h3 p rfl
    rcases List.mem_cons.1 hc with rfl | hc
    · exact hp
    · have := ih h2 c hc; omega
theorem custOk_from {l : List S50} (h : custOk l = true) : custFrom none l = true := by
  unfold custOk at h
  rw [Bool.and_eq_true] at h
  exact h.1
theorem custOk_len {l : List S50} (h : custOk l = true) : l.length ≤ 8 := by
  unfold custOk at h
  rw [Bool.and_eq_true] at h
  exact of_decide_eq_true h.2
theorem custOk_mem {l : List S50} (h : custOk l = true) : ∀ c ∈ l, 0 ≤ c.f0 ∧ c.f0 ≤ 60 ∧ 1 ≤ c.f1 ∧ c.f1 ≤ 9 := custFrom_mem (custOk_from h)
theorem custFrom_adj {l : List S50} : ∀ {p : Option S50}, custFrom p l = true → ∀ i, i + 1 < l.length → (l.getD i z50).f0 ≤ (l.getD (i + 1) z50).f0 := by
  induction l with
  | nil => intro p _ i h; simp at h
  | cons x xs ih =>
    intro p h i hi
    obtain ⟨h1, h2, -⟩ := custFrom_tail h
    cases i with
    | zero => exact custFrom_le h2 (xs.getD 0 z50) (getD_mem (by simpa using hi) _)
    | succ i => exact ih h2 i (by simpa using hi)

/-! alive_j -/
theorem alive_is (k : Nat) (hk : 3 ≤ k) : laws_alive.f k = some true := by
  unfold laws_alive.f
  rw [impl_CustomersOk_is _ (by simp) k (by simp; omega)]
  simp only [Option.bind_some]
  rw [if_pos (by decide), impl_CustomersOk_is _ (by simp) k (by simp; omega)]
  rfl

/-! drawcust -/
theorem l20Customers_loop {s : List Int} (hs : ∀ x ∈ s, 0 ≤ x ∧ x ≤ 255) (hl : s.length ≤ 2000) (m wide high : Int) (hm : m ≤ 1000) : ∀ (d : Nat) (k : Nat) (l : List S50) (t p : Int), d + 2 ≤ k → 0 ≤ p → p + 2 * d + 4 ≤ 1000000 → l.length + d ≤ 100 →
    ∃ r q, spec_l20Customers.l0 k m l t wide high d s p = some (r, q) ∧ r.length ≤ 200 ∧ p ≤ q ∧ q ≤ p + 2 * d + 4 := by
  intro d
  induction d with
  | zero =>
    intro k l t p hk hp hp2 hll
    obtain ⟨k, rfl⟩ : ∃ m, k = m + 1 := ⟨k - 1, by omega⟩
    simp only [spec_l20Customers.l0]
    rw [if_neg (by omega)]
    obtain ⟨b, q, e, hq1, hq2, -⟩ := odd_ok (k := k) (by omega) hs hl p hp (by omega) m hm
    rw [e]; simp only [Option.bind_some]
    cases b with
    | false => rw [if_neg (by simp)]; exact ⟨_, _, rfl, by omega, by omega, by omega⟩
    | true =>
      rw [if_pos rfl]
      obtain ⟨v, e2, hv⟩ := pick_ok (k := k) (by omega) hs hl q (by omega) (by omega) 3
      rw [e2]; simp only [Option.bind_some]
      by_cases v0 : v = 0
      · rw [if_pos v0]; exact ⟨_, _, rfl, by simp, by omega, by omega⟩
      · rw [if_neg v0]
        by_cases v1 : v = 1
        · rw [if_pos v1, if_pos (by omega)]; exact ⟨_, _, rfl, by rw [List.length_append]; simp; omega, by omega, by omega⟩
        · rw [if_neg v1]
          obtain ⟨v2, e3, hv2, hv3, -⟩ := pick_ok (k := k) (by omega) hs hl (q + 1) (by omega) (by omega) 2
          have hv3 := hv3 (by omega)
          rw [e3]; simp only [Option.bind_some]
          rw [if_pos hv2, if_pos (by simp; omega)]
          exact ⟨_, _, rfl, by simp, by omega, by omega⟩
  | succ d ih =>
    intro k l t p hk hp hp2 hll
    obtain ⟨k, rfl⟩ : ∃ m, k = m + 1 := ⟨k - 1, by omega⟩
    simp only [spec_l20Customers.l0]
    rw [if_pos (by omega)]
    obtain ⟨v, e, -⟩ := pick_ok (k := k) (by omega) hs hl p hp (by omega) high
    rw [e]; simp only [Option.bind_some]
    rw [if_pos (by omega)]
    obtain ⟨v2, e2, -⟩ := pick_ok (k := k) (by omega) hs hl (p + 1) (by omega) (by omega) (wrap64 (wide + 1))
    rw [e2]; simp only [Option.bind_some]
    rw [show wrap64 (((d + 1 : Nat) : Int) - 1) = (d : Int) from by rw [w64 (by omega) (by omega)]; omega]
    obtain ⟨r, q, e3, h1, h2, h3⟩ := ih k (l ++ [⟨t, wrap64 (1 + v)⟩]) (wrap64 (t + v2)) (p + 1 + 1) (by omega) (by omega) (by omega) (by rw [List.length_append]; simp; omega)
    exact ⟨r, q, e3, h1, by omega, by omega⟩
theorem l20Customers_ok {s : List Int} (hs : ∀ x ∈ s, 0 ≤ x ∧ x ≤ 255) (hl : s.length ≤ 2000) (m : Int) (hm : m ≤ 1000) (k : Nat) (hk : 20 ≤ k) (p : Int) (hp : 0 ≤ p) (hp2 : p ≤ 100000) :
    ∃ r q, spec_l20Customers.f k s p m = some (r, q) ∧ r.length ≤ 200 ∧ p ≤ q ∧ q ≤ p + 30 := by
  unfold spec_l20Customers.f
  obtain ⟨v0, e0, -⟩ := pick_ok (k := k) (by omega) hs hl p hp (by omega) 3
  rw [e0]; simp only [Option.bind_some]
  obtain ⟨v, e, -⟩ := pick_ok (k := k) (by omega) hs hl (p + 1) (by omega) (by omega) 5
  rw [e]; simp only [Option.bind_some]
  obtain ⟨v1, e1, h10, h11, -⟩ := pick_ok (k := k) (by omega) hs hl (p + 1 + 1) (by omega) (by omega) 2
  have h11 := h11 (by omega)
  rw [e1]; simp only [Option.bind_some]
  rw [if_pos h10, if_pos (by simp; omega)]
  obtain ⟨v2, e2, hv2, hv3, -⟩ := pick_ok (k := k) (by omega) hs hl (p + 1 + 1 + 1) (by omega) (by omega) 9
  have hv3 := hv3 (by omega)
  rw [e2]; simp only [Option.bind_some]
  obtain ⟨r, q, e3, h1, h2, h3⟩ := l20Customers_loop hs hl m (wrap64 (1 + v)) (rd [3, 9] v1) hm v2.toNat k [] v0 (p + 1 + 1 + 1 + 1) (by omega) (by omega) (by omega) (by simp only [List.length_nil]; omega)
  rw [show ((v2.toNat : Nat) : Int) = v2 from by omega] at e3
  exact ⟨r, q, e3, h1, by omega, by omega⟩

/-! drawdeed -/
theorem l20Deed_end {s : List Int} (hs : ∀ x ∈ s, 0 ≤ x ∧ x ≤ 255) (hl : s.length ≤ 2000) (k : Nat) (hk : 3 ≤ k) (p : Int) (hp : 0 ≤ p) (hp2 : p ≤ 900000) (kd a b : Int) :
    ∃ a' q, spec_l20Deed.j1 k s p kd a b = some (kd, a', b, q) ∧ p ≤ q ∧ q ≤ p + 2 := by
  obtain ⟨k, rfl⟩ : ∃ m, k = m + 1 := ⟨k - 1, by omega⟩
  simp only [spec_l20Deed.j1]
  obtain ⟨o, q, e, h1, h2, -⟩ := odd_ok (k := k) (by omega) hs hl p hp (by omega) 40 (by omega)
  rw [e, Option.bind_some]; dsimp only
  by_cases ho : o = true
  · rw [if_pos ho, Option.bind_some]
    obtain ⟨v, e2, h3, h4, -⟩ := pick_ok (k := k) (by omega) hs hl q (by omega) (by omega) 3
    rw [e2, Option.bind_some]; dsimp only
    have := h4 (by omega)
    rw [if_pos h3, if_pos (by simp only [List.length_cons, List.length_nil]; omega)]
    exact ⟨_, _, rfl, by omega, by omega⟩
  · rw [if_neg ho]
    exact ⟨_, _, rfl, by omega, by omega⟩
theorem l20Deed_come {s : List Int} (hs : ∀ x ∈ s, 0 ≤ x ∧ x ≤ 255) (hl : s.length ≤ 2000) (k : Nat) (hk : 4 ≤ k) (p : Int) (hp : 0 ≤ p) (hp2 : p ≤ 800000) (x kd a b : Int) :
    ∃ a' b' q, spec_l20Deed.j0 k x s p kd a b = some (kd, a', b', q) ∧ p ≤ q ∧ q ≤ p + 6 := by
  obtain ⟨k, rfl⟩ : ∃ m, k = m + 1 := ⟨k - 1, by omega⟩
  simp only [spec_l20Deed.j0]
  obtain ⟨v1, e1, -⟩ := pick_ok (k := k) (by omega) hs hl p hp (by omega) 6
  rw [e1, Option.bind_some]; dsimp only
  obtain ⟨v2, e2, -⟩ := pick_ok (k := k) (by omega) hs hl (p + 1) (by omega) (by omega) 10
  rw [e2, Option.bind_some]; dsimp only
  obtain ⟨v3, e3, -⟩ := pick_ok (k := k) (by omega) hs hl (p + 1 + 1) (by omega) (by omega) 9
  rw [e3, Option.bind_some]; dsimp only
  obtain ⟨v4, e4, -⟩ := pick_ok (k := k) (by omega) hs hl (p + 1 + 1 + 1) (by omega) (by omega) 20
  rw [e4, Option.bind_some]; dsimp only
  obtain ⟨a', q, e, h1, h2⟩ := l20Deed_end hs hl k (by omega) (p + 1 + 1 + 1 + 1) (by omega) (by omega) kd (mx (wrap64 ((wrap64 (x + v1)) - (wrap64 (Int.tdiv v2 9)))) 0) (wrap64 ((wrap64 (1 + v3)) - (wrap64 (Int.tdiv v4 19))))
  exact ⟨_, _, _, e, by omega, by omega⟩
theorem l20Deed_ok {s : List Int} (hs : ∀ x ∈ s, 0 ≤ x ∧ x ≤ 255) (hl : s.length ≤ 2000) (k : Nat) (hk : 4 ≤ k) (p : Int) (hp : 0 ≤ p) (hp2 : p ≤ 700000) (l : List S50) (hll : l.length ≤ 1000) :
    ∃ kd a b q, spec_l20Deed.f k s p l = some (kd, a, b, q) ∧ p ≤ q ∧ q ≤ p + 10 := by
  unfold spec_l20Deed.f
  obtain ⟨v1, e1, h1, h2, -⟩ := pick_ok (k := k) (by omega) hs hl p hp (by omega) 7
  rw [Option.bind_some, e1, Option.bind_some]; dsimp only
  have := h2 (by omega)
  rw [if_pos h1, if_pos (by simp only [List.length_cons, List.length_nil]; omega)]
  obtain ⟨v2, e2, -⟩ := pick_ok (k := k) (by omega) hs hl (p + 1) (by omega) (by omega) 60
  rw [e2, Option.bind_some]; dsimp only
  generalize wrap64 ((rd [0, 0, 0, 1, 2, 3, 4] v1) + (wrap64 ((wrap64 (Int.tdiv v2 59)) * 5))) = kd
  have hw : 0 < (l.length : Int) → wrap64 ((l.length : Int) - 1) = (l.length : Int) - 1 := fun _ => w64 (by omega) (by omega)
  by_cases c0 : kd = 0
  · rw [if_pos c0]
    have hj : ∀ x : Int, ∃ kd' a b q, spec_l20Deed.j0 k x s (p + 1 + 1) kd 0 0 = some (kd', a, b, q) ∧ p ≤ q ∧ q ≤ p + 10 := by
      intro x
      obtain ⟨a', b', q, e, g1, g2⟩ := l20Deed_come hs hl k hk (p + 1 + 1) (by omega) (by omega) x kd 0 0
      exact ⟨_, _, _, _, e, by omega, by omega⟩
    by_cases c1 : (l.length : Int) > 0
    · rw [if_pos c1, hw c1, if_pos (by omega), if_pos (by omega)]; exact hj _
    · rw [if_neg c1]; exact hj _
  · rw [if_neg c0]
    by_cases c2 : kd = 2
    · rw [if_pos c2]
      obtain ⟨v3, e3, -⟩ := pick_ok (k := k) (by omega) hs hl (p + 1 + 1) (by omega) (by omega) (mx (l.length : Int) 1)
      rw [e3, Option.bind_some]; dsimp only
      obtain ⟨a', q, e, g1, g2⟩ := l20Deed_end hs hl k (by omega) (p + 1 + 1 + 1) (by omega) (by omega) kd v3 0
      exact ⟨_, _, _, _, e, by omega, by omega⟩
    · rw [if_neg c2]
      by_cases c3 : kd = 3
      · rw [if_pos c3]
        obtain ⟨v3, e3, -⟩ := pick_ok (k := k) (by omega) hs hl (p + 1 + 1) (by omega) (by omega) 6
        rw [e3, Option.bind_some]; dsimp only
        obtain ⟨a', q, e, g1, g2⟩ := l20Deed_end hs hl k (by omega) (p + 1 + 1 + 1) (by omega) (by omega) kd v3 0
        exact ⟨_, _, _, _, e, by omega, by omega⟩
      · rw [if_neg c3]
        obtain ⟨a', q, e, g1, g2⟩ := l20Deed_end hs hl k (by omega) (p + 1 + 1) (by omega) (by omega) kd 0 0
        exact ⟨_, _, _, _, e, by omega, by omega⟩

/-! rdd -/
theorem rdd_nat (l : List (List S50)) (i : Nat) : rd_L2 l (i : Int) = l.getD i [] := by
  unfold rd_L2
  rw [Int.toNat_natCast]

/-! deskok_j -/
/-- A desk, as both texts ask. -/
def deskOk (now : List S50) (past : List (List S50)) : Bool := past.all custOk && (custOk now && decide (past.length ≤ 8))
theorem impl_DeskOk_loop (now : List S50) (past : List (List S50)) (hn : now.length ≤ 1048576) (hp : past.length ≤ 1048576) (hm : ∀ x ∈ past, x.length ≤ 1048576) : ∀ (suf : List (List S50)) (i k : Nat), past.drop i = suf → suf.length + 2097153 < k → i ≤ past.length →
    impl_DeskOk.l0 k past (past.length : Int) i now past = some (suf.all custOk && (custOk now && decide (past.length ≤ 8))) := by
  intro suf
  induction suf with
  | nil =>
    intro i k hd hk hi
    obtain ⟨k, rfl⟩ : ∃ m, k = m + 1 := ⟨k - 1, by omega⟩
    have := drop_nil hd
    simp only [impl_DeskOk.l0]
    rw [if_neg (by omega), impl_CustomersOk_is now hn k (by omega)]
    simp only [Option.bind_some]
    have e : (decide ((past.length : Int) ≤ 8)) = decide (past.length ≤ 8) := decide_eq_decide.2 (by omega)
    rw [e]
    by_cases h : custOk now = true
    · rw [if_pos h]; simp [h]
    · rw [if_neg h]; simp [h]
  | cons x xs ih =>
    intro i k hd hk hi
    obtain ⟨k, rfl⟩ : ∃ m, k = m + 1 := ⟨k - 1, by omega⟩
    obtain ⟨hlt, hd2, hx⟩ := drop_split hd
    have hxl := hm x (by rw [← hx []]; exact getD_mem hlt _)
    simp only [impl_DeskOk.l0]
    simp only [List.length_cons] at hk
    rw [if_pos (by omega), if_pos (by omega), if_pos (by omega), rdd_nat, hx, impl_CustomersOk_is x hxl k (by omega), w64s i (by omega), ih (i + 1) k hd2 (by omega) (by omega)]
    simp only [Option.bind_some]
    by_cases h : custOk x = true
    · rw [if_pos h]; simp [h]
    · rw [if_neg h]; simp [h]
theorem impl_DeskOk_is (now : List S50) (past : List (List S50)) (hn : now.length ≤ 1048576) (hp : past.length ≤ 1048576) (hm : ∀ x ∈ past, x.length ≤ 1048576) (k : Nat) (hk : 4000000 ≤ k) : impl_DeskOk.f k now past = some (deskOk now past) := by
  unfold impl_DeskOk.f
  exact impl_DeskOk_loop now past hn hp hm past 0 k rfl (by omega) (by omega)
theorem spec_DeskOk_loop (now : List S50) (past : List (List S50)) (hn : now.length ≤ 1048576) (hp : past.length ≤ 1048576) (hm : ∀ x ∈ past, x.length ≤ 1048576) : ∀ (suf : List (List S50)) (i k : Nat), past.drop i = suf → suf.length + 1048577 < k → i ≤ past.length →
    spec_DeskOk.l0 k i now past = some (suf.all custOk && (custOk now && decide (past.length ≤ 8))) := by
  intro suf
  induction suf with
  | nil =>
    intro i k hd hk hi
    obtain ⟨k, rfl⟩ : ∃ m, k = m + 1 := ⟨k - 1, by omega⟩
    have := drop_nil hd
    simp only [spec_DeskOk.l0]
    rw [if_neg (by omega), spec_CustomersOk_is now hn k (by omega)]
    simp only [Option.bind_some]
    have e : (decide ((past.length : Int) ≤ 8)) = decide (past.length ≤ 8) := decide_eq_decide.2 (by omega)
    rw [e]
    by_cases h : custOk now = true
    · rw [if_pos h]; simp [h]
    · rw [if_neg h]; simp [h]
  | cons x xs ih =>
    intro i k hd hk hi
    obtain ⟨k, rfl⟩ : ∃ m, k = m + 1 := ⟨k - 1, by omega⟩
    obtain ⟨hlt, hd2, hx⟩ := drop_split hd
    have hxl := hm x (by rw [← hx []]; exact getD_mem hlt _)
    simp only [spec_DeskOk.l0]
    simp only [List.length_cons] at hk
    rw [if_pos (by omega), if_pos (by omega), rdd_nat, hx, spec_CustomersOk_is x hxl k (by omega), w64s i (by omega), ih (i + 1) k hd2 (by omega) (by omega)]
    simp only [Option.bind_some]
    by_cases h : custOk x = true
    · rw [if_pos h]; simp [h]
    · rw [if_neg h]; simp [h]
theorem spec_DeskOk_is (now : List S50) (past : List (List S50)) (hn : now.length ≤ 1048576) (hp : past.length ≤ 1048576) (hm : ∀ x ∈ past, x.length ≤ 1048576) (k : Nat) (hk : 3000000 ≤ k) : spec_DeskOk.f k now past = some (deskOk now past) := by
  unfold spec_DeskOk.f
  exact spec_DeskOk_loop now past hn hp hm past 0 k rfl (by omega) (by omega)

/-! samecust -/
theorem sameCustomers_loop (a : List S50) (ha : a.length ≤ 1048576) : ∀ (suf : List S50) (i k : Nat), a.drop i = suf → suf.length < k → laws_sameCustomers.l0 k a a (i : Int) = some true := by
  intro suf
  induction suf with
  | nil =>
    intro i k hd hk
    obtain ⟨k, rfl⟩ : ∃ m, k = m + 1 := ⟨k - 1, by omega⟩
    have := drop_nil hd
    simp only [laws_sameCustomers.l0]
    rw [if_neg (by omega)]
  | cons x xs ih =>
    intro i k hd hk
    obtain ⟨k, rfl⟩ : ∃ m, k = m + 1 := ⟨k - 1, by omega⟩
    obtain ⟨hlt, hd2, hx⟩ := drop_split hd
    simp only [laws_sameCustomers.l0]
    simp only [List.length_cons] at hk
    rw [if_pos (by omega), if_pos (by omega), if_pos (by omega), if_neg (by simp), w64s i (by omega)]
    exact ih (i + 1) k hd2 (by omega)
theorem sameCustomers_is (a : List S50) (ha : a.length ≤ 1048576) (k : Nat) (hk : a.length < k) : laws_sameCustomers.f k a a = some true := by
  unfold laws_sameCustomers.f
  rw [if_pos rfl]
  exact sameCustomers_loop a ha a 0 k rfl hk

/-! samedesk -/
theorem sameDesk_loop (now now2 : List S50) (p : List (List S50)) (hp : p.length ≤ 1048576) (hm : ∀ x ∈ p, x.length ≤ 1048576) : ∀ (suf : List (List S50)) (i k : Nat), p.drop i = suf → suf.length + 1048577 < k → laws_sameDesk.l0 k (i : Int) now p now2 p = some true := by
  intro suf
  induction suf with
  | nil =>
    intro i k hd hk
    obtain ⟨k, rfl⟩ : ∃ m, k = m + 1 := ⟨k - 1, by omega⟩
    have := drop_nil hd
    simp only [laws_sameDesk.l0]
    rw [if_neg (by omega)]
  | cons x xs ih =>
    intro i k hd hk
    obtain ⟨k, rfl⟩ : ∃ m, k = m + 1 := ⟨k - 1, by omega⟩
    obtain ⟨hlt, hd2, hx⟩ := drop_split hd
    have hxl := hm x (by rw [← hx []]; exact getD_mem hlt _)
    simp only [laws_sameDesk.l0]
    simp only [List.length_cons] at hk
    rw [if_pos (by omega), if_pos (by omega), if_pos (by omega), rdd_nat, hx, sameCustomers_is x hxl k (by omega), Option.bind_some, if_pos rfl, w64s i (by omega)]
    exact ih (i + 1) k hd2 (by omega)
theorem sameDesk_is (now : List S50) (p : List (List S50)) (hn : now.length ≤ 1048576) (hp : p.length ≤ 1048576) (hm : ∀ x ∈ p, x.length ≤ 1048576) (k : Nat) (hk : 3000000 ≤ k) : laws_sameDesk.f k now p now p = some true := by
  unfold laws_sameDesk.f
  obtain ⟨k, rfl⟩ : ∃ m, k = m + 1 := ⟨k - 1, by omega⟩
  rw [sameCustomers_is now hn _ (by omega), Option.bind_some, if_pos rfl]
  simp only [laws_sameDesk.j0]
  rw [if_neg (by simp)]
  exact sameDesk_loop now now p hp hm p 0 k rfl (by omega)

/-! desknew_spec -/
def deskNewP (l : List S50) : List S50 := if custOk l = true then l else []
theorem spec_DeskNew_is (l : List S50) (hl : l.length ≤ 1048576) (k : Nat) (hk : l.length < k) : spec_DeskNew.f k l = some (deskNewP l, [], custOk l) := by
  unfold spec_DeskNew.f deskNewP
  rw [spec_CustomersOk_is l hl k hk, Option.bind_some]
  simp only [Option.bind_some]
  by_cases h : custOk l = true
  · rw [if_pos h, if_pos (by simp only [List.length_nil]; omega), if_pos h, h, List.nil_append]
  · rw [if_neg h, if_neg h, Bool.eq_false_iff.2 h]

/-! deskdo -/
/-- What a deed makes of customers. -/
def needP (l : List S50) (a : Int) : List S50 × Bool :=
  if custOk l = true ∧ 0 ≤ a ∧ a < l.length ∧ custOk (l.set a.toNat ⟨(l.getD a.toNat z50).f0, (l.getD a.toNat z50).f1 + 1⟩) = true then (l.set a.toNat ⟨(l.getD a.toNat z50).f0, (l.getD a.toNat z50).f1 + 1⟩, true) else ([], false)
def laterL (l : List S50) (a : Int) : List S50 := l.map (fun c => ⟨wrap64 (c.f0 + a), c.f1⟩)
def laterP (l : List S50) (a : Int) : List S50 × Bool :=
  if custOk l = true ∧ custOk (laterL l a) = true ∧ 0 ≤ a ∧ a ≤ 60 then (laterL l a, true) else ([], false)
def madeP (l : List S50) (kd a b : Int) : List S50 × Bool :=
  if kd = 0 then (l ++ [⟨a, b⟩], custOk (l ++ [⟨a, b⟩]))
  else if kd = 1 then (if a = 0 ∧ b = 0 ∧ 0 < l.length then (l.take (l.length - 1), true) else (l, false))
  else if kd = 2 then (if b = 0 then needP l a else (l, false))
  else if kd = 3 ∧ b = 0 ∧ a > 0 ∧ 0 < l.length then laterP l a
  else (l, false)
/-- A desk after a deed (with fewer than eight lists of before). -/
def deskDoP (now : List S50) (past : List (List S50)) (kd a b : Int) : List S50 × List (List S50) × Bool :=
  if deskOk now past = true then
    (if (kd = 4 ∧ a = 0 ∧ b = 0) ∧ 0 < past.length then (past.getD (past.length - 1) [], past.take (past.length - 1), true)
    else if (madeP now kd a b).2 = true then ((madeP now kd a b).1, past ++ [now], true) else (now, past, false))
  else ([], [], false)
theorem deskOk_parts {now : List S50} {past : List (List S50)} (h : deskOk now past = true) : custOk now = true ∧ (∀ x ∈ past, custOk x = true) ∧ past.length ≤ 8 := by
  unfold deskOk at h
  simp only [Bool.and_eq_true, decide_eq_true_eq, List.all_eq_true] at h
  exact ⟨h.2.1, h.1, h.2.2⟩
theorem deskOk_of {now : List S50} {past : List (List S50)} (h1 : custOk now = true) (h2 : ∀ x ∈ past, custOk x = true) (h3 : past.length ≤ 8) : deskOk now past = true := by
  unfold deskOk
  simp only [Bool.and_eq_true, decide_eq_true_eq, List.all_eq_true]
  exact ⟨h2, h1, h3⟩
theorem madeP_ok {l : List S50} {kd a b : Int} (hl : custOk l = true) (h : (madeP l kd a b).2 = true) : (madeP l kd a b).1.length ≤ 9 := by
  have h8 := custOk_len hl
  unfold madeP at *
  split
  · rw [List.length_append]; simp; omega
  · split
    · split
      · rw [List.length_take]; omega
      · show l.length ≤ 9; omega
    · split
      · split
        · unfold needP; split
          · simp only [List.length_set]; omega
          · simp
        · show l.length ≤ 9; omega
      · split
        · unfold laterP; split
          · unfold laterL; simp only [List.length_map]; omega
          · simp
        · show l.length ≤ 9; omega

/-! deskdo_made -/
theorem l12Copy_loop (now : List S50) (past : List (List S50)) (hp : past.length ≤ 1048576) (hm : ∀ x ∈ past, x.length ≤ 1048576) (m : List S50) : ∀ (suf : List (List S50)) (i k : Nat), past.drop i = suf → suf.length < k → i ≤ past.length →
    spec_l12Copy.l0 k i now past m (past.take i) = some (m, past) := by
  intro suf
  induction suf with
  | nil =>
    intro i k hd hk hi
    obtain ⟨k, rfl⟩ : ∃ m, k = m + 1 := ⟨k - 1, by omega⟩
    have := drop_nil hd
    simp only [spec_l12Copy.l0]
    rw [if_neg (by omega), List.take_of_length_le this]
  | cons x xs ih =>
    intro i k hd hk hi
    obtain ⟨k, rfl⟩ : ∃ m, k = m + 1 := ⟨k - 1, by omega⟩
    obtain ⟨hlt, hd2, hx⟩ := drop_split hd
    have hxl := hm x (by rw [← hx []]; exact getD_mem hlt _)
    simp only [List.length_cons] at hk
    simp only [spec_l12Copy.l0]
    have e := take_succ_getD hlt []
    rw [hx] at e
    rw [if_pos (by omega), Option.bind_some, if_pos (by omega), rdd_nat, hx, if_pos (by simp only [List.length_nil]; omega), if_pos (by rw [List.length_take]; omega), w64s i (by omega), List.nil_append, ← e]
    exact ih (i + 1) k hd2 (by omega) (by omega)
theorem l12Copy_is (now : List S50) (past : List (List S50)) (hn : now.length ≤ 1048576) (hp : past.length ≤ 1048576) (hm : ∀ x ∈ past, x.length ≤ 1048576) (k : Nat) (hk : past.length < k) : spec_l12Copy.f k now past = some (now, past) := by
  unfold spec_l12Copy.f
  rw [Option.bind_some, if_pos (by simp only [List.length_nil]; omega)]
  exact l12Copy_loop now past hp hm ([] ++ now) past 0 k rfl hk (by omega)
theorem spec_Need_is (l : List S50) (hl : l.length ≤ 1048576) (a : Int) (k : Nat) (hk : l.length + 20 ≤ k) : spec_NeedingMore.f k l a = some (needP l a) := by
  obtain ⟨k, rfl⟩ : ∃ m, k = m + 1 := ⟨k - 1, by omega⟩
  unfold spec_NeedingMore.f needP
  rw [spec_CustomersOk_is l hl (k + 1) (by omega), Option.bind_some]
  by_cases hok : custOk l = true
  · rw [if_pos hok, spec_l1In_is, Option.bind_some, show wrap64 ((l.length : Int) - 1) = (l.length : Int) - 1 from w64 (by omega) (by omega)]
    by_cases hi : 0 ≤ a ∧ a ≤ (l.length : Int) - 1
    · rw [decide_eq_true hi]
      simp only [spec_NeedingMore.j0, Bool.not_true, Option.bind_some, List.nil_append]
      obtain ⟨n, rfl⟩ := Int.eq_ofNat_of_zero_le hi.1
      have hxb := custOk_mem hok (l.getD n z50) (getD_mem (by omega) _)
      rw [if_neg (by simp), if_pos (by simp only [List.length_nil]; omega), if_pos (by omega), if_pos (by omega), rd_Customer_nat, Int.toNat_natCast, show wrap64 ((l.getD n z50).f1 + 1) = (l.getD n z50).f1 + 1 from w64 (by omega) (by omega)]
      rw [spec_CustomersOk_is (l.set n _) (by rw [List.length_set]; omega) k (by rw [List.length_set]; omega), Option.bind_some]
      by_cases h : custOk (l.set n ⟨(l.getD n z50).f0, (l.getD n z50).f1 + 1⟩) = true
      · rw [if_pos h, if_pos ⟨hok, by omega, by omega, h⟩]
      · rw [if_neg h, if_neg (fun e => h e.2.2.2)]
    · rw [decide_eq_false hi]
      simp only [spec_NeedingMore.j0, Bool.not_false]
      rw [if_pos trivial, if_neg (fun e => hi ⟨e.2.1, by omega⟩)]
  · rw [if_neg hok]
    simp only [spec_NeedingMore.j0]
    rw [if_pos trivial, if_neg (fun e => hok e.1)]
theorem spec_Later_loop (l : List S50) (hl : l.length ≤ 1048576) (a : Int) : ∀ (suf : List S50) (i k : Nat), l.drop i = suf → suf.length + l.length + 20 < k → i ≤ l.length →
    spec_LaterBy.l0 k l a ((l.take i).map (fun c => (⟨wrap64 (c.f0 + a), c.f1⟩ : S50))) i = some (laterP l a) := by
  intro suf
  induction suf with
  | nil =>
    intro i k hd hk hi
    obtain ⟨k, rfl⟩ : ∃ m, k = m + 1 := ⟨k - 1, by omega⟩
    have := drop_nil hd
    simp only [spec_LaterBy.l0]
    rw [if_neg (by omega), List.take_of_length_le this, spec_CustomersOk_is l hl k (by omega), Option.bind_some]
    rw [show l.map (fun c => (⟨wrap64 (c.f0 + a), c.f1⟩ : S50)) = laterL l a from rfl]
    have hll : (laterL l a).length = l.length := by unfold laterL; rw [List.length_map]
    unfold laterP
    by_cases h1 : custOk l = true
    · rw [if_pos h1, spec_CustomersOk_is _ (by omega) k (by omega), Option.bind_some]
      by_cases h2 : custOk (laterL l a) = true
      · rw [if_pos h2, spec_l1In_is, Option.bind_some]
        by_cases h3 : 0 ≤ a ∧ a ≤ 60
        · rw [decide_eq_true h3, if_pos rfl, if_pos ⟨h1, h2, h3.1, h3.2⟩]
        · rw [decide_eq_false h3, if_neg (by simp), if_neg (fun e => h3 ⟨e.2.2.1, e.2.2.2⟩)]
      · rw [if_neg h2, if_neg (fun e => h2 e.2.1)]
    · rw [if_neg h1, if_neg (fun e => h1 e.1)]
  | cons x xs ih =>
    intro i k hd hk hi
    obtain ⟨k, rfl⟩ : ∃ m, k = m + 1 := ⟨k - 1, by omega⟩
    obtain ⟨hlt, hd2, hx⟩ := drop_split hd
    simp only [List.length_cons] at hk
    simp only [spec_LaterBy.l0]
    rw [if_pos (by omega), if_pos (by omega), if_pos (by rw [List.length_map, List.length_take]; omega), rd_Customer_nat, hx, w64s i (by omega)]
    have e := take_succ_getD hlt z50
    rw [hx] at e
    have := ih (i + 1) k hd2 (by omega) (by omega)
    rw [e, List.map_append] at this
    exact this
theorem spec_Later_is (l : List S50) (hl : l.length ≤ 1048576) (a : Int) (k : Nat) (hk : 2 * l.length + 30 ≤ k) : spec_LaterBy.f k l a = some (laterP l a) := by
  unfold spec_LaterBy.f
  exact spec_Later_loop l hl a l 0 k rfl (by omega) (by omega)
theorem l12Made_is (l : List S50) (hl : l.length ≤ 1000000) (kd a b : Int) (k : Nat) (hk : 2 * l.length + 40 ≤ k) : spec_l12Made.f k l kd a b = some (madeP l kd a b) := by
  obtain ⟨k, rfl⟩ : ∃ m, k = m + 1 := ⟨k - 1, by omega⟩
  obtain ⟨k, rfl⟩ : ∃ m, k = m + 1 := ⟨k - 1, by omega⟩
  unfold spec_l12Made.f madeP
  by_cases h0 : kd = 0
  · rw [if_pos h0, if_pos h0, Option.bind_some, if_pos (by simp only [List.length_nil]; omega), Option.bind_some, Option.bind_some, List.nil_append, if_pos (by simp only [List.length_cons, List.length_nil]; omega), Option.bind_some, spec_CustomersOk_is _ (by rw [List.length_append]; simp; omega) _ (by rw [List.length_append]; simp; omega), Option.bind_some]
  · rw [if_neg h0, if_neg h0]
    have hw : 0 < l.length → wrap64 ((l.length : Int) - 1) = ((l.length - 1 : Nat) : Int) := fun _ => by rw [w64 (by omega) (by omega)]; omega
    have hj : spec_l12Made.j0 (k + 1 + 1) l false kd a b = some (if kd = 2 then (if b = 0 then needP l a else (l, false)) else if kd = 3 ∧ b = 0 ∧ a > 0 ∧ 0 < l.length then laterP l a else (l, false)) := by
      simp only [spec_l12Made.j0]
      rw [if_neg (by simp)]
      by_cases h2 : kd = 2
      · rw [if_pos h2, if_pos h2]
        simp only [spec_l12Made.j1]
        by_cases hb : b = 0
        · rw [if_pos (by simp [hb]), if_pos hb, spec_Need_is l (by omega) a k (by omega), Option.bind_some]
        · rw [if_neg (by simp [hb]), if_neg (show ¬ kd = 3 from by omega), if_neg hb]
      · rw [if_neg h2, if_neg h2]
        simp only [spec_l12Made.j1]
        rw [if_neg (by simp)]
        by_cases h3 : kd = 3
        · rw [if_pos h3]
          by_cases hb : b = 0
          · rw [if_pos hb]
            by_cases ha : a > 0
            · rw [if_pos ha]
              by_cases hn : (l.length : Int) > 0
              · rw [if_pos hn, spec_Later_is l (by omega) a k (by omega), Option.bind_some, if_pos ⟨h3, hb, ha, by omega⟩]
              · rw [if_neg hn, if_neg (fun e => hn (by omega))]
            · rw [if_neg ha, if_neg (fun e => ha e.2.2.1)]
          · rw [if_neg hb, if_neg (fun e => hb e.2.1)]
        · rw [if_neg h3, if_neg (fun e => h3 e.1)]
    by_cases h1 : kd = 1
    · rw [if_pos h1]
      have e2 : (if kd = 2 then (if b = 0 then needP l a else (l, false)) else if kd = 3 ∧ b = 0 ∧ a > 0 ∧ 0 < l.length then laterP l a else (l, false)) = (l, false) := by
        rw [if_neg (by omega), if_neg (by omega)]
      rw [e2] at hj
      by_cases hab : a = 0 ∧ b = 0
      · rw [if_pos (by simp [h1, hab.1, hab.2])]
        by_cases hn : 0 < l.length
        · rw [decide_eq_true (by omega), if_pos ⟨hab.1, hab.2, hn⟩]
          simp only [spec_l12Made.j0]
          rw [if_pos trivial, Option.bind_some, hw hn, if_pos (by omega), if_pos (by omega), Option.bind_some, Int.toNat_natCast, if_pos (by rw [List.length_take]; simp only [List.length_nil]; omega), List.nil_append]
        · rw [decide_eq_false (by omega), hj, if_neg (fun e => hn e.2.2)]
      · rw [if_neg (by simp only [Bool.and_eq_true, beq_iff_eq]; exact fun e => hab e.2), hj, if_neg (fun e => hab ⟨e.1, e.2.1⟩)]
    · rw [if_neg h1, if_neg (by simp [h1]), hj]

/-! deskdo_impl -/
theorem clone_is (l : List S50) (hl : l.length ≤ 1048576) : impl_Customer_45.f l = some l := by
  unfold impl_Customer_45.f
  rw [Option.bind_some, if_pos (by simp only [List.length_nil]; omega), List.nil_append]
theorem implCopy_loop (past : List (List S50)) (hp : past.length ≤ 1048576) (hm : ∀ x ∈ past, x.length ≤ 1048576) (m : List S50) : ∀ (suf : List (List S50)) (i k : Nat), past.drop i = suf → suf.length < k → i ≤ past.length →
    impl_copyDesk.l0 k past past.length i m (past.take i) = some (m, past) := by
  intro suf
  induction suf with
  | nil =>
    intro i k hd hk hi
    obtain ⟨k, rfl⟩ : ∃ m, k = m + 1 := ⟨k - 1, by omega⟩
    have := drop_nil hd
    simp only [impl_copyDesk.l0]
    rw [if_neg (by omega), List.take_of_length_le this]
  | cons x xs ih =>
    intro i k hd hk hi
    obtain ⟨k, rfl⟩ : ∃ m, k = m + 1 := ⟨k - 1, by omega⟩
    obtain ⟨hlt, hd2, hx⟩ := drop_split hd
    have hxl := hm x (by rw [← hx []]; exact getD_mem hlt _)
    simp only [List.length_cons] at hk
    simp only [impl_copyDesk.l0]
    have e := take_succ_getD hlt []
    rw [hx] at e
    rw [if_pos (by omega), if_pos (by omega), if_pos (by omega), rdd_nat, hx, clone_is x hxl, Option.bind_some, if_pos (by rw [List.length_take]; omega), w64s i (by omega), ← e]
    exact ih (i + 1) k hd2 (by omega) (by omega)
theorem implCopy_is (now : List S50) (past : List (List S50)) (hn : now.length ≤ 1048576) (hp : past.length ≤ 1048576) (hm : ∀ x ∈ past, x.length ≤ 1048576) (k : Nat) (hk : past.length < k) : impl_copyDesk.f k now past = some (now, past) := by
  unfold impl_copyDesk.f
  rw [clone_is now hn, Option.bind_some]
  exact implCopy_loop past hp hm now past 0 k rfl hk (by omega)
/-- One unit more: the same but for the bound on the need. -/
theorem custFrom_set : ∀ (l : List S50) (p : Option S50) (i : Nat), custFrom p l = true → i < l.length → custFrom p (l.set i ⟨(l.getD i z50).f0, (l.getD i z50).f1 + 1⟩) = decide ((l.getD i z50).f1 + 1 ≤ 9) := by
  intro l
  induction l with
  | nil => intro p i _ h; simp at h
  | cons x xs ih =>
    intro p i h hi
    obtain ⟨hx, ht, hq⟩ := custFrom_tail h
    cases i with
    | zero =>
      show custFrom p (⟨x.f0, x.f1 + 1⟩ :: xs) = decide (x.f1 + 1 ≤ 9)
      have hr : custFrom (some (⟨x.f0, x.f1 + 1⟩ : S50)) xs = true := by
        cases xs with
        | nil => rfl
        | cons y ys =>
          obtain ⟨h1, h2, h3⟩ := custFrom_tail ht
          have := h3 x rfl
          simp only [custFrom, h2, Bool.and_true]
          exact decide_eq_true ⟨h1.1, h1.2.1, h1.2.2.1, h1.2.2.2, this⟩
      cases p with
      | none => simp only [custFrom, hr, Bool.and_true]; rw [decide_eq_decide]; constructor <;> intro h' <;> omega
      | some q =>
        have := hq q rfl
        simp only [custFrom, hr, Bool.and_true]; rw [decide_eq_decide]; constructor <;> intro h' <;> omega
    | succ i =>
      have h1 := ih (some x) i ht (by simpa using hi)
      show custFrom p (x :: xs.set i ⟨(xs.getD i z50).f0, (xs.getD i z50).f1 + 1⟩) = decide ((xs.getD i z50).f1 + 1 ≤ 9)
      rw [← h1]
      cases p with
      | none =>
        have e : decide (0 ≤ x.f0 ∧ x.f0 ≤ 60 ∧ 1 ≤ x.f1 ∧ x.f1 ≤ 9) = true := decide_eq_true hx
        simp only [custFrom, e, Bool.true_and]
      | some q =>
        have := hq q rfl
        have e : decide (0 ≤ x.f0 ∧ x.f0 ≤ 60 ∧ 1 ≤ x.f1 ∧ x.f1 ≤ 9 ∧ q.f0 ≤ x.f0) = true := decide_eq_true ⟨hx.1, hx.2.1, hx.2.2.1, hx.2.2.2, this⟩
        simp only [custFrom, e, Bool.true_and]
theorem custOk_set (l : List S50) (h : custOk l = true) (i : Nat) (hi : i < l.length) : custOk (l.set i ⟨(l.getD i z50).f0, (l.getD i z50).f1 + 1⟩) = decide ((l.getD i z50).f1 + 1 ≤ 9) := by
  have h8 := custOk_len h
  unfold custOk
  rw [custFrom_set l none i (custOk_from h) hi, List.length_set, decide_eq_true h8, Bool.and_true]
theorem implNeed_is (l : List S50) (hl : l.length ≤ 1048576) (a : Int) (k : Nat) (hk : 2 * l.length + 20 ≤ k) : impl_NeedingMore.f k l a = some (needP l a) := by
  unfold impl_NeedingMore.f needP
  rw [impl_CustomersOk_is l hl k (by omega), Option.bind_some]
  by_cases hok : custOk l = true
  · rw [if_pos hok]
    by_cases h0 : a < 0
    · rw [if_pos h0, if_neg (fun h => by omega)]
    · rw [if_neg h0]
      by_cases h1 : a ≥ (l.length : Int)
      · rw [if_pos h1, if_neg (fun h => by omega)]
      · rw [if_neg h1, if_pos (by omega), if_pos (by omega)]
        obtain ⟨i, rfl⟩ := Int.eq_ofNat_of_zero_le (show 0 ≤ a by omega)
        have hi : i < l.length := by omega
        have hc := custOk_mem hok _ (getD_mem hi z50)
        rw [rd_Customer_nat, Int.toNat_natCast, custOk_set l hok i hi]
        by_cases h9 : (l.getD i z50).f1 = 9
        · rw [if_pos h9, if_neg (fun h => by have := of_decide_eq_true h.2.2.2; omega)]
        · rw [if_neg h9, clone_is l hl, Option.bind_some, if_pos (by omega), rd_Customer_nat, show wrap64 ((l.getD i z50).f1 + 1) = (l.getD i z50).f1 + 1 from w64 (by omega) (by omega), if_pos ⟨hok, by omega, by omega, decide_eq_true (by omega)⟩]
  · rw [if_neg hok, if_neg (fun h => hok h.1)]
theorem implLater_loop (l : List S50) (hl : l.length ≤ 1048576) (a : Int) : ∀ (q i k : Nat), i + q = l.length → q + 2 * l.length + 20 < k →
    impl_LaterBy.l0 k a ((laterL l a).take i ++ l.drop i) l.length i = some (if custOk (laterL l a) = true then (laterL l a, true) else ([], false)) := by
  have hll : (laterL l a).length = l.length := by unfold laterL; rw [List.length_map]
  intro q
  induction q with
  | zero =>
    intro i k hi hk
    obtain ⟨k, rfl⟩ : ∃ m, k = m + 1 := ⟨k - 1, by omega⟩
    simp only [impl_LaterBy.l0]
    rw [if_neg (by omega), List.take_of_length_le (by omega), List.drop_eq_nil_of_le (by omega), List.append_nil, impl_CustomersOk_is _ (by omega) k (by omega), Option.bind_some]
    split <;> rfl
  | succ q ih =>
    intro i k hi hk
    obtain ⟨k, rfl⟩ : ∃ m, k = m + 1 := ⟨k - 1, by omega⟩
    have hlen : ((laterL l a).take i ++ l.drop i).length = l.length := by rw [List.length_append, List.length_take, List.length_drop]; omega
    have hlt : i < l.length := by omega
    have hget : ((laterL l a).take i ++ l.drop i).getD i z50 = l.getD i z50 := by
      rw [getD_lt (by omega), getD_lt hlt, List.getElem_append_right (by rw [List.length_take]; omega)]
      simp [List.length_take, hll, Nat.min_eq_left (Nat.le_of_lt hlt)]
    have hset : ((laterL l a).take i ++ l.drop i).set i ⟨wrap64 ((l.getD i z50).f0 + a), (l.getD i z50).f1⟩ = (laterL l a).take (i + 1) ++ l.drop (i + 1) := by
      have e : (laterL l a).getD i z50 = ⟨wrap64 ((l.getD i z50).f0 + a), (l.getD i z50).f1⟩ := by
        rw [getD_lt (by omega), getD_lt hlt]
        unfold laterL
        rw [List.getElem_map]
      rw [take_succ_getD (by omega) z50, e, List.set_append_right _ _ (by rw [List.length_take]; omega), List.length_take, hll, Nat.min_eq_left (Nat.le_of_lt hlt), Nat.sub_self, List.drop_eq_getElem_cons hlt, List.set_cons_zero, List.append_assoc, List.singleton_append]
    simp only [impl_LaterBy.l0]
    rw [if_pos (by omega), if_pos (by omega), if_pos (by omega), rd_Customer_nat, hget, Int.toNat_natCast, hset, w64s i (by omega)]
    exact ih (i + 1) k (by omega) (by omega)
theorem implLater_is (l : List S50) (hl : l.length ≤ 1048576) (a : Int) (k : Nat) (hk : 4 * l.length + 40 ≤ k) : impl_LaterBy.f k l a = some (laterP l a) := by
  have hj : ∀ b : Bool, impl_LaterBy.j0 k l a b = some (if b = true then ([], false) else if custOk (laterL l a) = true then (laterL l a, true) else ([], false)) := by
    intro b
    obtain ⟨k, rfl⟩ : ∃ m, k = m + 1 := ⟨k - 1, by omega⟩
    simp only [impl_LaterBy.j0]
    cases b with
    | true => rfl
    | false =>
      rw [if_neg (by simp), clone_is l hl, Option.bind_some]
      have := implLater_loop l hl a l.length 0 k (by omega) (by omega)
      rw [List.take_zero, List.nil_append, List.drop_zero] at this
      rw [if_neg (by simp)]
      exact this
  unfold impl_LaterBy.f laterP
  rw [impl_CustomersOk_is l hl k (by omega), Option.bind_some]
  by_cases hok : custOk l = true
  · rw [if_pos hok]
    by_cases h0 : a < 0
    · rw [if_pos h0, hj, if_pos rfl, if_neg (fun h => by omega)]
    · rw [if_neg h0, hj]
      by_cases h1 : a > 60
      · rw [if_pos (decide_eq_true h1), if_neg (fun h => by omega)]
      · rw [if_neg (by simp; omega)]
        by_cases h2 : custOk (laterL l a) = true
        · rw [if_pos h2, if_pos ⟨hok, h2, by omega, by omega⟩]
        · rw [if_neg h2, if_neg (fun h => h2 h.2.1)]
  · rw [if_neg hok, hj, if_pos rfl, if_neg (fun h => hok h.1)]

/-! deskdo_impl2 -/
theorem implNext_is (k : Nat) (l : List S50) (hok : custOk l = true) (ak aa ab : Int) (hk : 1000 ≤ k) (hbad : ¬ ((ak ≠ 0 ∧ ab ≠ 0) ∨ ((ak = 1 ∨ ak = 4) ∧ aa ≠ 0))) (h4 : ak ≠ 4) : ∃ x o, impl_DeskDo.next k l ak aa ab = some (x, o) ∧ (madeP l ak aa ab).2 = o ∧ (o = true → (madeP l ak aa ab).1 = x) := by
  have h8 := custOk_len hok
  unfold impl_DeskDo.next madeP
  by_cases k0 : ak = 0
  · rw [if_pos k0, if_pos k0, clone_is l (by omega), Option.bind_some, if_pos (by omega), impl_CustomersOk_is _ (by rw [List.length_append]; simp; omega) k (by rw [List.length_append]; simp; omega), Option.bind_some]
    exact ⟨_, _, rfl, rfl, fun _ => rfl⟩
  · rw [if_neg k0, if_neg k0]
    by_cases k1 : ak = 1
    · rw [if_pos k1, if_pos k1]
      by_cases hl : 0 < l.length
      · rw [if_pos hl, clone_is _ (by rw [List.length_take]; omega), Option.bind_some, if_pos (by omega)]
        exact ⟨_, _, rfl, rfl, fun _ => rfl⟩
      · rw [if_neg hl, if_neg (by omega)]
        exact ⟨_, _, rfl, rfl, fun h => by simp at h⟩
    · rw [if_neg k1, if_neg k1]
      by_cases k2 : ak = 2
      · rw [if_pos k2, if_pos k2, if_pos (by omega), implNeed_is l (by omega) aa k (by omega)]
        exact ⟨_, _, rfl, rfl, fun _ => rfl⟩
      · rw [if_neg k2, if_neg k2]
        by_cases k3 : ak = 3
        · rw [if_pos k3]
          by_cases h : 0 < l.length ∧ 0 < aa
          · rw [if_pos h, if_pos (by omega), implLater_is l (by omega) aa k (by omega)]
            exact ⟨_, _, rfl, rfl, fun _ => rfl⟩
          · rw [if_neg h, if_neg (by omega)]
            exact ⟨_, _, rfl, rfl, fun h => by simp at h⟩
        · rw [if_neg k3, if_neg (by omega)]
          exact ⟨_, _, rfl, rfl, fun h => by simp at h⟩
theorem madeP_bad (l : List S50) (ak aa ab : Int) (hbad : (ak ≠ 0 ∧ ab ≠ 0) ∨ ((ak = 1 ∨ ak = 4) ∧ aa ≠ 0)) : (madeP l ak aa ab).2 = false := by
  unfold madeP
  by_cases k0 : ak = 0
  · omega
  · rw [if_neg k0]
    by_cases k1 : ak = 1
    · rw [if_pos k1, if_neg (by omega)]
    · rw [if_neg k1]
      by_cases k2 : ak = 2
      · rw [if_pos k2, if_neg (by omega)]
      · rw [if_neg k2, if_neg (by omega)]
theorem madeP_4 (l : List S50) (aa ab : Int) : (madeP l 4 aa ab).2 = false := by
  unfold madeP
  rw [if_neg (by omega), if_neg (by omega), if_neg (by omega), if_neg (by omega)]
theorem implDo_is (now : List S50) (past : List (List S50)) (hn : now.length ≤ 1000000) (hp : past.length < 8) (hm : ∀ x ∈ past, x.length ≤ 1048576) (ak aa ab : Int) (k : Nat) (hk : 6000000 ≤ k) : impl_DeskDo.f k now past ak aa ab = some (deskDoP now past ak aa ab) := by
  unfold impl_DeskDo.f deskDoP
  rw [impl_DeskOk_is now past (by omega) (by omega) hm k (by omega), Option.bind_some]
  by_cases hok : deskOk now past = true
  · obtain ⟨hc, hcs, -⟩ := deskOk_parts hok
    have h8 := custOk_len hc
    rw [hok, if_neg (by simp), if_pos rfl, implCopy_is now past (by omega) (by omega) hm k (by omega), Option.bind_some]
    dsimp only
    by_cases hbad : (ak ≠ 0 ∧ ab ≠ 0) ∨ ((ak = 1 ∨ ak = 4) ∧ aa ≠ 0)
    · rw [if_pos hbad, if_neg (by omega), if_neg (by rw [madeP_bad now ak aa ab hbad]; simp)]
    · rw [if_neg hbad]
      by_cases k4 : ak = 4
      · subst k4
        rw [if_pos rfl]
        by_cases h0 : past.length = 0
        · rw [if_pos h0, if_neg (by omega), if_neg (by rw [madeP_4]; simp)]
        · rw [if_neg h0, if_pos (by omega)]
      · rw [if_neg k4, if_neg (by omega)]
        obtain ⟨x, o, e, e2, e3⟩ := implNext_is k now hc ak aa ab (by omega) hbad k4
        rw [e, Option.bind_some, e2]
        unfold impl_DeskDo.after
        cases o with
        | false => rw [if_pos rfl, if_neg (by simp)]
        | true =>
          have hx : x.length ≤ 9 := by rw [← e3 rfl]; exact madeP_ok hc (by rw [e2])
          have hpm : ∀ z ∈ past ++ [now], z.length ≤ 1048576 := fun z hz => by
            rcases List.mem_append.1 hz with hz | hz
            · exact hm z hz
            · rw [List.mem_singleton.1 hz]; omega
          rw [if_neg (by simp), if_pos (by omega), if_neg (by omega), implCopy_is x (past ++ [now]) (by omega) (by rw [List.length_append]; simp; omega) hpm k (by rw [List.length_append]; simp; omega), Option.bind_some, if_pos rfl, e3 rfl]
  · rw [Bool.eq_false_iff.mpr hok, if_pos rfl, if_neg (by simp)]

/-! made_facts2 -/
def needS : List S50 → Int
  | [] => 0
  | c :: cs => c.f1 + needS cs
theorem needS_append (a b : List S50) : needS (a ++ b) = needS a + needS b := by
  induction a with
  | nil => simp [needS]
  | cons x xs ih => simp only [List.cons_append, needS, ih]; omega
theorem needS_bound (l : List S50) (h : ∀ c ∈ l, 0 ≤ c.f0 ∧ c.f0 ≤ 60 ∧ 1 ≤ c.f1 ∧ c.f1 ≤ 9) : 0 ≤ needS l ∧ needS l ≤ 9 * l.length := by
  induction l with
  | nil => simp [needS]
  | cons x xs ih =>
    have h1 := h x (by simp)
    have h2 := ih (fun c hc => h c (by simp [hc]))
    simp only [needS, List.length_cons]
    omega
theorem needS_set : ∀ (l : List S50) (i : Nat), i < l.length → needS (l.set i ⟨(l.getD i z50).f0, (l.getD i z50).f1 + 1⟩) = needS l + 1 := by
  intro l
  induction l with
  | nil => intro i h; simp at h
  | cons x xs ih =>
    intro i h
    cases i with
    | zero => show x.f1 + 1 + needS xs = x.f1 + needS xs + 1; omega
    | succ i =>
      have := ih i (by simpa using h)
      show x.f1 + needS (xs.set i ⟨(xs.getD i z50).f0, (xs.getD i z50).f1 + 1⟩) = x.f1 + needS xs + 1
      omega
theorem needS_later (l : List S50) (a : Int) : needS (laterL l a) = needS l := by
  unfold laterL
  induction l with
  | nil => rfl
  | cons x xs ih => simp only [List.map_cons, needS, ih]
theorem custFrom_take : ∀ (l : List S50) (p : Option S50) (n : Nat), custFrom p l = true → custFrom p (l.take n) = true := by
  intro l
  induction l with
  | nil => intro p n _; simp [custFrom]
  | cons x xs ih =>
    intro p n h
    cases n with
    | zero => simp [custFrom]
    | succ n =>
      obtain ⟨hx, ht, hq⟩ := custFrom_tail h
      have h1 := ih (some x) n ht
      rw [List.take_succ_cons]
      cases p with
      | none => simp only [custFrom, h1, Bool.and_true]; exact decide_eq_true hx
      | some q =>
        have := hq q rfl
        simp only [custFrom, h1, Bool.and_true]
        exact decide_eq_true ⟨hx.1, hx.2.1, hx.2.2.1, hx.2.2.2, this⟩
theorem custOk_take (l : List S50) (h : custOk l = true) (n : Nat) : custOk (l.take n) = true := by
  have h8 := custOk_len h
  unfold custOk
  rw [custFrom_take l none n (custOk_from h), Bool.true_and]
  exact decide_eq_true (by rw [List.length_take]; omega)
theorem made_facts (l : List S50) (hl : custOk l = true) (ak aa ab : Int) (h : (madeP l ak aa ab).2 = true) : custOk (madeP l ak aa ab).1 = true ∧ ((ak ≠ 2 ∧ ak ≠ 0) ∨ needS (madeP l ak aa ab).1 > needS l) ∧ (ak ≠ 3 ∨ needS (madeP l ak aa ab).1 = needS l) := by
  unfold madeP at *
  by_cases k0 : ak = 0
  · rw [if_pos k0] at h ⊢
    have h' : custOk (l ++ [⟨aa, ab⟩]) = true := h
    have hm := custOk_mem h' ⟨aa, ab⟩ (by simp)
    refine ⟨h', .inr ?_, .inl (by omega)⟩
    show needS (l ++ [⟨aa, ab⟩]) > needS l
    rw [needS_append]
    have h1 : 1 ≤ ab := hm.2.2.1
    simp only [needS]; omega
  · rw [if_neg k0] at h ⊢
    by_cases k1 : ak = 1
    · rw [if_pos k1] at h ⊢
      by_cases hc : aa = 0 ∧ ab = 0 ∧ 0 < l.length
      · rw [if_pos hc]
        exact ⟨custOk_take l hl _, .inl (by omega), .inl (by omega)⟩
      · rw [if_neg hc] at h; simp at h
    · rw [if_neg k1] at h ⊢
      by_cases k2 : ak = 2
      · rw [if_pos k2] at h ⊢
        by_cases hb : ab = 0
        · rw [if_pos hb] at h ⊢
          unfold needP at *
          split at h
          · rename_i hc
            rw [if_pos hc]
            obtain ⟨i, rfl⟩ := Int.eq_ofNat_of_zero_le hc.2.1
            refine ⟨hc.2.2.2, .inr ?_, .inl (by omega)⟩
            show needS (l.set (i : Int).toNat _) > needS l
            rw [Int.toNat_natCast, needS_set l i (by omega)]
            omega
          · simp at h
        · rw [if_neg hb] at h; simp at h
      · rw [if_neg k2] at h ⊢
        by_cases k3 : ak = 3 ∧ ab = 0 ∧ aa > 0 ∧ 0 < l.length
        · rw [if_pos k3] at h ⊢
          unfold laterP at *
          split at h
          · rename_i hc
            rw [if_pos hc]
            exact ⟨hc.2.1, .inl ⟨k2, k0⟩, .inr (needS_later l aa)⟩
          · simp at h
        · rw [if_neg k3] at h; simp at h

/-! deskdo_gen -/
/-- A desk after a deed, for any desk: of more than eight lists of before the first one is gone. -/
def deskDoG (now : List S50) (past : List (List S50)) (kd a b : Int) : List S50 × List (List S50) × Bool :=
  if deskOk now past = true then
    (if (kd = 4 ∧ a = 0 ∧ b = 0) ∧ 0 < past.length then (past.getD (past.length - 1) [], past.take (past.length - 1), true)
    else if (madeP now kd a b).2 = true then ((madeP now kd a b).1, (if past.length + 1 > 8 then (past ++ [now]).drop 1 else past ++ [now]), true) else (now, past, false))
  else ([], [], false)
theorem implDoG_is (now : List S50) (past : List (List S50)) (hn : now.length ≤ 1000000) (hp : past.length ≤ 900000) (hm : ∀ x ∈ past, x.length ≤ 1048576) (ak aa ab : Int) (k : Nat) (hk : 6000000 ≤ k) : impl_DeskDo.f k now past ak aa ab = some (deskDoG now past ak aa ab) := by
  unfold impl_DeskDo.f deskDoG
  rw [impl_DeskOk_is now past (by omega) (by omega) hm k (by omega), Option.bind_some]
  by_cases hok : deskOk now past = true
  · obtain ⟨hc, hcs, h8p⟩ := deskOk_parts hok
    have h8 := custOk_len hc
    rw [hok, if_neg (by simp), if_pos rfl, implCopy_is now past (by omega) (by omega) hm k (by omega), Option.bind_some]
    dsimp only
    by_cases hbad : (ak ≠ 0 ∧ ab ≠ 0) ∨ ((ak = 1 ∨ ak = 4) ∧ aa ≠ 0)
    · rw [if_pos hbad, if_neg (by omega), if_neg (by rw [madeP_bad now ak aa ab hbad]; simp)]
    · rw [if_neg hbad]
      by_cases k4 : ak = 4
      · subst k4
        rw [if_pos rfl]
        by_cases h0 : past.length = 0
        · rw [if_pos h0, if_neg (by omega), if_neg (by rw [madeP_4]; simp)]
        · rw [if_neg h0, if_pos (by omega)]
      · rw [if_neg k4, if_neg (by omega)]
        obtain ⟨x, o, e, e2, e3⟩ := implNext_is k now hc ak aa ab (by omega) hbad k4
        rw [e, Option.bind_some, e2]
        unfold impl_DeskDo.after
        cases o with
        | false => rw [if_pos rfl, if_neg (by simp)]
        | true =>
          have hx : x.length ≤ 9 := by rw [← e3 rfl]; exact madeP_ok hc (by rw [e2])
          have hpm : ∀ z ∈ past ++ [now], z.length ≤ 1048576 := fun z hz => by
            rcases List.mem_append.1 hz with hz | hz
            · exact hm z hz
            · rw [List.mem_singleton.1 hz]; omega
          have hpl : (past ++ [now]).length = past.length + 1 := by rw [List.length_append]; simp
          have hq : ∀ q : List (List S50), q = (if past.length + 1 > 8 then (past ++ [now]).drop 1 else past ++ [now]) → q.length ≤ past.length + 1 ∧ ∀ z ∈ q, z.length ≤ 1048576 := by
            intro q hq
            rw [hq]
            split
            · exact ⟨by rw [List.length_drop]; omega, fun z hz => hpm z (List.mem_of_mem_drop hz)⟩
            · exact ⟨by omega, hpm⟩
          generalize hqq : (if past.length + 1 > 8 then (past ++ [now]).drop 1 else past ++ [now]) = q at *
          have h9 := hq q rfl
          rw [if_neg (by simp), if_pos (by omega), implCopy_is x q (by omega) (by omega) h9.2 k (by omega), Option.bind_some, if_pos rfl, e3 rfl]
  · rw [Bool.eq_false_iff.mpr hok, if_pos rfl, if_neg (by simp)]

/-! deskrun -/
/-- A deed leaves a desk. -/
theorem deskDoG_ok (now : List S50) (past : List (List S50)) (kd a b : Int) (h : deskOk now past = true) : deskOk (deskDoG now past kd a b).1 (deskDoG now past kd a b).2.1 = true := by
  obtain ⟨hc, hcs, h8⟩ := deskOk_parts h
  unfold deskDoG
  rw [if_pos h]
  by_cases hb : (kd = 4 ∧ a = 0 ∧ b = 0) ∧ 0 < past.length
  · rw [if_pos hb]
    exact deskOk_of (hcs _ (getD_mem (by omega) _)) (fun x hx => hcs x (List.mem_of_mem_take hx)) (by rw [List.length_take]; omega)
  · rw [if_neg hb]
    by_cases hm : (madeP now kd a b).2 = true
    · rw [if_pos hm]
      have hx := (made_facts now hc kd a b hm).1
      have hpl : (past ++ [now]).length = past.length + 1 := by rw [List.length_append]; simp
      have hall : ∀ x ∈ past ++ [now], custOk x = true := fun x hx => by
        rcases List.mem_append.1 hx with hx | hx
        · exact hcs x hx
        · rw [List.mem_singleton.1 hx]; exact hc
      show deskOk (madeP now kd a b).1 (if past.length + 1 > 8 then (past ++ [now]).drop 1 else past ++ [now]) = true
      split
      · exact deskOk_of hx (fun x hx => hall x (List.mem_of_mem_drop hx)) (by rw [List.length_drop]; omega)
      · exact deskOk_of hx hall (by omega)
    · rw [if_neg hm]; exact h
/-- A desk after deeds, and how many were done. -/
def runG : List (Int × Int × Int) → List S50 → List (List S50) → Int → List S50 × List (List S50) × Int
  | [], now, past, n => (now, past, n)
  | d :: ds, now, past, n => if (deskDoG now past d.1 d.2.1 d.2.2).2.2 = true then runG ds (deskDoG now past d.1 d.2.1 d.2.2).1 (deskDoG now past d.1 d.2.1 d.2.2).2.1 (n + 1) else runG ds now past n
theorem runG_append : ∀ (x y : List (Int × Int × Int)) (now : List S50) (past : List (List S50)) (n : Int), runG (x ++ y) now past n = runG y (runG x now past n).1 (runG x now past n).2.1 (runG x now past n).2.2 := by
  intro x
  induction x with
  | nil => intro y now past n; rfl
  | cons d ds ih =>
    intro y now past n
    show runG (d :: (ds ++ y)) now past n = _
    simp only [runG]
    split
    · exact ih y _ _ _
    · exact ih y _ _ _
theorem runG_shift : ∀ (x : List (Int × Int × Int)) (now : List S50) (past : List (List S50)) (n : Int), (runG x now past n).1 = (runG x now past 0).1 ∧ (runG x now past n).2.1 = (runG x now past 0).2.1 ∧ (runG x now past n).2.2 = n + (runG x now past 0).2.2 := by
  intro x
  induction x with
  | nil => intro now past n; exact ⟨rfl, rfl, by simp [runG]⟩
  | cons d ds ih =>
    intro now past n
    simp only [runG]
    split
    · obtain ⟨a1, a2, a3⟩ := ih (deskDoG now past d.1 d.2.1 d.2.2).1 (deskDoG now past d.1 d.2.1 d.2.2).2.1 (n + 1)
      obtain ⟨b1, b2, b3⟩ := ih (deskDoG now past d.1 d.2.1 d.2.2).1 (deskDoG now past d.1 d.2.1 d.2.2).2.1 (0 + 1)
      exact ⟨a1.trans b1.symm, a2.trans b2.symm, by rw [a3, b3]; omega⟩
    · exact ih now past n
theorem runG_ok : ∀ (x : List (Int × Int × Int)) (now : List S50) (past : List (List S50)) (n : Int), deskOk now past = true → deskOk (runG x now past n).1 (runG x now past n).2.1 = true := by
  intro x
  induction x with
  | nil => intro now past n h; exact h
  | cons d ds ih =>
    intro now past n h
    simp only [runG]
    split
    · exact ih _ _ _ (deskDoG_ok now past d.1 d.2.1 d.2.2 h)
    · exact ih _ _ _ h

/-! runcount -/
theorem runG_count : ∀ (x : List (Int × Int × Int)) (now : List S50) (past : List (List S50)) (n : Int), n ≤ (runG x now past n).2.2 ∧ (runG x now past n).2.2 ≤ n + x.length := by
  intro x
  induction x with
  | nil => intro now past n; exact ⟨Int.le_refl _, by simp [runG]⟩
  | cons d ds ih =>
    intro now past n
    simp only [runG, List.length_cons]
    split
    · have := ih (deskDoG now past d.1 d.2.1 d.2.2).1 (deskDoG now past d.1 d.2.1 d.2.2).2.1 (n + 1)
      omega
    · have := ih now past n
      omega

/-! specdo_h -/
theorem specDoG_is (now : List S50) (past : List (List S50)) (hn : now.length ≤ 1000000) (hp : past.length ≤ 900000) (hm : ∀ x ∈ past, x.length ≤ 1048576) (ak aa ab : Int) (k : Nat) (hk : 6000000 ≤ k) : spec_DeskDo.f k now past ak aa ab = some (deskDoG now past ak aa ab) := by
  unfold spec_DeskDo.f deskDoG
  rw [spec_DeskOk_is now past (by omega) (by omega) hm k (by omega), Option.bind_some]
  by_cases hok : deskOk now past = true
  · obtain ⟨hc, hcs, h8p⟩ := deskOk_parts hok
    have h8 := custOk_len hc
    rw [hok, if_neg (by simp), if_pos rfl, l12Copy_is now past (by omega) (by omega) hm k (by omega), Option.bind_some]
    dsimp only
    rw [if_pos rfl]
    by_cases hb : (ak = 4 ∧ aa = 0 ∧ ab = 0) ∧ 0 < past.length
    · rw [if_pos hb, if_pos hb]
    · rw [if_neg hb, if_neg hb, l12Made_is now hn ak aa ab k (by omega), Option.bind_some]
      unfold spec_DeskDo.after
      by_cases hm2 : (madeP now ak aa ab).2 = true
      · rw [hm2, if_neg (by simp), if_pos (by omega), if_pos rfl]
      · rw [Bool.eq_false_iff.mpr hm2, if_pos rfl, if_neg (by simp)]
  · rw [Bool.eq_false_iff.mpr hok, if_pos rfl, if_neg (by simp)]
theorem deskOk_small {now : List S50} {past : List (List S50)} (h : deskOk now past = true) : now.length ≤ 8 ∧ past.length ≤ 8 ∧ ∀ x ∈ past, x.length ≤ 8 := by
  obtain ⟨hc, hcs, h8⟩ := deskOk_parts h
  exact ⟨custOk_len hc, h8, fun x hx => custOk_len (hcs x hx)⟩
theorem specDo_all (now : List S50) (past : List (List S50)) (hn : now.length ≤ 1048576) (hp : past.length ≤ 1048576) (hm : ∀ x ∈ past, x.length ≤ 1048576) (ak aa ab : Int) (k : Nat) (hk : 6000000 ≤ k) : spec_DeskDo.f k now past ak aa ab = some (deskDoG now past ak aa ab) := by
  by_cases hok : deskOk now past = true
  · obtain ⟨h1, h2, h3⟩ := deskOk_small hok
    exact specDoG_is now past (by omega) (by omega) hm ak aa ab k hk
  · unfold spec_DeskDo.f deskDoG
    rw [spec_DeskOk_is now past (by omega) (by omega) hm k (by omega), Option.bind_some, Bool.eq_false_iff.mpr hok, if_pos rfl, if_neg (by simp)]
theorem implDo_all (now : List S50) (past : List (List S50)) (hn : now.length ≤ 1048576) (hp : past.length ≤ 1048576) (hm : ∀ x ∈ past, x.length ≤ 1048576) (ak aa ab : Int) (k : Nat) (hk : 6000000 ≤ k) : impl_DeskDo.f k now past ak aa ab = some (deskDoG now past ak aa ab) := by
  by_cases hok : deskOk now past = true
  · obtain ⟨h1, h2, h3⟩ := deskOk_small hok
    exact implDoG_is now past (by omega) (by omega) hm ak aa ab k hk
  · unfold impl_DeskDo.f deskDoG
    rw [impl_DeskOk_is now past (by omega) (by omega) hm k (by omega), Option.bind_some, Bool.eq_false_iff.mpr hok, if_pos rfl, if_neg (by simp)]
theorem deskDoG_small (now : List S50) (past : List (List S50)) (ak aa ab : Int) : (deskDoG now past ak aa ab).1.length ≤ 8 ∧ (deskDoG now past ak aa ab).2.1.length ≤ 8 ∧ ∀ x ∈ (deskDoG now past ak aa ab).2.1, x.length ≤ 8 := by
  by_cases hok : deskOk now past = true
  · exact deskOk_small (deskDoG_ok now past ak aa ab hok)
  · unfold deskDoG
    rw [if_neg hok]
    exact ⟨by simp, by simp, fun x hx => by cases hx⟩

/-! drawdesk_h -/
/-- By hand: fewer than eight lists of before. -/
theorem spec_DeskDo_is (now : List S50) (past : List (List S50)) (hn : now.length ≤ 1000000) (hp : past.length < 8) (hm : ∀ x ∈ past, x.length ≤ 1048576) (kd a b : Int) (k : Nat) (hk : 6000000 ≤ k) : spec_DeskDo.f k now past kd a b = some (deskDoP now past kd a b) := by
  rw [specDoG_is now past hn (by omega) hm kd a b k hk]
  unfold deskDoG deskDoP
  rw [if_neg (show ¬ past.length + 1 > 8 by omega)]
theorem deskDoP_size (now : List S50) (past : List (List S50)) (kd a b : Int) (hn : now.length ≤ 200) (hm : ∀ x ∈ past, x.length ≤ 200) : (deskDoP now past kd a b).1.length ≤ 200 ∧ (∀ x ∈ (deskDoP now past kd a b).2.1, x.length ≤ 200) ∧ (deskDoP now past kd a b).2.1.length ≤ past.length + 1 := by
  unfold deskDoP
  by_cases h : deskOk now past = true
  · rw [if_pos h]
    by_cases h4 : (kd = 4 ∧ a = 0 ∧ b = 0) ∧ 0 < past.length
    · rw [if_pos h4]
      exact ⟨hm _ (getD_mem (by omega) _), fun x hx => hm x (List.mem_of_mem_take hx), by rw [List.length_take]; omega⟩
    · rw [if_neg h4]
      by_cases hd : (madeP now kd a b).2 = true
      · rw [if_pos hd]
        have := madeP_ok (deskOk_parts h).1 hd
        refine ⟨by dsimp only; omega, fun x hx => ?_, by dsimp only; rw [List.length_append]; simp⟩
        rcases List.mem_append.1 hx with hx | hx
        · exact hm x hx
        · rw [List.mem_singleton.1 hx]; exact hn
      · rw [if_neg hd]; exact ⟨hn, hm, by dsimp only; omega⟩
  · rw [if_neg h]; exact ⟨by simp, by simp, by simp⟩
theorem l20Desk_loop {s : List Int} (hs : ∀ x ∈ s, 0 ≤ x ∧ x ≤ 255) (hl : s.length ≤ 2000) (n : Int) (hn : n ≤ 1000) : ∀ (d k : Nat) (p : Int) (now : List S50) (past : List (List S50)), d + 6000200 ≤ k → 0 ≤ p → p + 10 * d ≤ 600000 → now.length ≤ 200 → (∀ x ∈ past, x.length ≤ 200) → past.length + d ≤ 7 →
    ∃ now' past' q, spec_l20Desk.l0 k n (d : Int) s p now past = some (now', past', q) ∧ now'.length ≤ 200 ∧ (∀ x ∈ past', x.length ≤ 200) ∧ past'.length ≤ past.length + d + 1 ∧ p ≤ q ∧ q ≤ p + 10 * d + 2 := by
  intro d
  induction d with
  | zero =>
    intro k p now past hk hp hp2 h1 h2 h3
    obtain ⟨k, rfl⟩ : ∃ m, k = m + 1 := ⟨k - 1, by omega⟩
    simp only [spec_l20Desk.l0]
    obtain ⟨o, q, e, g1, g2, -⟩ := odd_ok (k := k) (by omega) hs hl p hp (by omega) n hn
    rw [if_neg (by omega), e, Option.bind_some]; dsimp only
    by_cases ho : o = true
    · rw [if_pos ho]
      obtain ⟨v, e2, -⟩ := pick_ok (k := k) (by omega) hs hl q (by omega) (by omega) 2
      rw [e2, Option.bind_some]; dsimp only
      by_cases hv : v = 0
      · rw [if_pos hv]; exact ⟨_, _, _, rfl, by simp, h2, by omega, by omega, by omega⟩
      · rw [if_neg hv, if_pos (by omega)]
        refine ⟨_, _, _, rfl, h1, fun x hx => ?_, by rw [List.length_append]; simp, by omega, by omega⟩
        rcases List.mem_append.1 hx with hx | hx
        · exact h2 x hx
        · rw [List.mem_singleton.1 hx]; simp
    · rw [if_neg ho]; exact ⟨_, _, _, rfl, h1, h2, by omega, by omega, by omega⟩
  | succ d ih =>
    intro k p now past hk hp hp2 h1 h2 h3
    obtain ⟨k, rfl⟩ : ∃ m, k = m + 1 := ⟨k - 1, by omega⟩
    simp only [spec_l20Desk.l0]
    obtain ⟨kd, a, b, q, e, g1, g2⟩ := l20Deed_ok hs hl k (by omega) p hp (by omega) now (by omega)
    have hz := deskDoP_size now past kd a b h1 h2
    rw [if_pos (by omega), if_pos (by omega), e, Option.bind_some]; dsimp only
    rw [spec_DeskDo_is now past (by omega) (by omega) (fun x hx => by have := h2 x hx; omega) kd a b k (by omega), Option.bind_some, show wrap64 (((d + 1 : Nat) : Int) - 1) = (d : Int) from by rw [w64 (by omega) (by omega)]; omega]
    by_cases hd : (deskDoP now past kd a b).2.2 = true
    · rw [if_pos hd]
      obtain ⟨n', p', q', e2, f1, f2, f3, f4, f5⟩ := ih k q _ _ (by omega) (by omega) (by omega) hz.1 hz.2.1 (by omega)
      exact ⟨n', p', q', e2, f1, f2, by omega, by omega, by omega⟩
    · rw [if_neg hd]
      obtain ⟨n', p', q', e2, f1, f2, f3, f4, f5⟩ := ih k q now past (by omega) (by omega) (by omega) h1 h2 (by omega)
      exact ⟨n', p', q', e2, f1, f2, by omega, by omega, by omega⟩
theorem l20Desk_ok {s : List Int} (hs : ∀ x ∈ s, 0 ≤ x ∧ x ≤ 255) (hl : s.length ≤ 2000) (n : Int) (hn : n ≤ 1000) (k : Nat) (hk : 6001000 ≤ k) :
    ∃ now past q, spec_l20Desk.f k s 0 n = some (now, past, q) ∧ now.length ≤ 200 ∧ (∀ x ∈ past, x.length ≤ 200) ∧ past.length ≤ 6 ∧ 0 ≤ q ∧ q ≤ 1000 := by
  unfold spec_l20Desk.f
  obtain ⟨r, q, e, h1, h2, h3⟩ := l20Customers_ok hs hl 0 (by omega) k (by omega) 0 (by omega) (by omega)
  rw [e, Option.bind_some]; dsimp only
  have hd : (deskNewP r).length ≤ 200 := by
    unfold deskNewP
    split
    · omega
    · simp
  rw [spec_DeskNew_is r (by omega) k (by omega), Option.bind_some]
  obtain ⟨v, e2, g1, g2, -⟩ := pick_ok (k := k) (by omega) hs hl q (by omega) (by omega) 6
  have g2' := g2 (by omega)
  obtain ⟨d, rfl⟩ := Int.eq_ofNat_of_zero_le g1
  rw [e2, Option.bind_some]; dsimp only
  obtain ⟨n', p', q', e3, f1, f2, f3, f4, f5⟩ := l20Desk_loop hs hl n hn d k (q + 1) (deskNewP r) [] (by omega) (by omega) (by omega) hd (by simp) (by simp; omega)
  simp only [List.length_nil] at f3
  exact ⟨n', p', q', e3, f1, f2, by omega, by omega, by omega⟩

/-! deskrun_h -/
def tri (d : S52) : Int × Int × Int := (d.f0, d.f1, d.f2)
theorem implGo_is (k : Nat) (hk : 6000000 ≤ k) : ∀ (ds : List S52) (now : List S50) (past : List (List S50)) (n : Int), deskOk now past = true → impl_DeskRun.go k ds now past n = some (runG (ds.map tri) now past n) := by
  intro ds
  induction ds with
  | nil => intro now past n _; rfl
  | cons d ds ih =>
    intro now past n h
    obtain ⟨h1, h2, h3⟩ := deskOk_small h
    simp only [impl_DeskRun.go, List.map_cons, runG, tri]
    rw [implDo_all now past (by omega) (by omega) (fun x hx => by have := h3 x hx; omega) d.f0 d.f1 d.f2 k hk, Option.bind_some]
    by_cases hb : (deskDoG now past d.f0 d.f1 d.f2).2.2 = true
    · rw [if_pos hb, if_pos hb]
      exact ih _ _ _ (deskDoG_ok now past d.f0 d.f1 d.f2 h)
    · rw [if_neg hb, if_neg hb]
      exact ih _ _ _ h
theorem specGo_is (k : Nat) (hk : 6000000 ≤ k) : ∀ (ds : List S52) (now : List S50) (past : List (List S50)) (n : Int), deskOk now past = true → spec_DeskRun.go k ds now past n = some (runG (ds.map tri) now past n) := by
  intro ds
  induction ds with
  | nil => intro now past n _; rfl
  | cons d ds ih =>
    intro now past n h
    obtain ⟨h1, h2, h3⟩ := deskOk_small h
    simp only [spec_DeskRun.go, List.map_cons, runG, tri]
    rw [specDo_all now past (by omega) (by omega) (fun x hx => by have := h3 x hx; omega) d.f0 d.f1 d.f2 k hk, Option.bind_some]
    by_cases hb : (deskDoG now past d.f0 d.f1 d.f2).2.2 = true
    · rw [if_pos hb, if_pos hb]
      exact ih _ _ _ (deskDoG_ok now past d.f0 d.f1 d.f2 h)
    · rw [if_neg hb, if_neg hb]
      exact ih _ _ _ h
/-- A desk after deeds. -/
def deskRunP (now : List S50) (past : List (List S50)) (ds : List S52) : List S50 × List (List S50) × Int :=
  if deskOk now past = true ∧ ds.length ≤ 40 then runG (ds.map tri) now past 0 else ([], [], 0)
theorem implRun_is (now : List S50) (past : List (List S50)) (hn : now.length ≤ 1048576) (hp : past.length ≤ 1048576) (hm : ∀ x ∈ past, x.length ≤ 1048576) (ds : List S52) (k : Nat) (hk : 6000000 ≤ k) : impl_DeskRun.f k now past ds = some (deskRunP now past ds) := by
  unfold impl_DeskRun.f deskRunP
  rw [impl_DeskOk_is now past (by omega) (by omega) hm k (by omega), Option.bind_some]
  by_cases hok : deskOk now past = true
  · rw [hok, if_neg (by simp)]
    by_cases h4 : 40 < ds.length
    · rw [if_pos h4, if_neg (by omega)]
    · rw [if_neg h4, implCopy_is now past (by omega) (by omega) hm k (by omega), Option.bind_some, if_pos ⟨rfl, by omega⟩]
      exact implGo_is k hk ds now past 0 hok
  · rw [Bool.eq_false_iff.mpr hok, if_pos rfl, if_neg (by simp)]
theorem specRun_is (now : List S50) (past : List (List S50)) (hn : now.length ≤ 1048576) (hp : past.length ≤ 1048576) (hm : ∀ x ∈ past, x.length ≤ 1048576) (ds : List S52) (k : Nat) (hk : 6000000 ≤ k) : spec_DeskRun.f k now past ds = some (deskRunP now past ds) := by
  unfold spec_DeskRun.f deskRunP
  rw [spec_DeskOk_is now past (by omega) (by omega) hm k (by omega), Option.bind_some]
  by_cases hok : deskOk now past = true
  · rw [hok, if_neg (by simp)]
    by_cases h4 : 40 < ds.length
    · rw [if_pos h4, if_neg (by omega)]
    · rw [if_neg h4, l12Copy_is now past (by omega) (by omega) hm k (by omega), Option.bind_some, if_pos ⟨rfl, by omega⟩]
      exact specGo_is k hk ds now past 0 hok
  · rw [Bool.eq_false_iff.mpr hok, if_pos rfl, if_neg (by simp)]
theorem deskRunP_small (now : List S50) (past : List (List S50)) (ds : List S52) : (deskRunP now past ds).1.length ≤ 8 ∧ (deskRunP now past ds).2.1.length ≤ 8 ∧ ∀ x ∈ (deskRunP now past ds).2.1, x.length ≤ 8 := by
  unfold deskRunP
  by_cases h : deskOk now past = true ∧ ds.length ≤ 40
  · rw [if_pos h]
    exact deskOk_small (runG_ok _ now past 0 h.1)
  · rw [if_neg h]
    exact ⟨by simp, by simp, fun x hx => by cases hx⟩

/-! law_DeskRun -/
theorem l20Deeds_loop {s : List Int} (hs : ∀ x ∈ s, 0 ≤ x ∧ x ≤ 255) (hl : s.length ≤ 2000) (l : List S50) (hll : l.length ≤ 1000) : ∀ (d k : Nat) (p : Int) (X : List S52), d + 10 ≤ k → 0 ≤ p → p + 10 * d ≤ 600000 → X.length + d ≤ 1000 →
    ∃ r q, spec_l20Deeds.l0 k l X (d : Int) s p = some (r, q) := by
  intro d
  induction d with
  | zero =>
    intro k p X hk hp hp2 hX
    obtain ⟨k, rfl⟩ : ∃ m, k = m + 1 := ⟨k - 1, by omega⟩
    simp only [spec_l20Deeds.l0]
    rw [if_neg (by omega)]
    exact ⟨_, _, rfl⟩
  | succ d ih =>
    intro k p X hk hp hp2 hX
    obtain ⟨k, rfl⟩ : ∃ m, k = m + 1 := ⟨k - 1, by omega⟩
    simp only [spec_l20Deeds.l0]
    obtain ⟨kd, a, b, q, e, g1, g2⟩ := l20Deed_ok hs hl k (by omega) p hp (by omega) l hll
    rw [if_pos (by omega), e, Option.bind_some]; dsimp only
    rw [if_pos (by omega), show wrap64 (((d + 1 : Nat) : Int) - 1) = (d : Int) from by rw [w64 (by omega) (by omega)]; omega]
    exact ih k q _ (by omega) (by omega) (by omega) (by rw [List.length_append]; simp; omega)
theorem FnDeskRun : laws_FnDeskRun.Pure := by
  intro l0 hl hl2 hb
  obtain ⟨K, hK⟩ : ∃ K, K = 9000000 := ⟨_, rfl⟩
  refine ⟨K, ?_⟩
  unfold laws_FnDeskRun.f
  by_cases hbig : (l0.length : Int) > 1048576
  · rw [if_pos hbig]
  · rw [if_neg hbig]
    have hd : ∃ now past ds, spec_DrawDeskRun.f K l0 = some (now, past, ds) ∧ now.length ≤ 200 ∧ (∀ x ∈ past, x.length ≤ 200) ∧ past.length ≤ 6 := by
      unfold spec_DrawDeskRun.f
      obtain ⟨s, e0, hs, hls⟩ := open_ok (bytes_of hb)
      rw [e0, Option.bind_some]; dsimp only
      obtain ⟨now, past, q, e, h1, h2, h3, h4, h5⟩ := l20Desk_ok hs hls 12 (by omega) K (by omega)
      rw [e, Option.bind_some]; dsimp only
      obtain ⟨o, q2, e2, g1, g2, -⟩ := odd_ok (k := K) (by omega) hs hls q h4 (by omega) 30 (by omega)
      rw [e2, Option.bind_some]; dsimp only
      by_cases ho : o = true
      · rw [if_pos ho, if_pos (by omega)]
        exact ⟨_, _, _, rfl, h1, h2, h3⟩
      · rw [if_neg ho]
        unfold spec_l20Deeds.f
        obtain ⟨v, e3, f1, f2, -⟩ := pick_ok (k := K) (by omega) hs hls q2 (by omega) (by omega) 6
        have f2' := f2 (by omega)
        obtain ⟨d, rfl⟩ := Int.eq_ofNat_of_zero_le f1
        rw [e3, Option.bind_some]; dsimp only
        obtain ⟨r, q3, e4⟩ := l20Deeds_loop hs hls now (by omega) d K (q2 + 1) [] (by omega) (by omega) (by omega) (by simp; omega)
        rw [e4, Option.bind_some]
        exact ⟨_, _, _, rfl, h1, h2, h3⟩
    obtain ⟨now, past, ds, e, h1, h2, h3⟩ := hd
    have hm : ∀ x ∈ past, x.length ≤ 1048576 := fun x hx => by have := h2 x hx; omega
    have hal := alive_is K (by omega)
    rw [e, Option.bind_some]; dsimp only
    rw [implRun_is now past (by omega) (by omega) hm ds K (by omega), Option.bind_some, specRun_is now past (by omega) (by omega) hm ds K (by omega), Option.bind_some]
    obtain ⟨s1, s2, s3⟩ := deskRunP_small now past ds
    have s3' : ∀ x ∈ (deskRunP now past ds).2.1, x.length ≤ 1048576 := fun x hx => by have := s3 x hx; omega
    rw [sameDesk_is _ _ (by omega) (by omega) s3' K (by omega), Option.bind_some, if_pos ⟨rfl, rfl⟩, spec_DeskOk_is now past (by omega) (by omega) hm K (by omega), Option.bind_some]
    by_cases hr : deskOk now past = true ∧ ds.length ≤ 40
    · obtain ⟨hok, h40⟩ := hr
      rw [hok, if_neg (fun h => h.elim (fun h => by cases h) (fun h => by omega))]
      have hR : deskRunP now past ds = runG (ds.map tri) now past 0 := by unfold deskRunP; rw [if_pos ⟨hok, h40⟩]
      have hlt : (ds.take (ds.length / 2)).length ≤ 40 := by rw [List.length_take]; omega
      have hld : (ds.drop (ds.length / 2)).length ≤ 40 := by rw [List.length_drop]; omega
      have hA : deskRunP now past (ds.take (ds.length / 2)) = runG ((ds.take (ds.length / 2)).map tri) now past 0 := by unfold deskRunP; rw [if_pos ⟨hok, hlt⟩]
      have happ := runG_append ((ds.take (ds.length / 2)).map tri) ((ds.drop (ds.length / 2)).map tri) now past 0
      rw [← List.map_append, List.take_append_drop] at happ
      have hokA := runG_ok ((ds.take (ds.length / 2)).map tri) now past 0 hok
      obtain ⟨t1, t2, t3⟩ := deskRunP_small now past (ds.take (ds.length / 2))
      rw [implRun_is now past (by omega) (by omega) hm _ K (by omega), Option.bind_some]
      rw [implRun_is _ _ (by omega) (by omega) (fun x hx => by have := t3 x hx; omega) _ K (by omega), Option.bind_some]
      have hdk : deskOk (deskRunP now past ds).1 (deskRunP now past ds).2.1 = true := by rw [hR]; exact runG_ok _ now past 0 hok
      rw [impl_DeskOk_is _ _ (by omega) (by omega) s3' K (by omega), Option.bind_some, if_pos hdk]
      have hC : deskRunP (deskRunP now past (ds.take (ds.length / 2))).1 (deskRunP now past (ds.take (ds.length / 2))).2.1 (ds.drop (ds.length / 2)) = runG ((ds.drop (ds.length / 2)).map tri) (runG ((ds.take (ds.length / 2)).map tri) now past 0).1 (runG ((ds.take (ds.length / 2)).map tri) now past 0).2.1 0 := by
        rw [hA]
        unfold deskRunP
        rw [if_pos ⟨hokA, hld⟩]
      rw [hC, hA, hR, happ]
      have hcnt := runG_count ((ds.drop (ds.length / 2)).map tri) (runG ((ds.take (ds.length / 2)).map tri) now past 0).1 (runG ((ds.take (ds.length / 2)).map tri) now past 0).2.1 0
      have hcnt2 := runG_count ((ds.take (ds.length / 2)).map tri) now past 0
      rw [List.length_map] at hcnt hcnt2
      obtain ⟨u1, u2, u3⟩ := runG_shift ((ds.drop (ds.length / 2)).map tri) (runG ((ds.take (ds.length / 2)).map tri) now past 0).1 (runG ((ds.take (ds.length / 2)).map tri) now past 0).2.1 (runG ((ds.take (ds.length / 2)).map tri) now past 0).2.2
      rw [u1, u2, u3]
      rw [hR, happ, u1] at s1
      rw [hR, happ, u2] at s2 s3'
      rw [sameDesk_is _ _ (by omega) (by omega) s3' K (by omega), Option.bind_some, if_pos ⟨rfl, rfl, by omega, by omega⟩, hal]
    · have hR : deskRunP now past ds = ([], [], 0) := by unfold deskRunP; rw [if_neg hr]
      rw [hR]; dsimp only
      rw [if_pos (by
        by_cases hok : deskOk now past = true
        · exact .inr (by have : ¬ ds.length ≤ 40 := fun h => hr ⟨hok, h⟩; omega)
        · exact .inl (Bool.eq_false_iff.mpr hok)), if_pos rfl]
      unfold laws_noDesk.f
      rw [sameDesk_is [] [] (by simp) (by simp) (fun x hx => by cases hx) K (by omega), Option.bind_some, Option.bind_some, if_pos rfl, hal]

end Go.Proofs.Ytocnifoohecmeaa.Pure
