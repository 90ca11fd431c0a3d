/- The pure part of the proof of FnExactDeskNew: the printed functions answer true, for every drawn or given argument within the row's own bounds; no further condition. -/
import Derived.Test.YtocnifoohecmeaaPFnExactDeskNewx5
import Derived.Laws.BitsLemmas
namespace Go.Proofs.Ytocnifoohecmeaa.Pure
open Go.RowKit Go.Proofs.Ytocnifoohecmeaa.PFnExactDeskNew Go.Proofs.YtocnifoohecmeaaW.PrintWords Go.Proofs.YtocnifoohecmeaaW.PrintLast Go.Proofs.YtocnifoohecmeaaW.PrintMore
set_option linter.unusedVariables false
set_option linter.unusedSimpArgs false
/-! base -/
theorem w64 {x : Int} (h0 : -9223372036854775808 ≤ x) (h1 : x ≤ 9223372036854775807) : wrap64 x = x := by
  unfold wrap64
  omega
theorem w64s (n : Nat) (h : n ≤ 4611686018427387904) : wrap64 ((n : Int) + 1) = ((n + 1 : Nat) : Int) := by
  unfold wrap64
  omega
theorem drop_split {α : Type} {l : List α} {i : Nat} {x : α} {xs : List α} (h : l.drop i = x :: xs) : i < l.length ∧ l.drop (i + 1) = xs ∧ ∀ d, l.getD i d = x := by
  have hi : i < l.length := by
    have h2 : 0 < (l.drop i).length := by rw [h]; simp
    rw [List.length_drop] at h2
    omega
  rw [List.drop_eq_getElem_cons hi] at h
  injection h with h1 h2
  exact ⟨hi, h2, fun d => by rw [List.getD_eq_getElem?_getD, List.getElem?_eq_getElem hi, h1]; rfl⟩
theorem drop_nil {α : Type} {l : List α} {i : Nat} (h : l.drop i = []) : l.length ≤ i := List.drop_eq_nil_iff.1 h
theorem getD_lt {α : Type} {l : List α} {i : Nat} (h : i < l.length) (d : α) : l.getD i d = l[i] := by
  rw [List.getD_eq_getElem?_getD, List.getElem?_eq_getElem h]; rfl
theorem rd_nat (l : List Int) (i : Nat) : rd l (i : Int) = l.getD i 0 := by
  unfold rd
  rw [Int.toNat_natCast]
theorem getD_mem {α : Type} {l : List α} {i : Nat} (h : i < l.length) (d : α) : l.getD i d ∈ l := by
  rw [getD_lt h]; exact List.getElem_mem h
theorem take_succ_getD {α : Type} {l : List α} {i : Nat} (h : i < l.length) (d : α) : l.take (i + 1) = l.take i ++ [l.getD i d] := by
  rw [getD_lt h, List.take_succ_eq_append_getElem h]
theorem mx_max (a b : Int) : mx a b = max a b := by
  unfold mx; omega
theorem mn_min (a b : Int) : mn a b = min a b := by
  unfold mn; omega
theorem bind_of {α β : Type} {o : Option α} {r : α} {f : α → Option β} {s : Option β} (h : o = some r) (h2 : f r = s) : o.bind f = s := by rw [h]; exact h2
theorem getD_snoc_last {α : Type} (l : List α) (x d : α) {i : Nat} (h : l.length = i) : (l ++ [x]).getD i d = x := by
  subst h
  rw [List.getD_eq_getElem?_getD, List.getElem?_append_right (Nat.le_refl _), Nat.sub_self]
  rfl
theorem getD_snoc_lt {α : Type} (l r : List α) (d : α) {i : Nat} (h : i < l.length) : (l ++ r).getD i d = l.getD i d := by
  rw [List.getD_eq_getElem?_getD, List.getElem?_append_left h, List.getD_eq_getElem?_getD]

/-! l1in -/
theorem spec_l1In_is (a b c : Int) : spec_l1In.f a b c = some (decide (b ≤ a ∧ a ≤ c)) := by
  unfold spec_l1In.f
  by_cases h : a ≥ b
  · rw [if_pos h]
    congr 1
    apply decide_eq_decide.2
    omega
  · rw [if_neg h]
    congr 1
    symm
    exact decide_eq_false (by omega)

/-! customers -/
/-- Customers, as both texts ask: seen from a place on, with the one ahead. -/
def custFrom : Option S50 → List S50 → Bool
  | _, [] => true
  | none, c :: cs => decide (0 ≤ c.f0 ∧ c.f0 ≤ 60 ∧ 1 ≤ c.f1 ∧ c.f1 ≤ 9) && custFrom (some c) cs
  | some p, c :: cs => decide (0 ≤ c.f0 ∧ c.f0 ≤ 60 ∧ 1 ≤ c.f1 ∧ c.f1 ≤ 9 ∧ p.f0 ≤ c.f0) && custFrom (some c) cs
def custOk (l : List S50) : Bool := custFrom none l && decide (l.length ≤ 8)
theorem rd_Customer_nat (l : List S50) (i : Nat) : rd_T50 l (i : Int) = l.getD i z50 := by
  unfold rd_T50
  rw [Int.toNat_natCast]
theorem cust_bad {p : Option S50} {x : S50} {xs : List S50} (h : ¬ (0 ≤ x.f0 ∧ x.f0 ≤ 60 ∧ 1 ≤ x.f1 ∧ x.f1 ≤ 9)) : custFrom p (x :: xs) = false := by
  cases p with
  | none => simp only [custFrom, decide_eq_false h, Bool.false_and]
  | some q => simp only [custFrom, decide_eq_false (show ¬ (0 ≤ x.f0 ∧ x.f0 ≤ 60 ∧ 1 ≤ x.f1 ∧ x.f1 ≤ 9 ∧ q.f0 ≤ x.f0) from fun hh => h ⟨hh.1, hh.2.1, hh.2.2.1, hh.2.2.2.1⟩), Bool.false_and]
theorem cust_bad2 {p x : S50} {xs : List S50} (h : x.f0 < p.f0) : custFrom (some p) (x :: xs) = false := by
  simp only [custFrom, decide_eq_false (show ¬ (0 ≤ x.f0 ∧ x.f0 ≤ 60 ∧ 1 ≤ x.f1 ∧ x.f1 ≤ 9 ∧ p.f0 ≤ x.f0) from fun hh => by omega), Bool.false_and]
theorem impl_CustomersOk_loop (l : List S50) (hl : l.length ≤ 1048576) : ∀ (suf : List S50) (i k : Nat), l.drop i = suf → suf.length < k → i ≤ l.length →
    impl_CustomersOk.l0 k l l (l.length : Int) i = some (custFrom (if i = 0 then none else some (l.getD (i - 1) z50)) suf && decide (l.length ≤ 8)) := by
  intro suf
  induction suf with
  | nil =>
    intro i k hd hk hi
    obtain ⟨k, rfl⟩ : ∃ m, k = m + 1 := ⟨k - 1, by omega⟩
    have := drop_nil hd
    simp only [impl_CustomersOk.l0]
    rw [if_neg (by omega)]
    congr 1
    have e : (decide ((l.length : Int) ≤ 8)) = decide (l.length ≤ 8) := decide_eq_decide.2 (by omega)
    rw [e]
    split <;> simp [custFrom]
  | cons x xs ih =>
    intro i k hd hk hi
    obtain ⟨k, rfl⟩ : ∃ m, k = m + 1 := ⟨k - 1, by omega⟩
    obtain ⟨hlt, hd2, hx⟩ := drop_split hd
    simp only [impl_CustomersOk.l0]
    rw [if_pos (by omega), if_pos (by omega), if_pos (by omega), rd_Customer_nat, hx, w64s i (by omega), ih (i + 1) k hd2 (by simp at hk; omega) (by omega)]
    rw [if_neg (show ¬ i + 1 = 0 by omega), show i + 1 - 1 = i from rfl, hx]
    by_cases h1 : x.f0 < 0
    · rw [if_pos h1, cust_bad (by omega), Bool.false_and]
    rw [if_neg h1]
    by_cases h2 : x.f0 > 60
    · rw [if_pos h2, cust_bad (by omega), Bool.false_and]
    rw [if_neg h2]
    by_cases hi0 : i = 0
    · subst hi0
      rw [if_neg (by omega)]
      by_cases h3 : x.f1 < 1
      · rw [if_pos h3, cust_bad (by omega), Bool.false_and]
      rw [if_neg h3]
      by_cases h4 : x.f1 > 9
      · rw [if_pos h4, cust_bad (by omega), Bool.false_and]
      rw [if_neg h4, if_pos rfl]
      have e : decide (0 ≤ x.f0 ∧ x.f0 ≤ 60 ∧ 1 ≤ x.f1 ∧ x.f1 ≤ 9) = true := decide_eq_true (by omega)
      simp only [custFrom, e, Bool.true_and]
    · rw [if_pos (by omega), show wrap64 ((i : Int) - 1) = ((i - 1 : Nat) : Int) from by rw [w64 (by omega) (by omega)]; omega, if_pos (by omega), if_pos (by omega), rd_Customer_nat, if_neg hi0]
      by_cases h5 : x.f0 < (l.getD (i - 1) z50).f0
      · rw [if_pos h5, cust_bad2 h5, Bool.false_and]
      rw [if_neg h5]
      by_cases h3 : x.f1 < 1
      · rw [if_pos h3, cust_bad (by omega), Bool.false_and]
      rw [if_neg h3]
      by_cases h4 : x.f1 > 9
      · rw [if_pos h4, cust_bad (by omega), Bool.false_and]
      rw [if_neg h4]
      have e : decide (0 ≤ x.f0 ∧ x.f0 ≤ 60 ∧ 1 ≤ x.f1 ∧ x.f1 ≤ 9 ∧ (l.getD (i - 1) z50).f0 ≤ x.f0) = true := decide_eq_true (by omega)
      simp only [custFrom, e, Bool.true_and]
theorem impl_CustomersOk_is (l : List S50) (hl : l.length ≤ 1048576) (k : Nat) (hk : l.length < k) : impl_CustomersOk.f k l = some (custOk l) := by
  unfold impl_CustomersOk.f
  exact impl_CustomersOk_loop l hl l 0 k rfl hk (by omega)

/-! custspec -/
theorem spec_CustomersOk_loop (l : List S50) (hl : l.length ≤ 1048576) : ∀ (suf : List S50) (i k : Nat), l.drop i = suf → suf.length < k → i ≤ l.length →
    spec_CustomersOk.l0 k l i = some (custFrom (if i = 0 then none else some (l.getD (i - 1) z50)) suf && decide (l.length ≤ 8)) := by
  intro suf
  induction suf with
  | nil =>
    intro i k hd hk hi
    obtain ⟨k, rfl⟩ : ∃ m, k = m + 1 := ⟨k - 1, by omega⟩
    have := drop_nil hd
    simp only [spec_CustomersOk.l0]
    rw [if_neg (by omega)]
    congr 1
    have e : (decide ((l.length : Int) ≤ 8)) = decide (l.length ≤ 8) := decide_eq_decide.2 (by omega)
    rw [e]
    split <;> simp [custFrom]
  | cons x xs ih =>
    intro i k hd hk hi
    obtain ⟨k, rfl⟩ : ∃ m, k = m + 1 := ⟨k - 1, by omega⟩
    obtain ⟨hlt, hd2, hx⟩ := drop_split hd
    simp only [spec_CustomersOk.l0]
    rw [if_pos (by omega), if_pos (by omega), rd_Customer_nat, hx, spec_l1In_is, spec_l1In_is, w64s i (by omega), ih (i + 1) k hd2 (by simp at hk; omega) (by omega)]
    simp only [Option.bind_some, decide_eq_true_eq]
    rw [if_neg (show ¬ i + 1 = 0 by omega), show i + 1 - 1 = i from rfl, hx]
    by_cases h1 : 0 ≤ x.f0 ∧ x.f0 ≤ 60
    · rw [if_pos h1]
      by_cases h2 : 1 ≤ x.f1 ∧ x.f1 ≤ 9
      · rw [if_pos h2]
        by_cases hi0 : i = 0
        · subst hi0
          rw [if_neg (by omega), if_pos rfl]
          have e : decide (0 ≤ x.f0 ∧ x.f0 ≤ 60 ∧ 1 ≤ x.f1 ∧ x.f1 ≤ 9) = true := decide_eq_true (by omega)
          simp only [custFrom, e, Bool.true_and]
        · rw [if_pos (by omega), show wrap64 ((i : Int) - 1) = ((i - 1 : Nat) : Int) from by rw [w64 (by omega) (by omega)]; omega, if_pos (by omega), if_pos (by omega), rd_Customer_nat, if_neg hi0]
          by_cases h5 : x.f0 < (l.getD (i - 1) z50).f0
          · rw [if_pos h5, cust_bad2 h5, Bool.false_and]
          rw [if_neg h5]
          have e : decide (0 ≤ x.f0 ∧ x.f0 ≤ 60 ∧ 1 ≤ x.f1 ∧ x.f1 ≤ 9 ∧ (l.getD (i - 1) z50).f0 ≤ x.f0) = true := decide_eq_true (by omega)
          simp only [custFrom, e, Bool.true_and]
      · rw [if_neg h2, cust_bad (by omega), Bool.false_and]
    · rw [if_neg h1, cust_bad (by omega), Bool.false_and]
theorem spec_CustomersOk_is (l : List S50) (hl : l.length ≤ 1048576) (k : Nat) (hk : l.length < k) : spec_CustomersOk.f k l = some (custOk l) := by
  unfold spec_CustomersOk.f
  exact spec_CustomersOk_loop l hl l 0 k rfl hk (by omega)

/-! desknew -/
theorem clone_is (l : List S50) (hl : l.length ≤ 1048576) : impl_Customer.f l = some l := by
  unfold impl_Customer.f
  simp only [Option.bind_some]
  rw [if_pos (by simp only [List.length_nil]; omega), List.nil_append]
def deskNewP (l : List S50) : List S50 := if custOk l = true then l else []
theorem impl_DeskNew_is (l : List S50) (hl : l.length ≤ 1048576) (k : Nat) (hk : l.length < k) : impl_DeskNew.f k l = some (deskNewP l, [], custOk l) := by
  unfold impl_DeskNew.f deskNewP
  rw [impl_CustomersOk_is l hl k hk, Option.bind_some]
  by_cases h : custOk l = true
  · rw [if_pos h, clone_is l hl, Option.bind_some, if_pos h, h]
  · rw [if_neg h, if_neg h, Bool.eq_false_iff.2 h]
theorem spec_DeskNew_is (l : List S50) (hl : l.length ≤ 1048576) (k : Nat) (hk : l.length < k) : spec_DeskNew.f k l = some (deskNewP l, [], custOk l) := by
  unfold spec_DeskNew.f deskNewP
  rw [spec_CustomersOk_is l hl k hk, Option.bind_some]
  simp only [Option.bind_some]
  by_cases h : custOk l = true
  · rw [if_pos h, if_pos (by simp only [List.length_nil]; omega), if_pos h, h, List.nil_append]
  · rw [if_neg h, if_neg h, Bool.eq_false_iff.2 h]

/-! setdrop -/
theorem set_append_drop {α : Type} (X : List α) (v : α) {i : Nat} (h : i < X.length) : (X.set i v).take (i + 1) = X.take i ++ [v] ∧ (X.set i v).drop (i + 1) = X.drop (i + 1) := by
  constructor
  · rw [List.take_succ_eq_append_getElem (by rw [List.length_set]; exact h), List.take_set_of_le (Nat.le_refl _), List.getElem_set_self]
  · rw [List.drop_set_of_lt (by omega)]

/-! exactcust -/
theorem szCustomerS_is (l : List S79) (hl : l.length ≤ maxLen) (a : Int) (h0 : 0 ≤ a) (h1 : a ≤ 1048576) : laws_szCustomerS.f l a = some (if (l.length : Int) ≤ a then a - l.length else -1) := by
  unfold maxLen at hl
  unfold laws_szCustomerS.f
  rw [show wrap64 (a - (l.length : Int)) = a - l.length from w64 (by omega) (by omega)]
  by_cases h : (l.length : Int) ≤ a
  · rw [if_neg (by omega), if_pos h]
  · rw [if_pos (by omega), if_neg h]
def toC (c : S79) : S50 := ⟨c.f0, c.f1⟩
theorem rd_LCustomer_nat (l : List S79) (i : Nat) : rd_T79 l (i : Int) = l.getD i z79 := by
  unfold rd_T79
  rw [Int.toNat_natCast]
theorem toCustomerS_loop (l : List S79) (hl : l.length ≤ 1048576) : ∀ (suf : List S79) (i k : Nat) (X : List S50), l.drop i = suf → suf.length < k → i ≤ l.length → X.length = l.length →
    laws_toCustomerS.l0 k l X i = some (X.take i ++ suf.map toC) := by
  intro suf
  induction suf with
  | nil =>
    intro i k X hd hk hi hX
    obtain ⟨k, rfl⟩ : ∃ m, k = m + 1 := ⟨k - 1, by omega⟩
    have := drop_nil hd
    simp only [laws_toCustomerS.l0]
    rw [if_neg (by omega), List.take_of_length_le (by omega)]
    simp
  | cons x xs ih =>
    intro i k X hd hk hi hX
    obtain ⟨k, rfl⟩ : ∃ m, k = m + 1 := ⟨k - 1, by omega⟩
    obtain ⟨hlt, hd2, hx⟩ := drop_split hd
    simp only [laws_toCustomerS.l0, laws_toCustomer.f, Option.bind_some]
    rw [if_pos (by omega), if_pos (by omega), if_pos (by omega), rd_LCustomer_nat, hx, w64s i (by omega), Int.toNat_natCast]
    obtain ⟨e1, -⟩ := set_append_drop X (⟨x.f0, x.f1⟩ : S50) (i := i) (by omega)
    rw [ih (i + 1) k _ hd2 (by simp at hk; omega) (by omega) (by rw [List.length_set]; exact hX), e1]
    simp [toC]
theorem toCustomerS_is (l : List S79) (hl : l.length ≤ 1048576) (k : Nat) (hk : l.length < k) : laws_toCustomerS.f k l = some (l.map toC) := by
  unfold laws_toCustomerS.f
  rw [if_pos (by omega), if_pos (by omega)]
  exact toCustomerS_loop l hl l 0 k _ rfl hk (by omega) (by simp)
theorem eqCustomerS_loop (a : List S50) (ha : a.length ≤ 1048576) : ∀ (suf : List S50) (i k : Nat), a.drop i = suf → suf.length < k → laws_eqCustomerS.l0 k a a i = some true := by
  intro suf
  induction suf with
  | nil =>
    intro i k hd hk
    obtain ⟨k, rfl⟩ : ∃ m, k = m + 1 := ⟨k - 1, by omega⟩
    have := drop_nil hd
    simp only [laws_eqCustomerS.l0]
    rw [if_neg (by omega)]
  | cons x xs ih =>
    intro i k hd hk
    obtain ⟨k, rfl⟩ : ∃ m, k = m + 1 := ⟨k - 1, by omega⟩
    obtain ⟨hlt, hd2, hx⟩ := drop_split hd
    have e : ∀ p q, laws_eqCustomer.f p q p q = some true := by intro p q; unfold laws_eqCustomer.f; rw [if_pos rfl, if_pos rfl]
    simp only [laws_eqCustomerS.l0]
    rw [if_pos (by omega), if_pos (by omega), if_pos (by omega), e]
    simp only [Option.bind_some]
    rw [if_pos trivial, w64s i (by omega), ih (i + 1) k hd2 (by simp at hk; omega)]
theorem eqCustomerS_is (a : List S50) (ha : a.length ≤ 1048576) (k : Nat) (hk : a.length < k) : laws_eqCustomerS.f k a a = some true := by
  unfold laws_eqCustomerS.f
  rw [if_pos rfl]
  exact eqCustomerS_loop a ha a 0 k rfl hk

/-! markcustx -/
/-- The marks of customers from m on. -/
def seqC (m : Int) : Nat → List S50
  | 0 => []
  | d + 1 => ⟨m, m + 1⟩ :: seqC (m + 2) d
theorem seqC_length : ∀ (d : Nat) (m : Int), (seqC m d).length = d := by
  intro d
  induction d with
  | zero => intro m; rfl
  | succ d ih => intro m; simp only [seqC, List.length_cons, ih]
theorem markCustomerS_exact : ∀ (d i k : Nat) (X : List S50) (m : Int), i + d = X.length → X.length ≤ 1048576 → d < k → 0 ≤ m → m + 2 * d ≤ 1000000000 → laws_markCustomerS.l0 k X m i = some (m + 2 * d, X.take i ++ seqC m d) := by
  intro d
  induction d with
  | zero =>
    intro i k X m he hl hk h0 h1
    obtain ⟨k, rfl⟩ : ∃ m, k = m + 1 := ⟨k - 1, by omega⟩
    simp only [laws_markCustomerS.l0]
    rw [if_neg (by omega), List.take_of_length_le (by omega)]
    simp [seqC]
  | succ d ih =>
    intro i k X m he hl hk h0 h1
    obtain ⟨k, rfl⟩ : ∃ m, k = m + 1 := ⟨k - 1, by omega⟩
    simp only [laws_markCustomerS.l0, Option.bind_some]
    rw [if_pos (by omega), if_pos (by omega), show wrap64 (m + 1) = m + 1 from w64 (by omega) (by omega), show wrap64 (m + 1 + 1) = m + 2 from by rw [w64 (by omega) (by omega)]; omega, w64s i (by omega), Int.toNat_natCast, rd_Customer_nat, rd_Customer_nat]
    have hi : i < X.length := by omega
    have e0 : ((X.set i (⟨m, (X.getD i z50).f1⟩ : S50)).getD i z50).f0 = m := by
      rw [getD_lt (by rw [List.length_set]; exact hi), List.getElem_set_self]
    rw [e0, List.set_set]
    obtain ⟨e1, -⟩ := set_append_drop X (⟨m, m + 1⟩ : S50) (i := i) hi
    rw [ih (i + 1) k _ (m + 2) (by rw [List.length_set]; omega) (by rw [List.length_set]; exact hl) (by omega) (by omega) (by omega), e1]
    simp only [seqC, List.append_assoc, List.singleton_append]
    congr 2
    omega
theorem markCustomerS_ex (l : List S50) (hl : l.length ≤ 1048576) (k : Nat) (hk : l.length < k) (m : Int) (h0 : 0 ≤ m) (h1 : m ≤ 100000000) : laws_markCustomerS.f k l m = some (m + 2 * l.length, seqC m l.length) := by
  unfold laws_markCustomerS.f
  have := markCustomerS_exact l.length 0 k l m (by omega) hl hk h0 (by omega)
  rw [show ((0 : Nat) : Int) = 0 from rfl] at this
  rw [this]
  simp
theorem heldCustomerS_loop (X : List S50) (hl : X.length ≤ 1048576) : ∀ (d i k : Nat) (m : Int), i + d = X.length → d < k → 0 ≤ m → m + 2 * d ≤ 1000000000 → X.drop i = seqC m d → laws_heldCustomerS.l0 k X m i = some (m + 2 * d) := by
  intro d
  induction d with
  | zero =>
    intro i k m he hk h0 h1 hX
    obtain ⟨k, rfl⟩ : ∃ m, k = m + 1 := ⟨k - 1, by omega⟩
    simp only [laws_heldCustomerS.l0]
    rw [if_neg (by omega)]
    simp
  | succ d ih =>
    intro i k m he hk h0 h1 hX
    obtain ⟨k, rfl⟩ : ∃ m, k = m + 1 := ⟨k - 1, by omega⟩
    obtain ⟨hlt, hd2, hx⟩ := drop_split (show X.drop i = ⟨m, m + 1⟩ :: seqC (m + 2) d from hX)
    simp only [laws_heldCustomerS.l0]
    rw [if_pos (by omega), if_pos (by omega), rd_Customer_nat, hx, if_pos rfl, show wrap64 (m + 1) = m + 1 from w64 (by omega) (by omega), if_pos rfl, show wrap64 (m + 1 + 1) = m + 2 from by rw [w64 (by omega) (by omega)]; omega, w64s i (by omega), ih (i + 1) k (m + 2) (by omega) (by omega) (by omega) (by omega) hd2]
    congr 1
    omega
theorem heldCustomerS_is (n : Nat) (hn : n ≤ 1048576) (k : Nat) (hk : n < k) (m : Int) (h0 : 0 ≤ m) (h1 : m ≤ 100000000) : laws_heldCustomerS.f k (seqC m n) m = some (m + 2 * n) := by
  unfold laws_heldCustomerS.f
  exact heldCustomerS_loop _ (by rw [seqC_length]; exact hn) n 0 k m (by rw [seqC_length]; omega) hk h0 (by omega) rfl

/-! law_ExactDeskNew -/
theorem eqDesk_nil (r : List S50) (hr : r.length ≤ 1048576) (k : Nat) (hk : r.length + 1 < k) : laws_eqDesk.f k r [] r [] = some true := by
  obtain ⟨k, rfl⟩ : ∃ m, k = m + 1 := ⟨k - 1, by omega⟩
  unfold laws_eqDesk.f laws_eqCustomerSS.f
  rw [eqCustomerS_is r hr _ (by omega), Option.bind_some, if_pos rfl]
  simp [laws_eqCustomerSS.l0]
theorem FnExactDeskNew : laws_FnExactDeskNew.Pure := by
  intro l0 hl
  by_cases hb : (l0.length : Int) ≤ 1048576
  · have hm : (l0.map toC).length ≤ 1048576 := by rw [List.length_map]; omega
    have hm2 : (l0.map toC).length = l0.length := by rw [List.length_map]
    generalize hR : deskNewP (l0.map toC) = R
    have hRl : R.length ≤ 1048576 ∧ R.length ≤ l0.length := by
      rw [← hR]; unfold deskNewP; split
      · omega
      · simp
    have e1 : ∀ k, l0.length + 90 ≤ k → impl_DeskNew.f k (l0.map toC) = some (R, [], custOk (l0.map toC)) := fun k hk => by rw [impl_DeskNew_is _ hm k (by omega), hR]
    have e2 : ∀ k, l0.length + 90 ≤ k → spec_DeskNew.f k (l0.map toC) = some (R, [], custOk (l0.map toC)) := fun k hk => by rw [spec_DeskNew_is _ hm k (by omega), hR]
    have em := fun (k : Nat) (hk : l0.length + 90 ≤ k) => markCustomerS_ex (l0.map toC) hm k (by omega) 1 (by omega) (by omega)
    have em2 := fun (k : Nat) (hk : l0.length + 90 ≤ k) => markCustomerS_ex R hRl.1 k (by omega) 1 (by omega) (by omega)
    have eh := fun (k : Nat) (hk : l0.length + 90 ≤ k) => heldCustomerS_is R.length hRl.1 k (by omega) 1 (by omega) (by omega)
    have ehd : ∀ k, l0.length + 90 ≤ k → laws_heldDesk.f k (seqC 1 R.length) [] 1 = some (1 + 2 * (R.length : Int)) := by
      intro k hk
      obtain ⟨k, rfl⟩ : ∃ m, k = m + 1 := ⟨k - 1, by omega⟩
      unfold laws_heldDesk.f laws_heldCustomerSS.f
      rw [eh _ hk, Option.bind_some, if_neg (by omega)]
      simp only [laws_heldCustomerSS.l0]
      rw [if_neg (by simp), Option.bind_some, if_neg (by omega)]
    refine ⟨l0.length + 101, ?_⟩
    unfold laws_FnExactDeskNew.f
    rw [szCustomerS_is l0 hl.1 1048576 (by omega) (by omega), if_pos hb, Option.bind_some]
    rw [if_neg (by omega), toCustomerS_is l0 (by omega) _ (by omega), Option.bind_some]
    rw [e2 _ (by omega), Option.bind_some, Option.bind_some, e1 _ (by omega), Option.bind_some]
    dsimp only
    rw [eqDesk_nil R hRl.1 _ (by omega), Option.bind_some, if_pos rfl]
    simp only [laws_FnExactDeskNew.j0]
    rw [if_neg (by simp), toCustomerS_is l0 (by omega) _ (by omega), Option.bind_some, eqCustomerS_is _ hm _ (by omega), Option.bind_some, if_pos rfl, em _ (by omega), Option.bind_some]
    dsimp only
    rw [if_neg (by omega), eqDesk_nil R hRl.1 _ (by omega), Option.bind_some, if_pos rfl]
    simp only [laws_FnExactDeskNew.j1]
    rw [if_neg (by simp)]
    unfold laws_markDesk.f
    rw [em2 _ (by omega), Option.bind_some]
    dsimp only
    rw [show ∀ x : Int, laws_markCustomerSS.f [] x = some x from fun _ => rfl, Option.bind_some, Option.bind_some]
    dsimp only
    rw [ehd _ (by omega), Option.bind_some, if_neg (by omega), if_pos rfl, toCustomerS_is l0 (by omega) _ (by omega), Option.bind_some, e1 _ (by omega), Option.bind_some]
    dsimp only
    rw [eqDesk_nil R hRl.1 _ (by omega), Option.bind_some, if_pos rfl]
    simp only [laws_FnExactDeskNew.j2]
    rw [if_neg (by simp), ehd _ (by omega), Option.bind_some, if_neg (by omega), if_pos rfl]
  · refine ⟨0, ?_⟩
    unfold laws_FnExactDeskNew.f
    rw [szCustomerS_is l0 hl.1 1048576 (by omega) (by omega), if_neg hb]; rfl

end Go.Proofs.Ytocnifoohecmeaa.Pure
