/- The pure part of the proof of FnExactByPairs: the printed functions answer true, for every drawn or given argument within the row's own bounds; no further condition. -/
import Derived.Test.YtanmcbjlooknoaaPFnExactByPairsx4
import Derived.Laws.BitsLemmas
namespace Go.Proofs.Ytanmcbjlooknoaa.Pure
open Go.RowKit Go.Proofs.Ytanmcbjlooknoaa.PFnExactByPairs Go.Proofs.YtanmcbjlooknoaaW.PrintWords Go.Proofs.YtanmcbjlooknoaaW.PrintLast Go.Proofs.YtanmcbjlooknoaaW.PrintMore
set_option linter.unusedVariables false
set_option linter.unusedSimpArgs false
/-! base -/
theorem w64 {x : Int} (h0 : -9223372036854775808 ≤ x) (h1 : x ≤ 9223372036854775807) : wrap64 x = x := by
  unfold wrap64
  omega
theorem w64s (n : Nat) (h : n ≤ 4611686018427387904) : wrap64 ((n : Int) + 1) = ((n + 1 : Nat) : Int) := by
  unfold wrap64
  omega
theorem drop_split {α : Type} {l : List α} {i : Nat} {x : α} {xs : List α} (h : l.drop i = x :: xs) : i < l.length ∧ l.drop (i + 1) = xs ∧ ∀ d, l.getD i d = x := by
  have hi : i < l.length := by
    have h2 : 0 < (l.drop i).length := by rw [h]; simp
    rw [List.length_drop] at h2
    omega
  rw [List.drop_eq_getElem_cons hi] at h
  injection h with h1 h2
  exact ⟨hi, h2, fun d => by rw [List.getD_eq_getElem?_getD, List.getElem?_eq_getElem hi, h1]; rfl⟩
theorem drop_nil {α : Type} {l : List α} {i : Nat} (h : l.drop i = []) : l.length ≤ i := List.drop_eq_nil_iff.1 h
theorem getD_lt {α : Type} {l : List α} {i : Nat} (h : i < l.length) (d : α) : l.getD i d = l[i] := by
  rw [List.getD_eq_getElem?_getD, List.getElem?_eq_getElem h]; rfl
theorem rd_nat (l : List Int) (i : Nat) : rd l (i : Int) = l.getD i 0 := by
  unfold rd
  rw [Int.toNat_natCast]
theorem getD_mem {α : Type} {l : List α} {i : Nat} (h : i < l.length) (d : α) : l.getD i d ∈ l := by
  rw [getD_lt h]; exact List.getElem_mem h
theorem take_succ_getD {α : Type} {l : List α} {i : Nat} (h : i < l.length) (d : α) : l.take (i + 1) = l.take i ++ [l.getD i d] := by
  rw [getD_lt h, List.take_succ_eq_append_getElem h]
theorem mx_max (a b : Int) : mx a b = max a b := by
  unfold mx; omega
theorem mn_min (a b : Int) : mn a b = min a b := by
  unfold mn; omega
theorem bind_of {α β : Type} {o : Option α} {r : α} {f : α → Option β} {s : Option β} (h : o = some r) (h2 : f r = s) : o.bind f = s := by rw [h]; exact h2
theorem getD_snoc_last {α : Type} (l : List α) (x d : α) {i : Nat} (h : l.length = i) : (l ++ [x]).getD i d = x := by
  subst h
  rw [List.getD_eq_getElem?_getD, List.getElem?_append_right (Nat.le_refl _), Nat.sub_self]
  rfl
theorem getD_snoc_lt {α : Type} (l r : List α) (d : α) {i : Nat} (h : i < l.length) : (l ++ r).getD i d = l.getD i d := by
  rw [List.getD_eq_getElem?_getD, List.getElem?_append_left h, List.getD_eq_getElem?_getD]

/-! l1in -/
theorem spec_l1In_is (a b c : Int) : spec_l1In.f a b c = some (decide (b ≤ a ∧ a ≤ c)) := by
  unfold spec_l1In.f
  by_cases h : a ≥ b
  · rw [if_pos h]
    congr 1
    apply decide_eq_decide.2
    omega
  · rw [if_neg h]
    congr 1
    symm
    exact decide_eq_false (by omega)

/-! both -/
/-- Customers of two counters, as both texts ask. -/
def bothOk (l : List S31) : Bool := decide ((∀ b ∈ l, 1 ≤ b.f0 ∧ b.f0 ≤ 9 ∧ 1 ≤ b.f1 ∧ b.f1 ≤ 9) ∧ 1 ≤ l.length ∧ l.length ≤ 6)
theorem bothOk_mem {l : List S31} (h : bothOk l = true) : ∀ b ∈ l, 1 ≤ b.f0 ∧ b.f0 ≤ 9 ∧ 1 ≤ b.f1 ∧ b.f1 ≤ 9 := (of_decide_eq_true h).1
theorem bothOk_len {l : List S31} (h : bothOk l = true) : 1 ≤ l.length ∧ l.length ≤ 6 := (of_decide_eq_true h).2
theorem bothOk_take {l : List S31} (h : bothOk l = true) (n : Nat) (hn : 1 ≤ n) : bothOk (l.take n) = true := by
  have h1 := bothOk_mem h
  have h2 := bothOk_len h
  exact decide_eq_true ⟨fun b hb => h1 b (List.mem_of_mem_take hb), by rw [List.length_take]; omega, by rw [List.length_take]; omega⟩
theorem rd_Both_nat (l : List S31) (i : Nat) : rd_T31 l (i : Int) = l.getD i z31 := by
  unfold rd_T31
  rw [Int.toNat_natCast]
theorem impl_BothOk_loop (l : List S31) (hl : l.length ≤ 1048576) : ∀ (suf : List S31) (i k : Nat), l.drop i = suf → suf.length < k → i ≤ l.length →
    impl_BothOk.l0 k l l (l.length : Int) i = some (decide ((∀ b ∈ suf, 1 ≤ b.f0 ∧ b.f0 ≤ 9 ∧ 1 ≤ b.f1 ∧ b.f1 ≤ 9) ∧ 1 ≤ l.length ∧ l.length ≤ 6)) := by
  intro suf
  induction suf with
  | nil =>
    intro i k hd hk hi
    obtain ⟨k, rfl⟩ : ∃ m, k = m + 1 := ⟨k - 1, by omega⟩
    have := drop_nil hd
    simp only [impl_BothOk.l0]
    rw [if_neg (by omega)]
    by_cases h1 : (l.length : Int) ≥ 1
    · rw [if_pos h1]
      congr 1
      apply decide_eq_decide.2
      constructor
      · intro h; exact ⟨by simp, by omega, by omega⟩
      · intro h; omega
    · rw [if_neg h1]
      congr 1
      symm
      exact decide_eq_false (fun h => by omega)
  | cons x xs ih =>
    intro i k hd hk hi
    obtain ⟨k, rfl⟩ : ∃ m, k = m + 1 := ⟨k - 1, by omega⟩
    obtain ⟨hlt, hd2, hx⟩ := drop_split hd
    simp only [impl_BothOk.l0]
    rw [if_pos (by omega), if_pos (by omega), if_pos (by omega), rd_Both_nat, hx, w64s i (by omega), ih (i + 1) k hd2 (by simp at hk; omega) (by omega)]
    repeat' split
    all_goals congr 1
    any_goals
      symm
      apply decide_eq_false
      intro h
      have := h.1 x (by simp)
      omega
    apply decide_eq_decide.2
    constructor
    · intro h
      refine ⟨fun b hb => ?_, h.2⟩
      rcases List.mem_cons.1 hb with rfl | hb
      · omega
      · exact h.1 b hb
    · intro h
      exact ⟨fun b hb => h.1 b (List.mem_cons_of_mem _ hb), h.2⟩
theorem impl_BothOk_is (l : List S31) (hl : l.length ≤ 1048576) (k : Nat) (hk : l.length < k) : impl_BothOk.f k l = some (bothOk l) :=
  impl_BothOk_loop l hl l 0 k rfl hk (by omega)
theorem spec_BothOk_loop (l : List S31) (hl : l.length ≤ 1048576) : ∀ (suf : List S31) (i k : Nat), l.drop i = suf → suf.length < k → i ≤ l.length →
    spec_BothOk.l0 k l i = some (decide ((∀ b ∈ suf, 1 ≤ b.f0 ∧ b.f0 ≤ 9 ∧ 1 ≤ b.f1 ∧ b.f1 ≤ 9) ∧ 1 ≤ l.length ∧ l.length ≤ 6)) := by
  intro suf
  induction suf with
  | nil =>
    intro i k hd hk hi
    obtain ⟨k, rfl⟩ : ∃ m, k = m + 1 := ⟨k - 1, by omega⟩
    have := drop_nil hd
    simp only [spec_BothOk.l0]
    rw [if_neg (by omega), spec_l1In_is]
    simp only [Option.bind_some]
    congr 1
    apply decide_eq_decide.2
    constructor
    · intro h; exact ⟨by simp, by omega, by omega⟩
    · intro h; omega
  | cons x xs ih =>
    intro i k hd hk hi
    obtain ⟨k, rfl⟩ : ∃ m, k = m + 1 := ⟨k - 1, by omega⟩
    obtain ⟨hlt, hd2, hx⟩ := drop_split hd
    simp only [spec_BothOk.l0]
    rw [if_pos (by omega), if_pos (by omega), rd_Both_nat, hx, spec_l1In_is, spec_l1In_is, w64s i (by omega), ih (i + 1) k hd2 (by simp at hk; omega) (by omega)]
    simp only [Option.bind_some, decide_eq_true_eq]
    repeat' split
    all_goals congr 1
    any_goals
      symm
      apply decide_eq_false
      intro h
      have := h.1 x (by simp)
      omega
    apply decide_eq_decide.2
    constructor
    · intro h
      refine ⟨fun b hb => ?_, h.2⟩
      rcases List.mem_cons.1 hb with rfl | hb
      · omega
      · exact h.1 b hb
    · intro h
      exact ⟨fun b hb => h.1 b (List.mem_cons_of_mem _ hb), h.2⟩
theorem spec_BothOk_is (l : List S31) (hl : l.length ≤ 1048576) (k : Nat) (hk : l.length < k) : spec_BothOk.f k l = some (bothOk l) :=
  spec_BothOk_loop l hl l 0 k rfl hk (by omega)

/-! setdrop -/
theorem set_append_drop {α : Type} (X : List α) (v : α) {i : Nat} (h : i < X.length) : (X.set i v).take (i + 1) = X.take i ++ [v] ∧ (X.set i v).drop (i + 1) = X.drop (i + 1) := by
  constructor
  · rw [List.take_succ_eq_append_getElem (by rw [List.length_set]; exact h), List.take_set_of_le (Nat.le_refl _), List.getElem_set_self]
  · rw [List.drop_set_of_lt (by omega)]

/-! exactboth -/
theorem szBothS_is (l : List S57) (hl : l.length ≤ maxLen) (a : Int) (h0 : 0 ≤ a) (h1 : a ≤ 1048576) : laws_szBothS.f l a = some (if (l.length : Int) ≤ a then a - l.length else -1) := by
  unfold maxLen at hl
  unfold laws_szBothS.f
  rw [show wrap64 (a - (l.length : Int)) = a - l.length from w64 (by omega) (by omega)]
  by_cases h : (l.length : Int) ≤ a
  · rw [if_neg (by omega), if_pos h]
  · rw [if_pos (by omega), if_neg h]
def toB (c : S57) : S31 := ⟨c.f0, c.f1⟩
theorem rd_LBoth_nat (l : List S57) (i : Nat) : rd_T57 l (i : Int) = l.getD i z57 := by
  unfold rd_T57
  rw [Int.toNat_natCast]
theorem toBothS_loop (l : List S57) (hl : l.length ≤ 1048576) : ∀ (suf : List S57) (i k : Nat) (X : List S31), l.drop i = suf → suf.length < k → i ≤ l.length → X.length = l.length →
    laws_toBothS.l0 k l X i = some (X.take i ++ suf.map toB) := by
  intro suf
  induction suf with
  | nil =>
    intro i k X hd hk hi hX
    obtain ⟨k, rfl⟩ : ∃ m, k = m + 1 := ⟨k - 1, by omega⟩
    have := drop_nil hd
    simp only [laws_toBothS.l0]
    rw [if_neg (by omega), List.take_of_length_le (by omega)]
    simp
  | cons x xs ih =>
    intro i k X hd hk hi hX
    obtain ⟨k, rfl⟩ : ∃ m, k = m + 1 := ⟨k - 1, by omega⟩
    obtain ⟨hlt, hd2, hx⟩ := drop_split hd
    simp only [laws_toBothS.l0, laws_toBoth.f, Option.bind_some]
    rw [if_pos (by omega), if_pos (by omega), if_pos (by omega), rd_LBoth_nat, hx, w64s i (by omega), Int.toNat_natCast]
    obtain ⟨e1, -⟩ := set_append_drop X (⟨x.f0, x.f1⟩ : S31) (i := i) (by omega)
    rw [ih (i + 1) k _ hd2 (by simp at hk; omega) (by omega) (by rw [List.length_set]; exact hX), e1]
    simp [toB]
theorem toBothS_is (l : List S57) (hl : l.length ≤ 1048576) (k : Nat) (hk : l.length < k) : laws_toBothS.f k l = some (l.map toB) := by
  unfold laws_toBothS.f
  rw [if_pos (by omega), if_pos (by omega)]
  exact toBothS_loop l hl l 0 k _ rfl hk (by omega) (by simp)
theorem eqBothS_loop (a : List S31) (ha : a.length ≤ 1048576) : ∀ (suf : List S31) (i k : Nat), a.drop i = suf → suf.length < k → laws_eqBothS.l0 k a a i = some true := by
  intro suf
  induction suf with
  | nil =>
    intro i k hd hk
    obtain ⟨k, rfl⟩ : ∃ m, k = m + 1 := ⟨k - 1, by omega⟩
    have := drop_nil hd
    simp only [laws_eqBothS.l0]
    rw [if_neg (by omega)]
  | cons x xs ih =>
    intro i k hd hk
    obtain ⟨k, rfl⟩ : ∃ m, k = m + 1 := ⟨k - 1, by omega⟩
    obtain ⟨hlt, hd2, hx⟩ := drop_split hd
    have e : ∀ p q, laws_eqBoth.f p q p q = some true := by intro p q; unfold laws_eqBoth.f; rw [if_pos rfl, if_pos rfl]
    simp only [laws_eqBothS.l0]
    rw [if_pos (by omega), if_pos (by omega), if_pos (by omega), e]
    simp only [Option.bind_some]
    rw [if_pos trivial, w64s i (by omega), ih (i + 1) k hd2 (by simp at hk; omega)]
theorem eqBothS_is (a : List S31) (ha : a.length ≤ 1048576) (k : Nat) (hk : a.length < k) : laws_eqBothS.f k a a = some true := by
  unfold laws_eqBothS.f
  rw [if_pos rfl]
  exact eqBothS_loop a ha a 0 k rfl hk

/-! markboth1 -/
def seqB : Int → Nat → List S31
  | _, 0 => []
  | m, n + 1 => ⟨m, m + 1⟩ :: seqB (m + 2) n
theorem seqB_length : ∀ (n : Nat) (m : Int), (seqB m n).length = n := by
  intro n
  induction n with
  | zero => intro m; rfl
  | succ n ih => intro m; simp [seqB, ih]
theorem markBothS_loop : ∀ (d i k : Nat) (X : List S31) (m : Int), i + d = X.length → X.length ≤ 1048576 → d < k → 0 ≤ m → m + 2 * d ≤ 1000000000 → laws_markBothS.l0 k X m i = some (m + 2 * (d : Int), X.take i ++ seqB m d) := by
  intro d
  induction d with
  | zero =>
    intro i k X m he hl hk h0 h1
    obtain ⟨k, rfl⟩ : ∃ m, k = m + 1 := ⟨k - 1, by omega⟩
    simp only [laws_markBothS.l0]
    rw [if_neg (by omega), List.take_of_length_le (by omega)]
    simp [seqB]
  | succ d ih =>
    intro i k X m he hl hk h0 h1
    obtain ⟨k, rfl⟩ : ∃ m, k = m + 1 := ⟨k - 1, by omega⟩
    simp only [laws_markBothS.l0, Option.bind_some]
    rw [if_pos (by omega), if_pos (by omega), show wrap64 (m + 1) = m + 1 from w64 (by omega) (by omega), show wrap64 (m + 1 + 1) = m + 2 from by rw [w64 (by omega) (by omega)]; omega, w64s i (by omega), Int.toNat_natCast, rd_Both_nat, rd_Both_nat]
    have key : ∀ Y : List S31, Y.length = X.length → Y.take (i + 1) = X.take i ++ [⟨m, m + 1⟩] → laws_markBothS.l0 k Y (m + 2) ((i + 1 : Nat) : Int) = some (m + 2 * ((d + 1 : Nat) : Int), X.take i ++ seqB m (d + 1)) := by
      intro Y hY hT
      rw [ih (i + 1) k Y (m + 2) (by omega) (by omega) (by omega) (by omega) (by omega), hT]
      simp only [seqB, List.append_assoc, List.singleton_append]
      congr 2
      omega
    refine key _ (by rw [List.length_set, List.length_set]) ?_
    obtain ⟨e1, -⟩ := set_append_drop (X.set i (⟨m, (X.getD i z31).f1⟩ : S31)) (⟨((X.set i (⟨m, (X.getD i z31).f1⟩ : S31)).getD i z31).f0, m + 1⟩ : S31) (i := i) (by rw [List.length_set]; omega)
    rw [e1, List.take_set_of_le (Nat.le_refl _), getD_lt (by rw [List.length_set]; omega), List.getElem_set_self]
theorem markBothS_is (l : List S31) (hl : l.length ≤ 1048576) (k : Nat) (hk : l.length < k) : laws_markBothS.f k l 1 = some (1 + 2 * (l.length : Int), seqB 1 l.length) := by
  unfold laws_markBothS.f
  exact markBothS_loop l.length 0 k l 1 (by omega) hl hk (by omega) (by omega)

/-! markint -/
def seqFrom : Int → Nat → List Int
  | _, 0 => []
  | m, n + 1 => m :: seqFrom (m + 1) n
theorem seqFrom_length : ∀ (n : Nat) (m : Int), (seqFrom m n).length = n := by
  intro n
  induction n with
  | zero => intro m; rfl
  | succ n ih => intro m; simp [seqFrom, ih]
theorem markIntS_loop : ∀ (d i k : Nat) (X : List Int) (m : Int), i + d = X.length → X.length ≤ 1048576 → d < k → 0 ≤ m → m + d ≤ 1000000000 → laws_markIntS.l0 k X m i = some (m + d, X.take i ++ seqFrom m d) := by
  intro d
  induction d with
  | zero =>
    intro i k X m he hl hk h0 h1
    obtain ⟨k, rfl⟩ : ∃ m, k = m + 1 := ⟨k - 1, by omega⟩
    simp only [laws_markIntS.l0]
    rw [if_neg (by omega), List.take_of_length_le (by omega)]
    simp [seqFrom]
  | succ d ih =>
    intro i k X m he hl hk h0 h1
    obtain ⟨k, rfl⟩ : ∃ m, k = m + 1 := ⟨k - 1, by omega⟩
    simp only [laws_markIntS.l0]
    rw [if_pos (by omega), if_pos (by omega), show wrap64 (m + 1) = m + 1 from w64 (by omega) (by omega), w64s i (by omega), Int.toNat_natCast]
    obtain ⟨e1, -⟩ := set_append_drop X m (i := i) (by omega)
    rw [ih (i + 1) k _ (m + 1) (by rw [List.length_set]; omega) (by rw [List.length_set]; omega) (by omega) (by omega) (by omega), e1]
    simp only [seqFrom, List.append_assoc, List.singleton_append]
    congr 2
    omega
theorem markIntS_is (l : List Int) (hl : l.length ≤ 1048576) (k : Nat) (hk : l.length < k) : laws_markIntS.f k l 1 = some (1 + (l.length : Int), seqFrom 1 l.length) := by
  unfold laws_markIntS.f
  exact markIntS_loop l.length 0 k l 1 (by omega) hl hk (by omega) (by omega)

/-! heldint -/
theorem heldIntS_loop (X : List Int) (hl : X.length ≤ 1048576) : ∀ (d i k : Nat) (m : Int), i + d = X.length → d < k → 0 ≤ m → m + d ≤ 1000000000 → X.drop i = seqFrom m d → laws_heldIntS.l0 k X m i = some (m + d) := by
  intro d
  induction d with
  | zero =>
    intro i k m he hk h0 h1 hX
    obtain ⟨k, rfl⟩ : ∃ m, k = m + 1 := ⟨k - 1, by omega⟩
    simp only [laws_heldIntS.l0]
    rw [if_neg (by omega)]
    simp
  | succ d ih =>
    intro i k m he hk h0 h1 hX
    obtain ⟨k, rfl⟩ : ∃ m, k = m + 1 := ⟨k - 1, by omega⟩
    obtain ⟨hlt, hd2, hx⟩ := drop_split (show X.drop i = m :: seqFrom (m + 1) d from hX)
    simp only [laws_heldIntS.l0]
    rw [if_pos (by omega), if_pos (by omega), rd_nat, hx, if_pos rfl, show wrap64 (m + 1) = m + 1 from w64 (by omega) (by omega), w64s i (by omega), ih (i + 1) k (m + 1) (by omega) (by omega) (by omega) (by omega) hd2]
    congr 1
    omega
theorem heldIntS_is (n : Nat) (hn : n ≤ 1048576) (k : Nat) (hk : n < k) : laws_heldIntS.f k (seqFrom 1 n) 1 = some (1 + (n : Int)) := by
  unfold laws_heldIntS.f
  exact heldIntS_loop _ (by rw [seqFrom_length]; exact hn) n 0 k 1 (by rw [seqFrom_length]; omega) hk (by omega) (by omega) rfl

/-! eqint -/
theorem eqIntS_loop (a : List Int) (ha : a.length ≤ 1048576) : ∀ (suf : List Int) (i k : Nat), a.drop i = suf → suf.length < k → laws_eqIntS.l0 k a a i = some true := by
  intro suf
  induction suf with
  | nil =>
    intro i k hd hk
    obtain ⟨k, rfl⟩ : ∃ m, k = m + 1 := ⟨k - 1, by omega⟩
    have := drop_nil hd
    simp only [laws_eqIntS.l0]
    rw [if_neg (by omega)]
  | cons x xs ih =>
    intro i k hd hk
    obtain ⟨k, rfl⟩ : ∃ m, k = m + 1 := ⟨k - 1, by omega⟩
    obtain ⟨hlt, hd2, hx⟩ := drop_split hd
    simp only [laws_eqIntS.l0]
    rw [if_pos (by omega), if_pos (by omega), if_pos (by omega), if_pos trivial, w64s i (by omega), ih (i + 1) k hd2 (by simp at hk; omega)]
theorem eqIntS_is (a : List Int) (ha : a.length ≤ 1048576) (k : Nat) (hk : a.length < k) : laws_eqIntS.f k a a = some true := by
  unfold laws_eqIntS.f
  rw [if_pos rfl]
  exact eqIntS_loop a ha a 0 k rfl hk

/-! bypairs_core -/
theorem bp_get {α : Type} [Inhabited α] (P C : List α) (x : α) (i : Nat) (h : i = P.length) : (P ++ x :: C).toArray[i]! = x := by
  subst h; simp
theorem bp_swp {α : Type} [Inhabited α] (P C : List α) (b x : α) (j : Nat) (h : j = P.length) : Sort.swp (P ++ b :: x :: C).toArray (j + 1) j = (P ++ x :: b :: C).toArray := by
  unfold Sort.swp
  rw [bp_get P (x :: C) b j h, show P ++ b :: x :: C = (P ++ [b]) ++ x :: C from by simp, bp_get (P ++ [b]) C x (j + 1) (by simp [h])]
  subst h
  simp
theorem bp_inner {α : Type} [Inhabited α] (lt : α → α → Bool) (x : α) (A : List α) (hA : A = [] ∨ ∃ A' y, A = A' ++ [y] ∧ lt x y = false) : ∀ (n : Nat) (B C : List α), B.length = n → (∀ b ∈ B, lt x b = true) → Sort.insInner lt 0 (A.length + B.length) (A ++ B ++ x :: C).toArray = (A ++ x :: (B ++ C)).toArray := by
  intro n
  induction n with
  | zero =>
    intro B C hB _
    obtain rfl := List.eq_nil_of_length_eq_zero hB
    rcases hA with rfl | ⟨A', y, rfl, hy⟩
    · simp [Sort.insInner]
    · have e : (A' ++ [y]).length + ([] : List α).length = A'.length + 1 := by simp
      rw [e]
      unfold Sort.insInner
      rw [show A' ++ [y] ++ [] ++ x :: C = (A' ++ [y]) ++ x :: C from by simp, bp_get (A' ++ [y]) C x (A'.length + 1) (by simp), show (A' ++ [y]) ++ x :: C = A' ++ y :: (x :: C) from by simp, bp_get A' (x :: C) y A'.length rfl, hy]
      simp
  | succ n ih =>
    intro B C hB hlt
    have hne : B ≠ [] := fun e => by rw [e] at hB; simp at hB
    obtain ⟨B', b, rfl⟩ : ∃ B' b, B = B' ++ [b] := ⟨B.dropLast, B.getLast hne, (List.dropLast_concat_getLast hne).symm⟩
    have e : A.length + (B' ++ [b]).length = (A.length + B'.length) + 1 := by simp; omega
    rw [e]
    unfold Sort.insInner
    have e1 : A ++ (B' ++ [b]) ++ x :: C = (A ++ B' ++ [b]) ++ x :: C := by simp
    have e2 : A ++ (B' ++ [b]) ++ x :: C = (A ++ B') ++ b :: x :: C := by simp
    have g1 : (A ++ (B' ++ [b]) ++ x :: C).toArray[A.length + B'.length + 1]! = x := by rw [e1]; exact bp_get _ _ _ _ (by simp; omega)
    have g2 : (A ++ (B' ++ [b]) ++ x :: C).toArray[A.length + B'.length]! = b := by rw [e2]; exact bp_get _ _ _ _ (by simp)
    rw [g1, g2, hlt b (by simp), e2, bp_swp (A ++ B') C b x (A.length + B'.length) (by simp)]
    have := ih B' (b :: C) (by simpa using hB) (fun c hc => hlt c (by simp [hc]))
    rw [if_pos (by simp), this]
    simp
def bpB {α : Type} (key : α → Int) (vs : List Int) (L : List α) : List α := vs.flatMap (fun v => L.filter (fun a => decide (key a = v)))
theorem bp_same {α : Type} (key : α → Int) (L : List α) (x : α) : ∀ vs : List Int, (∀ v ∈ vs, v ≠ key x) → bpB key vs (L ++ [x]) = bpB key vs L := by
  intro vs
  induction vs with
  | nil => intro _; rfl
  | cons v vs ih =>
    intro h
    unfold bpB at *
    rw [List.flatMap_cons, List.flatMap_cons, ih (fun u hu => h u (by simp [hu])), List.filter_append]
    have := h v (by simp)
    simp [Ne.symm this]
theorem bp_app {α : Type} (key : α → Int) (L : List α) (v1 v2 : List Int) : bpB key (v1 ++ v2) L = bpB key v1 L ++ bpB key v2 L := by
  unfold bpB; simp
theorem bp_mem {α : Type} (key : α → Int) (L : List α) (vs : List Int) (a : α) (h : a ∈ bpB key vs L) : key a ∈ vs ∧ a ∈ L := by
  unfold bpB at h
  obtain ⟨v, hv, h⟩ := List.mem_flatMap.1 h
  have := List.mem_filter.1 h
  have h2 := of_decide_eq_true this.2
  exact ⟨by rw [h2]; exact hv, this.1⟩
theorem bp_split : ∀ (vs : List Int) (u : Int), vs.Pairwise (· < ·) → u ∈ vs → ∃ v1 v2, vs = v1 ++ u :: v2 ∧ (∀ v ∈ v1, v < u) ∧ ∀ v ∈ v2, u < v := by
  intro vs u hp hu
  obtain ⟨v1, v2, rfl⟩ := List.append_of_mem hu
  rw [List.pairwise_append] at hp
  obtain ⟨-, h2, h3⟩ := hp
  rw [List.pairwise_cons] at h2
  exact ⟨v1, v2, rfl, fun v hv => h3 v hv u (by simp), h2.1⟩
/-- Where a further one goes. -/
theorem bp_snoc {α : Type} (key : α → Int) (vs : List Int) (hp : vs.Pairwise (· < ·)) (L : List α) (x : α) (hx : key x ∈ vs) : ∃ A B, bpB key vs L = A ++ B ∧ bpB key vs (L ++ [x]) = A ++ x :: B ∧ (∀ a ∈ A, key a ≤ key x) ∧ ∀ b ∈ B, key x < key b := by
  obtain ⟨v1, v2, rfl, h1, h2⟩ := bp_split vs _ hp hx
  refine ⟨bpB key v1 L ++ L.filter (fun a => decide (key a = key x)), bpB key v2 L, ?_, ?_, ?_, ?_⟩
  · rw [bp_app]; unfold bpB; simp
  · rw [bp_app, bp_same key L x v1 (fun v hv => by have := h1 v hv; omega), show key x :: v2 = [key x] ++ v2 from rfl, bp_app, bp_same key L x v2 (fun v hv => by have := h2 v hv; omega)]
    unfold bpB; simp
  · intro a ha
    rcases List.mem_append.1 ha with ha | ha
    · have := h1 _ (bp_mem key L v1 a ha).1; omega
    · have := of_decide_eq_true (List.mem_filter.1 ha).2; omega
  · intro b hb
    have := h2 _ (bp_mem key L v2 b hb).1; omega
theorem bp_perm {α : Type} (key : α → Int) (vs : List Int) (hp : vs.Pairwise (· < ·)) : ∀ (n : Nat) (L : List α), L.length = n → (∀ a ∈ L, key a ∈ vs) → (bpB key vs L).Perm L := by
  intro n
  induction n with
  | zero =>
    intro L hL _
    obtain rfl := List.eq_nil_of_length_eq_zero hL
    have : bpB key vs ([] : List α) = [] := by unfold bpB; simp
    rw [this]
  | succ n ih =>
    intro L hL h
    have hne : L ≠ [] := fun e => by rw [e] at hL; simp at hL
    obtain ⟨M, x, rfl⟩ : ∃ M x, L = M ++ [x] := ⟨L.dropLast, L.getLast hne, (List.dropLast_concat_getLast hne).symm⟩
    obtain ⟨A, B, e1, e2, -, -⟩ := bp_snoc key vs hp M x (h x (by simp))
    have := ih M (by simpa using hL) (fun a ha => h a (by simp [ha]))
    rw [e2]
    rw [e1] at this
    exact List.perm_middle.trans ((List.Perm.cons x this).trans (by simpa using (List.perm_append_comm (l₁ := [x]) (l₂ := M))))
theorem bp_outer {α : Type} [Inhabited α] (lt : α → α → Bool) (key : α → Int) (hlt : ∀ x y, lt x y = decide (key x < key y)) (vs : List Int) (hp : vs.Pairwise (· < ·)) : ∀ (suf pre : List α) (m : Nat), m = pre.length + suf.length → (∀ a ∈ pre ++ suf, key a ∈ vs) → Sort.insOuter lt 0 m pre.length (bpB key vs pre ++ suf).toArray = (bpB key vs (pre ++ suf)).toArray := by
  intro suf
  induction suf with
  | nil =>
    intro pre m hm _
    unfold Sort.insOuter
    rw [if_neg (by simp at hm; omega)]
    simp
  | cons x xs ih =>
    intro pre m hm hk
    unfold Sort.insOuter
    rw [if_pos (by simp at hm; omega)]
    obtain ⟨A, B, e1, e2, hA, hB⟩ := bp_snoc key vs hp pre x (hk x (by simp))
    have hl : pre.length = A.length + B.length := by
      have := (bp_perm key vs hp pre.length pre rfl (fun a ha => hk a (by simp [ha]))).length_eq
      rw [e1, List.length_append] at this; omega
    have hA2 : A = [] ∨ ∃ A' y, A = A' ++ [y] ∧ lt x y = false := by
      by_cases h : A = []
      · exact .inl h
      · refine .inr ⟨A.dropLast, A.getLast h, (List.dropLast_concat_getLast h).symm, ?_⟩
        rw [hlt]
        have := hA _ (List.getLast_mem h)
        exact decide_eq_false (by omega)
    have hin := bp_inner lt x A hA2 B.length B xs rfl (fun b hb => by rw [hlt]; exact decide_eq_true (hB b hb))
    rw [e1]
    conv => lhs; rw [hl]
    have hin2 : Sort.insInner lt 0 (A.length + B.length) (A ++ B ++ x :: xs).toArray = (bpB key vs (pre ++ [x]) ++ xs).toArray := by rw [hin, e2]; simp
    rw [hin2]
    have := ih (pre ++ [x]) m (by simp at hm ⊢; omega) (by simpa using hk)
    rw [show A.length + B.length + 1 = (pre ++ [x]).length from by simp; omega, this]
    simp
theorem bp_sorted {α : Type} [Inhabited α] (lt : α → α → Bool) (key : α → Int) (hlt : ∀ x y, lt x y = decide (key x < key y)) (vs : List Int) (hp : vs.Pairwise (· < ·)) (L : List α) (hL : L ≠ []) (hk : ∀ a ∈ L, key a ∈ vs) : (Sort.insertionSort lt L.toArray 0 L.length).toList = bpB key vs L := by
  cases L with
  | nil => exact absurd rfl hL
  | cons x xs =>
    unfold Sort.insertionSort
    have h1 : bpB key vs [x] = [x] := by
      have := bp_perm key vs hp 1 [x] rfl (fun a ha => hk a (by simp at ha; simp [ha]))
      exact List.perm_singleton.1 this
    have := bp_outer lt key hlt vs hp xs [x] (x :: xs).length (by simp; omega) (by simpa using hk)
    rw [h1] at this
    have e : (0 + 1 : Nat) = [x].length := rfl
    rw [e, show (x :: xs) = [x] ++ xs from rfl] at *
    rw [this]
theorem bp_key_sorted {α : Type} (key : α → Int) (L : List α) : ∀ vs : List Int, vs.Pairwise (· < ·) → (bpB key vs L).Pairwise (fun a b => key a ≤ key b) := by
  intro vs
  induction vs with
  | nil => intro _; exact List.Pairwise.nil
  | cons v vs ih =>
    intro h
    rw [List.pairwise_cons] at h
    rw [show v :: vs = [v] ++ vs from rfl, bp_app, List.pairwise_append]
    refine ⟨?_, ih h.2, fun a ha b hb => ?_⟩
    · refine List.pairwise_iff_forall_sublist.2 (fun {a b} hs => ?_)
      have ha := (bp_mem key L [v] a (hs.subset (by simp))).1
      have hb := (bp_mem key L [v] b (hs.subset (by simp))).1
      simp at ha hb
      omega
    · have ha := (bp_mem key L [v] a ha).1
      have hb := (bp_mem key L vs b hb).1
      simp at ha
      have := h.1 _ hb
      omega
/-- A rank by pairs: who needs no more at the first counter first, by ascending needs there; then the others by descending needs at the second one. -/
def bpKey (x : S31) : Int := if x.f0 ≤ x.f1 then x.f0 else 100 - x.f1
def bpVs : List Int := [1, 2, 3, 4, 5, 6, 7, 8, 9, 91, 92, 93, 94, 95, 96, 97, 98, 99]
theorem bpVs_asc : bpVs.Pairwise (· < ·) := by decide
theorem bpVs_mem (x : S31) (h : 1 ≤ x.f0 ∧ x.f0 ≤ 9 ∧ 1 ≤ x.f1 ∧ x.f1 ≤ 9) : bpKey x ∈ bpVs := by
  have : (1 ≤ bpKey x ∧ bpKey x ≤ 9) ∨ (91 ≤ bpKey x ∧ bpKey x ≤ 99) := by unfold bpKey; split <;> omega
  generalize bpKey x = u at this
  unfold bpVs
  simp only [List.mem_cons, List.not_mem_nil, or_false]
  omega

/-! bypairs -/
def idx (n : Nat) : List Int := (List.range n).map (fun i : Nat => (i : Int))
theorem idx_length (n : Nat) : (idx n).length = n := by unfold idx; simp
theorem idx_get (n i : Nat) (h : i < (idx n).length) : (idx n)[i] = (i : Int) := by simp [idx]
theorem idx_drop (n i : Nat) (h : i < n) : (idx n).drop i = (i : Int) :: (idx n).drop (i + 1) := by
  have hl : i < (idx n).length := by rw [idx_length]; exact h
  rw [List.drop_eq_getElem_cons hl, idx_get]
theorem idx_mem {n : Nat} {x : Int} (h : x ∈ idx n) : 0 ≤ x ∧ x < (n : Int) := by
  unfold idx at h
  obtain ⟨i, hi, rfl⟩ := List.mem_map.1 h
  have := List.mem_range.1 hi
  omega
def keyI (l : List S31) (x : Int) : Int := bpKey (l.getD x.toNat z31)
theorem keyI_nat (l : List S31) (i : Nat) : keyI l (i : Int) = bpKey (l.getD i z31) := by unfold keyI; rw [Int.toNat_natCast]
def byPairsP (l : List S31) : List Int := bpB (keyI l) bpVs (idx l.length)
def bpUp : Nat → List Int
  | 0 => []
  | d + 1 => (10 - ((d + 1 : Nat) : Int)) :: bpUp d
def bpDn : Nat → List Int
  | 0 => []
  | d + 1 => (100 - ((d + 1 : Nat) : Int)) :: bpDn d
theorem bp_cons {α : Type} (key : α → Int) (v : Int) (vs : List Int) (L : List α) : bpB key (v :: vs) L = L.filter (fun a => decide (key a = v)) ++ bpB key vs L := by
  unfold bpB; rw [List.flatMap_cons]
theorem spec_ByPairs_l1 (l : List S31) (hok : bothOk l = true) (n : Int) (n1 : 1 ≤ n) (n9 : n ≤ 9) (R : List Int) (K : Nat) : ∀ (q i k : Nat) (out : List Int), i + q = l.length → out.length + q ≤ 1000 → q + 1 + K ≤ k →
    (∀ k', K ≤ k' → spec_ByPairs.l0 k' l (out ++ ((idx l.length).drop i).filter (fun a => decide (keyI l a = n))) (n + 1) = some R) → spec_ByPairs.l1 k l out n i = some R := by
  have h6 := bothOk_len hok
  have hm := bothOk_mem hok
  intro q
  induction q with
  | zero =>
    intro i k out hi ho hk hn
    obtain ⟨k, rfl⟩ : ∃ m, k = m + 1 := ⟨k - 1, by omega⟩
    simp only [spec_ByPairs.l1]
    rw [if_neg (by omega), show wrap64 (n + 1) = n + 1 from w64 (by omega) (by omega)]
    have := hn k (by omega)
    rw [List.drop_eq_nil_of_le (by rw [idx_length]; omega), List.filter_nil, List.append_nil] at this
    exact this
  | succ q ih =>
    intro i k out hi ho hk hn
    obtain ⟨k, rfl⟩ : ∃ m, k = m + 1 := ⟨k - 1, by omega⟩
    have hb := hm (l.getD i z31) (getD_mem (by omega) _)
    rw [idx_drop _ _ (by omega), List.filter_cons, keyI_nat] at hn
    simp only [spec_ByPairs.l1]
    rw [if_pos (by omega), if_pos (by omega), rd_Both_nat, w64s i (by omega)]
    by_cases hc : bpKey (l.getD i z31) = n
    · have h1 : (l.getD i z31).f0 ≤ (l.getD i z31).f1 ∧ (l.getD i z31).f0 = n := by
        unfold bpKey at hc; split at hc <;> omega
      rw [if_pos h1.1, if_pos h1.2, if_pos (by omega)]
      rw [if_pos (decide_eq_true hc)] at hn
      refine ih (i + 1) k (out ++ [(i : Int)]) (by omega) (by rw [List.length_append]; simp; omega) (by omega) (fun k' hk' => ?_)
      have := hn k' hk'
      rw [List.append_assoc, List.singleton_append]; exact this
    · rw [if_neg (by simpa using hc)] at hn
      have := ih (i + 1) k out (by omega) (by omega) (by omega) hn
      by_cases h1 : (l.getD i z31).f0 ≤ (l.getD i z31).f1
      · rw [if_pos h1, if_neg (fun h2 => hc (by unfold bpKey; rw [if_pos h1]; exact h2))]; exact this
      · rw [if_neg h1]; exact this
theorem spec_ByPairs_l3 (l : List S31) (hok : bothOk l = true) (n : Int) (n1 : 1 ≤ n) (n9 : n ≤ 9) (R : List Int) (K : Nat) : ∀ (q i k : Nat) (out : List Int), i + q = l.length → out.length + q ≤ 1000 → q + 1 + K ≤ k →
    (∀ k', K ≤ k' → spec_ByPairs.l2 k' l (out ++ ((idx l.length).drop i).filter (fun a => decide (keyI l a = 100 - n))) (n - 1) = some R) → spec_ByPairs.l3 k l out n i = some R := by
  have h6 := bothOk_len hok
  have hm := bothOk_mem hok
  intro q
  induction q with
  | zero =>
    intro i k out hi ho hk hn
    obtain ⟨k, rfl⟩ : ∃ m, k = m + 1 := ⟨k - 1, by omega⟩
    simp only [spec_ByPairs.l3]
    rw [if_neg (by omega), show wrap64 (n - 1) = n - 1 from w64 (by omega) (by omega)]
    have := hn k (by omega)
    rw [List.drop_eq_nil_of_le (by rw [idx_length]; omega), List.filter_nil, List.append_nil] at this
    exact this
  | succ q ih =>
    intro i k out hi ho hk hn
    obtain ⟨k, rfl⟩ : ∃ m, k = m + 1 := ⟨k - 1, by omega⟩
    have hb := hm (l.getD i z31) (getD_mem (by omega) _)
    rw [idx_drop _ _ (by omega), List.filter_cons, keyI_nat] at hn
    simp only [spec_ByPairs.l3]
    rw [if_pos (by omega), if_pos (by omega), rd_Both_nat, w64s i (by omega)]
    by_cases hc : bpKey (l.getD i z31) = 100 - n
    · have h1 : (l.getD i z31).f0 > (l.getD i z31).f1 ∧ (l.getD i z31).f1 = n := by
        unfold bpKey at hc; split at hc <;> omega
      rw [if_pos h1.1, if_pos h1.2, if_pos (by omega)]
      rw [if_pos (decide_eq_true hc)] at hn
      refine ih (i + 1) k (out ++ [(i : Int)]) (by omega) (by rw [List.length_append]; simp; omega) (by omega) (fun k' hk' => ?_)
      have := hn k' hk'
      rw [List.append_assoc, List.singleton_append]; exact this
    · rw [if_neg (by simpa using hc)] at hn
      have := ih (i + 1) k out (by omega) (by omega) (by omega) hn
      by_cases h1 : (l.getD i z31).f0 > (l.getD i z31).f1
      · rw [if_pos h1, if_neg (fun h2 => hc (by unfold bpKey; rw [if_neg (by omega)]; omega))]; exact this
      · rw [if_neg h1]; exact this
theorem idx_filter_le (l : List S31) (p : Int → Bool) : ((idx l.length).filter p).length ≤ l.length := by
  have := List.length_filter_le p (idx l.length)
  rw [idx_length] at this; exact this
theorem spec_ByPairs_l2 (l : List S31) (hok : bothOk l = true) : ∀ (d k : Nat) (out : List Int), d ≤ 9 → out.length + 6 * d ≤ 900 → d * 10 + 1 ≤ k → spec_ByPairs.l2 k l out d = some (out ++ bpB (keyI l) (bpDn d) (idx l.length)) := by
  have h6 := bothOk_len hok
  intro d
  induction d with
  | zero =>
    intro k out hd ho hk
    obtain ⟨k, rfl⟩ : ∃ m, k = m + 1 := ⟨k - 1, by omega⟩
    simp only [spec_ByPairs.l2]
    rw [if_neg (by omega)]
    unfold bpDn bpB; simp
  | succ d ih =>
    intro k out hd ho hk
    obtain ⟨k, rfl⟩ : ∃ m, k = m + 1 := ⟨k - 1, by omega⟩
    simp only [spec_ByPairs.l2]
    rw [if_pos (by omega)]
    refine spec_ByPairs_l3 l hok _ (by omega) (by omega) _ (d * 10 + 1) l.length 0 k out (by omega) (by omega) (by omega) (fun k' hk' => ?_)
    have hf := idx_filter_le l (fun a => decide (keyI l a = 100 - ((d + 1 : Nat) : Int)))
    rw [show (((d + 1 : Nat) : Int) - 1) = (d : Int) from by omega, List.drop_zero, ih k' _ (by omega) (by rw [List.length_append]; omega) hk', List.append_assoc]
    rw [show bpDn (d + 1) = (100 - ((d + 1 : Nat) : Int)) :: bpDn d from rfl, bp_cons]
theorem spec_ByPairs_l0 (l : List S31) (hok : bothOk l = true) : ∀ (d k : Nat) (out : List Int), d ≤ 9 → out.length + 6 * d ≤ 500 → d * 10 + 200 ≤ k → spec_ByPairs.l0 k l out (10 - (d : Int)) = some (out ++ bpB (keyI l) (bpUp d) (idx l.length) ++ bpB (keyI l) (bpDn 9) (idx l.length)) := by
  have h6 := bothOk_len hok
  intro d
  induction d with
  | zero =>
    intro k out hd ho hk
    obtain ⟨k, rfl⟩ : ∃ m, k = m + 1 := ⟨k - 1, by omega⟩
    simp only [spec_ByPairs.l0]
    rw [if_neg (by omega)]
    have := spec_ByPairs_l2 l hok 9 k out (by omega) (by omega) (by omega)
    rw [show (9 : Int) = ((9 : Nat) : Int) from rfl, this]
    unfold bpUp; rw [show bpB (keyI l) [] (idx l.length) = [] from rfl, List.append_nil]
  | succ d ih =>
    intro k out hd ho hk
    obtain ⟨k, rfl⟩ : ∃ m, k = m + 1 := ⟨k - 1, by omega⟩
    simp only [spec_ByPairs.l0]
    rw [if_pos (by omega)]
    refine spec_ByPairs_l1 l hok _ (by omega) (by omega) _ (d * 10 + 200) l.length 0 k out (by omega) (by omega) (by omega) (fun k' hk' => ?_)
    have hf := idx_filter_le l (fun a => decide (keyI l a = 10 - ((d + 1 : Nat) : Int)))
    rw [show ((10 : Int) - ((d + 1 : Nat) : Int) + 1) = 10 - (d : Int) from by omega, List.drop_zero, ih k' _ (by omega) (by rw [List.length_append]; omega) hk']
    rw [show bpUp (d + 1) = (10 - ((d + 1 : Nat) : Int)) :: bpUp d from rfl, bp_cons, List.append_assoc out]
theorem spec_ByPairs_is (l : List S31) (hl : l.length ≤ 1048576) (k : Nat) (hk : l.length + 1000 < k) : spec_ByPairs.f k l = some (if bothOk l = true then byPairsP l else []) := by
  unfold spec_ByPairs.f
  rw [Option.bind_some, spec_BothOk_is l hl k (by omega), Option.bind_some]
  by_cases hok : bothOk l = true
  · rw [if_pos hok, if_pos hok]
    have := spec_ByPairs_l0 l hok 9 k [] (by omega) (by simp) (by omega)
    rw [show (10 : Int) - ((9 : Nat) : Int) = 1 from rfl] at this
    rw [this, List.nil_append, ← bp_app]
    rfl
  · rw [if_neg hok, if_neg hok]
theorem impl_numbered_loop (n : Nat) (hn : n ≤ 1048576) : ∀ (q i k : Nat), i + q = n → q < k → impl_numbered.l0 k ((idx n).take i) n i = some (idx n) := by
  intro q
  induction q with
  | zero =>
    intro i k hi hk
    obtain ⟨k, rfl⟩ : ∃ m, k = m + 1 := ⟨k - 1, by omega⟩
    simp only [impl_numbered.l0]
    rw [if_neg (by omega), List.take_of_length_le (by rw [idx_length]; omega)]
  | succ q ih =>
    intro i k hi hk
    obtain ⟨k, rfl⟩ : ∃ m, k = m + 1 := ⟨k - 1, by omega⟩
    have hl : i < (idx n).length := by rw [idx_length]; omega
    simp only [impl_numbered.l0]
    rw [if_pos (by omega), if_pos (by rw [List.length_take]; omega), w64s i (by omega)]
    have e : (idx n).take i ++ [(i : Int)] = (idx n).take (i + 1) := by
      rw [List.take_succ_eq_append_getElem hl, idx_get]
    rw [e]
    exact ih (i + 1) k (by omega) (by omega)
theorem impl_numbered_is (n : Nat) (hn : n ≤ 1048576) (k : Nat) (hk : n < k) : impl_numbered.f k n = some (idx n) := by
  have := impl_numbered_loop n hn n 0 k (by omega) hk
  rw [List.take_zero] at this
  exact this
theorem bp_map {α : Type} (key : α → Int) (g : α → Int) (key2 : Int → Int) (h : ∀ a, key2 (g a) = key a) (L : List α) : ∀ vs : List Int, (bpB key vs L).map g = bpB key2 vs (L.map g) := by
  intro vs
  induction vs with
  | nil => rfl
  | cons v vs ih =>
    rw [bp_cons, bp_cons, List.map_append, ih, List.filter_map]
    congr 2
    apply List.filter_congr
    intro a _
    show _ = decide (key2 (g a) = v)
    rw [h]
theorem cf_key (l : List S31) (m : Nat) (hl : l.length = m + 1) (hm : ∀ b ∈ l, 1 ≤ b.f0 ∧ b.f0 ≤ 9 ∧ 1 ≤ b.f1 ∧ b.f1 ≤ 9) (i j : Fin (m + 1)) : ltOf (impl_ByPairs.cf l m) i j = decide (keyI l (i.val : Int) < keyI l (j.val : Int)) := by
  have hi := hm (l.getD i.val z31) (getD_mem (by omega) _)
  have hj := hm (l.getD j.val z31) (getD_mem (by omega) _)
  unfold ltOf
  rw [keyI_nat, keyI_nat]
  unfold impl_ByPairs.cf
  rw [rd_Both_nat, rd_Both_nat]
  generalize l.getD i.val z31 = x at *
  generalize l.getD j.val z31 = y at *
  rw [show wrap64 (x.f0 - y.f0) = x.f0 - y.f0 from w64 (by omega) (by omega), show wrap64 (y.f1 - x.f1) = y.f1 - x.f1 from w64 (by omega) (by omega)]
  unfold bpKey
  rw [decide_eq_decide]
  split <;> split <;> omega
theorem sorted_is (l : List S31) (hok : bothOk l = true) : impl_ByPairs.sorted l l.length = byPairsP l := by
  have h6 := bothOk_len hok
  have hm := bothOk_mem hok
  obtain ⟨m, hl⟩ : ∃ m, l.length = m + 1 := ⟨l.length - 1, by omega⟩
  unfold byPairsP
  rw [hl]
  show (Sort.insertionSort (ltOf (impl_ByPairs.cf l m)) (List.finRange (m + 1)).toArray 0 (m + 1)).toList.map (fun i => (i.val : Int)) = _
  have hs := bp_sorted (ltOf (impl_ByPairs.cf l m)) (fun i : Fin (m + 1) => keyI l (i.val : Int)) (cf_key l m hl hm) bpVs bpVs_asc (List.finRange (m + 1)) (by intro e; have := congrArg List.length e; simp at this) (fun a _ => by
    rw [keyI_nat]
    exact bpVs_mem _ (hm _ (getD_mem (by omega) _)))
  rw [List.length_finRange] at hs
  rw [hs, bp_map (fun i : Fin (m + 1) => keyI l (i.val : Int)) (fun i => (i.val : Int)) (keyI l) (fun _ => rfl)]
  congr 1
  unfold idx
  apply List.ext_getElem
  · simp
  · intro i h1 h2
    simp
theorem impl_ByPairs_is (l : List S31) (hl : l.length ≤ 1048576) : impl_ByPairs.f l = some (if bothOk l = true then byPairsP l else []) := by
  unfold impl_ByPairs.f
  rw [impl_BothOk_is l hl _ (by omega), Option.bind_some]
  by_cases hok : bothOk l = true
  · have h6 := bothOk_len hok
    rw [if_pos hok, if_pos hok, if_pos h6, impl_numbered_is l.length hl _ (by omega), Option.bind_some, if_pos (show idx l.length = (List.range l.length).map (fun i : Nat => (i : Int)) from rfl), sorted_is l hok]
  · rw [if_neg hok, if_neg hok]

/-! law_ExactByPairs -/
theorem byPairsP_length (l : List S31) (hok : bothOk l = true) : (byPairsP l).length = l.length := by
  unfold byPairsP
  rw [(bp_perm (keyI l) bpVs bpVs_asc _ (idx l.length) rfl (fun a ha => by
    have := idx_mem ha
    unfold keyI
    exact bpVs_mem _ (bothOk_mem hok _ (getD_mem (by omega) _)))).length_eq, idx_length]
theorem FnExactByPairs : laws_FnExactByPairs.Pure := by
  intro l0 hl
  by_cases hb : (l0.length : Int) ≤ 1048576
  · have hm : (l0.map toB).length ≤ 1048576 := by rw [List.length_map]; omega
    have hm2 : (l0.map toB).length = l0.length := by rw [List.length_map]
    obtain ⟨K, hK⟩ : ∃ K, K = 4 * l0.length + 3000 := ⟨_, rfl⟩
    generalize hR : (if bothOk (l0.map toB) = true then byPairsP (l0.map toB) else []) = R
    have hRl : R.length ≤ 1048576 := by
      rw [← hR]
      split
      · rename_i h; rw [byPairsP_length _ h]; exact hm
      · simp
    have hRl2 : R.length ≤ l0.length := by
      rw [← hR]
      split
      · rename_i h; rw [byPairsP_length _ h]; omega
      · simp
    have e1 : impl_ByPairs.f (l0.map toB) = some R := by rw [impl_ByPairs_is _ hm, hR]
    have e2 : ∀ k, K ≤ k → spec_ByPairs.f k (l0.map toB) = some R := fun k hk => by rw [spec_ByPairs_is _ hm k (by omega), hR]
    refine ⟨K + 3, ?_⟩
    unfold laws_FnExactByPairs.f
    rw [szBothS_is l0 hl.1 1048576 (by omega) (by omega), if_pos hb]; simp only [Option.bind_some]
    rw [if_neg (by omega), toBothS_is l0 (by omega) _ (by omega)]; simp only [Option.bind_some]
    rw [e2 _ (by omega), e1]; simp only [Option.bind_some]
    rw [eqIntS_is R hRl _ (by omega)]; simp only [Option.bind_some]
    rw [if_pos trivial, eqBothS_is _ hm _ (by omega)]; simp only [Option.bind_some]
    rw [if_pos trivial, markBothS_is _ hm _ (by omega)]; simp only [Option.bind_some]
    rw [if_neg (by omega)]
    simp only [laws_FnExactByPairs.j0]
    rw [if_neg (by simp), markIntS_is R hRl _ (by omega)]; simp only [Option.bind_some]
    rw [heldIntS_is R.length hRl _ (by omega)]; simp only [Option.bind_some]
    rw [if_neg (by omega), if_pos trivial, toBothS_is l0 (by omega) _ (by omega)]; simp only [Option.bind_some]
    rw [e1]; simp only [Option.bind_some]
    rw [eqIntS_is R hRl _ (by omega)]; simp only [Option.bind_some]
    rw [if_pos trivial, if_neg (by omega), if_pos trivial]
  · refine ⟨0, ?_⟩
    unfold laws_FnExactByPairs.f
    rw [szBothS_is l0 hl.1 1048576 (by omega) (by omega), if_neg hb]; rfl

end Go.Proofs.Ytanmcbjlooknoaa.Pure
