/- The pure part of the proof of FnExactJournalText: the printed functions answer true, for every drawn or given argument within the row's own bounds; no further condition. -/
import Derived.Test.YtacgjnlobmbfcaaDoorPFnExactJournalTextx5
import Derived.Laws.BitsLemmas
namespace Go.Proofs.YtacgjnlobmbfcaaDoor.Pure
open Go.RowKit Go.Proofs.YtacgjnlobmbfcaaDoor.PFnExactJournalText Go.Proofs.YtacgjnlobmbfcaaDoorW.PrintWords Go.Proofs.YtacgjnlobmbfcaaDoorW.PrintLast Go.Proofs.YtacgjnlobmbfcaaDoorW.PrintMore
set_option linter.unusedVariables false
set_option linter.unusedSimpArgs false
/-! base -/
theorem w64 {x : Int} (h0 : -9223372036854775808 ≤ x) (h1 : x ≤ 9223372036854775807) : wrap64 x = x := by
  unfold wrap64
  omega
theorem w64s (n : Nat) (h : n ≤ 4611686018427387904) : wrap64 ((n : Int) + 1) = ((n + 1 : Nat) : Int) := by
  unfold wrap64
  omega
theorem drop_split {α : Type} {l : List α} {i : Nat} {x : α} {xs : List α} (h : l.drop i = x :: xs) : i < l.length ∧ l.drop (i + 1) = xs ∧ ∀ d, l.getD i d = x := by
  have hi : i < l.length := by
    have h2 : 0 < (l.drop i).length := by rw [h]; simp
    rw [List.length_drop] at h2
    omega
  rw [List.drop_eq_getElem_cons hi] at h
  injection h with h1 h2
  exact ⟨hi, h2, fun d => by rw [List.getD_eq_getElem?_getD, List.getElem?_eq_getElem hi, h1]; rfl⟩
theorem drop_nil {α : Type} {l : List α} {i : Nat} (h : l.drop i = []) : l.length ≤ i := List.drop_eq_nil_iff.1 h
theorem getD_lt {α : Type} {l : List α} {i : Nat} (h : i < l.length) (d : α) : l.getD i d = l[i] := by
  rw [List.getD_eq_getElem?_getD, List.getElem?_eq_getElem h]; rfl
theorem rd_nat (l : List Int) (i : Nat) : rd l (i : Int) = l.getD i 0 := by
  unfold rd
  rw [Int.toNat_natCast]
theorem getD_mem {α : Type} {l : List α} {i : Nat} (h : i < l.length) (d : α) : l.getD i d ∈ l := by
  rw [getD_lt h]; exact List.getElem_mem h
theorem take_succ_getD {α : Type} {l : List α} {i : Nat} (h : i < l.length) (d : α) : l.take (i + 1) = l.take i ++ [l.getD i d] := by
  rw [getD_lt h, List.take_succ_eq_append_getElem h]
theorem mx_max (a b : Int) : mx a b = max a b := by
  unfold mx; omega
theorem mn_min (a b : Int) : mn a b = min a b := by
  unfold mn; omega
theorem bind_of {α β : Type} {o : Option α} {r : α} {f : α → Option β} {s : Option β} (h : o = some r) (h2 : f r = s) : o.bind f = s := by rw [h]; exact h2
theorem getD_snoc_last {α : Type} (l : List α) (x d : α) {i : Nat} (h : l.length = i) : (l ++ [x]).getD i d = x := by
  subst h
  rw [List.getD_eq_getElem?_getD, List.getElem?_append_right (Nat.le_refl _), Nat.sub_self]
  rfl
theorem getD_snoc_lt {α : Type} (l r : List α) (d : α) {i : Nat} (h : i < l.length) : (l ++ r).getD i d = l.getD i d := by
  rw [List.getD_eq_getElem?_getD, List.getElem?_append_left h, List.getD_eq_getElem?_getD]

/-! l1in -/
theorem spec_l1In_is (a b c : Int) : spec_l1In.f a b c = some (decide (b ≤ a ∧ a ≤ c)) := by
  unfold spec_l1In.f
  by_cases h : a ≥ b
  · rw [if_pos h]
    congr 1
    apply decide_eq_decide.2
    omega
  · rw [if_neg h]
    congr 1
    symm
    exact decide_eq_false (by omega)

/-! deedtext -/
/-! The text of a number in 0..99. -/
def numP (n : Int) : ByteArray := ⟨(Lib.decDigits n.toNat).toArray⟩
theorem itoa_is (n : Int) (h0 : 0 ≤ n) (h1 : n ≤ 99) : strconv_Itoa_32.f n = some (numP n) := by
  unfold strconv_Itoa_32.f
  rw [if_pos h0, if_pos (by omega)]; rfl
theorem bytes_app (a b : List UInt8) : (⟨a.toArray⟩ : ByteArray) ++ ⟨b.toArray⟩ = ⟨(a ++ b).toArray⟩ := by
  apply ByteArray.ext
  simp
theorem dec_small (u : Nat) (h : u < 10) : Lib.decDigits u = [UInt8.ofNat (48 + u)] := by rw [Lib.decDigits, dif_pos h]
theorem dec_big (u : Nat) (h : ¬ u < 10) : Lib.decDigits u = Lib.decDigits (u / 10) ++ [UInt8.ofNat (48 + u % 10)] := by rw [Lib.decDigits, dif_neg h]
theorem numP_small (n : Int) (h0 : 0 ≤ n) (h1 : n < 10) : numP n = strOfNums [48 + n] := by
  unfold numP strOfNums
  rw [dec_small n.toNat (by omega)]
  simp only [List.map_cons, List.map_nil]
  rw [show (48 + n).toNat = 48 + n.toNat from by omega]
theorem numP_big (n : Int) (h0 : 10 ≤ n) : numP n = numP (n / 10) ++ strOfNums [48 + n % 10] := by
  unfold numP strOfNums
  rw [dec_big n.toNat (by omega), bytes_app]
  simp only [List.map_cons, List.map_nil]
  rw [show (48 + n % 10).toNat = 48 + n.toNat % 10 from by omega, show (n / 10).toNat = n.toNat / 10 from by omega]
theorem numP_size (n : Int) (h0 : 0 ≤ n) (h1 : n ≤ 99) : 1 ≤ (numP n).size ∧ (numP n).size ≤ 2 := by
  have hs : ∀ u : Nat, (numP (u : Int)).size = (Lib.decDigits u).length := fun u => by
    unfold numP
    rw [Int.toNat_natCast]; rfl
  rw [show n = ((n.toNat : Nat) : Int) from by omega, hs]
  by_cases h : n.toNat < 10
  · rw [dec_small _ h]; simp
  · rw [dec_big _ h, dec_small _ (by omega)]; simp
theorem number_is (n : Int) (h0 : 0 ≤ n) (h1 : n ≤ 99) (k : Nat) (hk : 2 ≤ k) : spec_l1Number.f k n = some (numP n) := by
  obtain ⟨k, rfl⟩ : ∃ m, k = m + 1 := ⟨k - 1, by omega⟩
  obtain ⟨k, rfl⟩ : ∃ m, k = m + 1 := ⟨k - 1, by omega⟩
  have small : ∀ (k : Nat) (m : Int), 0 ≤ m → m < 10 → spec_l1Number.f (k + 1) m = some (numP m) := by
    intro k m m0 m1
    simp only [spec_l1Number.f]
    rw [if_pos m1, numP_small m m0 m1]
    have e : mx m 0 = m := by rw [mx_max]; omega
    rw [e, w64 (x := 48 + m) (by omega) (by omega), show (48 + m) % 256 = 48 + m from by omega]
  by_cases h : n < 10
  · exact small _ n h0 h
  · rw [spec_l1Number.f, if_neg h]
    have e1 : wrap64 (Int.tdiv n 10) = n / 10 := by rw [Int.tdiv_eq_ediv_of_nonneg h0, w64 (by omega) (by omega)]
    have e2 : wrap64 (48 + Int.tmod n 10) % 256 = 48 + n % 10 := by rw [Int.tmod_eq_emod_of_nonneg h0, w64 (by omega) (by omega)]; omega
    rw [e1, e2, small k (n / 10) (by omega) (by omega), Option.bind_some, Option.bind_some]
    have := numP_size (n / 10) (by omega) (by omega)
    have hs : (strOfNums [48 + n % 10]).size = 1 := rfl
    rw [if_pos (by omega), numP_big n (by omega)]
def strP (l : List UInt8) : ByteArray := ⟨l.toArray⟩
/-- The text of a deed. -/
def deedP (kind a b : Int) : ByteArray :=
  if (0 ≤ a ∧ a ≤ 99) ∧ (0 ≤ b ∧ b ≤ 99) then
    if kind = 0 then (((⟨#[99, 111, 109, 101, 32]⟩ : ByteArray) ++ numP a) ++ (⟨#[32]⟩ : ByteArray)) ++ numP b
    else if b = 0 then
      if kind = 2 then (⟨#[110, 101, 101, 100, 32]⟩ : ByteArray) ++ numP a
      else if kind = 3 then (⟨#[108, 97, 116, 101, 114, 32]⟩ : ByteArray) ++ numP a
      else if a = 0 then (if kind = 1 then ⟨#[103, 111]⟩ else if kind = 4 then ⟨#[98, 97, 99, 107]⟩ else ⟨#[]⟩)
      else ⟨#[]⟩
    else ⟨#[]⟩
  else ⟨#[]⟩
theorem impl_DeedText_is (kind a b : Int) (k : Nat) (hk : 5 ≤ k) : impl_DeedText.f k kind a b = some (deedP kind a b) := by
  obtain ⟨k, rfl⟩ : ∃ m, k = m + 1 := ⟨k - 1, by omega⟩
  unfold impl_DeedText.f deedP
  by_cases h : (0 ≤ a ∧ a ≤ 99) ∧ (0 ≤ b ∧ b ≤ 99)
  · obtain ⟨⟨a0, a1⟩, b0, b1⟩ := h
    have sa := numP_size a a0 a1
    have sb := numP_size b b0 b1
    rw [if_neg (by omega), if_neg (by omega), if_neg (by omega), if_pos ⟨⟨a0, a1⟩, b0, b1⟩, decide_eq_false (show ¬ b > 99 by omega)]
    simp only [impl_DeedText.j0]
    rw [if_neg (by simp), itoa_is a a0 a1, Option.bind_some, itoa_is b b0 b1]
    have e1 : ((⟨#[32]⟩ : ByteArray) ++ numP a).size = 1 + (numP a).size := by rw [ByteArray.size_append]; rfl
    have e2 : ((⟨#[99, 111, 109, 101]⟩ : ByteArray) ++ ((⟨#[32]⟩ : ByteArray) ++ numP a)).size = 4 + (1 + (numP a).size) := by rw [ByteArray.size_append, e1]; rfl
    have e3 : (((⟨#[99, 111, 109, 101]⟩ : ByteArray) ++ ((⟨#[32]⟩ : ByteArray) ++ numP a)) ++ (⟨#[32]⟩ : ByteArray)).size = 4 + (1 + (numP a).size) + 1 := by rw [ByteArray.size_append, e2]; rfl
    rw [if_pos (by omega), Option.bind_some, e1, e2, e3]
    by_cases k0 : kind = 0
    · rw [if_pos k0, if_pos (by omega), if_pos (by omega), if_pos (by omega), if_pos k0, ← ByteArray.append_assoc]; rfl
    · rw [if_neg k0, if_neg k0]
      by_cases hb : b = 0
      · rw [if_pos hb, if_pos hb]
        by_cases k2 : kind = 2
        · rw [if_pos k2, if_pos (by omega), if_pos k2, ← ByteArray.append_assoc]; rfl
        · rw [if_neg k2, if_neg k2]
          by_cases k3 : kind = 3
          · rw [if_pos k3, if_pos (by omega), if_pos k3, ← ByteArray.append_assoc]; rfl
          · rw [if_neg k3, if_neg k3]
            split
            · split
              · rfl
              · split <;> rfl
            · rfl
      · rw [if_neg hb, if_neg hb]
  · rw [if_neg h]
    have j : ∀ x, x = true → impl_DeedText.j0 (k + 1) x kind a b = some ⟨#[]⟩ := fun x hx => by
      simp only [impl_DeedText.j0]
      rw [if_pos hx]
    by_cases h1 : a < 0
    · rw [if_pos h1]; exact j _ rfl
    · rw [if_neg h1]
      by_cases h2 : a > 99
      · rw [if_pos h2]; exact j _ rfl
      · rw [if_neg h2]
        by_cases h3 : b < 0
        · rw [if_pos h3]; exact j _ rfl
        · rw [if_neg h3]; exact j _ (decide_eq_true (by omega))
theorem spec_DeedText_is (kind a b : Int) (k : Nat) (hk : 9 ≤ k) : spec_DeedText.f k kind a b = some (deedP kind a b) := by
  obtain ⟨k, rfl⟩ : ∃ m, k = m + 1 := ⟨k - 1, by omega⟩
  obtain ⟨k, rfl⟩ : ∃ m, k = m + 1 := ⟨k - 1, by omega⟩
  obtain ⟨k, rfl⟩ : ∃ m, k = m + 1 := ⟨k - 1, by omega⟩
  have sa := fun (h : 0 ≤ a ∧ a ≤ 99) => numP_size a h.1 h.2
  have sb := fun (h : 0 ≤ b ∧ b ≤ 99) => numP_size b h.1 h.2
  have j2 : ∀ x : Bool, kind ≠ 0 → kind ≠ 2 → (x = true ↔ kind = 3 ∧ (0 ≤ a ∧ a ≤ 99) ∧ b = 0) → spec_DeedText.j2 (k + 1) x kind a b = some (deedP kind a b) := by
    intro x k0 k2 hx
    simp only [spec_DeedText.j2]
    by_cases h : x = true
    · obtain ⟨k3, ha, hb⟩ := hx.1 h
      have := sa ha
      rw [if_pos h, number_is a ha.1 ha.2 k (by omega), Option.bind_some, if_pos (by omega)]
      unfold deedP
      rw [if_pos ⟨ha, by omega⟩, if_neg k0, if_pos hb, if_neg k2, if_pos k3]
    · rw [if_neg h]
      have h3 : ¬ (kind = 3 ∧ (0 ≤ a ∧ a ≤ 99) ∧ b = 0) := fun g => h (hx.2 g)
      by_cases hz : a = 0 ∧ b = 0
      · obtain ⟨rfl, rfl⟩ := hz
        have e : deedP kind 0 0 = (if kind = 1 then ⟨#[103, 111]⟩ else if kind = 4 then ⟨#[98, 97, 99, 107]⟩ else ⟨#[]⟩) := by
          unfold deedP
          rw [if_pos ⟨⟨by omega, by omega⟩, by omega, by omega⟩, if_neg k0, if_pos rfl, if_neg k2, if_neg (fun g => h3 ⟨g, by omega, rfl⟩), if_pos rfl]
        rw [e]
        by_cases k1 : kind = 1
        · rw [if_pos (by simp [k1]), if_pos k1]
        · rw [if_neg (by simp [k1]), if_neg k1]
          by_cases k4 : kind = 4
          · rw [if_pos (by simp [k4]), if_pos k4]
          · rw [if_neg (by simp [k4]), if_neg k4]
      · have f1 : ∀ c : Int, ¬ ((kind == c && (a == 0 && (b == 0))) = true) := fun c g => by
          simp only [Bool.and_eq_true, beq_iff_eq] at g
          exact hz g.2
        have e : deedP kind a b = ⟨#[]⟩ := by
          unfold deedP
          by_cases hab : (0 ≤ a ∧ a ≤ 99) ∧ (0 ≤ b ∧ b ≤ 99)
          · rw [if_pos hab, if_neg k0]
            by_cases hb : b = 0
            · rw [if_pos hb, if_neg k2, if_neg (fun g => h3 ⟨g, hab.1, hb⟩), if_neg (fun g => hz ⟨g, hb⟩)]
            · rw [if_neg hb]
          · rw [if_neg hab]
        rw [if_neg (f1 1), if_neg (f1 4), e]
  have j1 : ∀ x : Bool, kind ≠ 0 → (x = true ↔ kind = 2 ∧ (0 ≤ a ∧ a ≤ 99) ∧ b = 0) → spec_DeedText.j1 (k + 1 + 1) x kind a b = some (deedP kind a b) := by
    intro x k0 hx
    simp only [spec_DeedText.j1]
    by_cases h : x = true
    · obtain ⟨k2, ha, hb⟩ := hx.1 h
      have := sa ha
      rw [if_pos h, number_is a ha.1 ha.2 _ (by omega), Option.bind_some, if_pos (by omega)]
      unfold deedP
      rw [if_pos ⟨ha, by omega⟩, if_neg k0, if_pos hb, if_pos k2]
    · rw [if_neg h]
      have h2 : ¬ (kind = 2 ∧ (0 ≤ a ∧ a ≤ 99) ∧ b = 0) := fun g => h (hx.2 g)
      by_cases k2 : kind = 2
      · have hn : ¬ ((0 ≤ a ∧ a ≤ 99) ∧ b = 0) := fun g => h2 ⟨k2, g⟩
        have e : deedP kind a b = ⟨#[]⟩ := by
          unfold deedP
          by_cases hab : (0 ≤ a ∧ a ≤ 99) ∧ (0 ≤ b ∧ b ≤ 99)
          · rw [if_pos hab, if_neg k0, if_neg (fun g => hn ⟨hab.1, g⟩)]
          · rw [if_neg hab]
        rw [e, if_neg (by omega)]
        simp only [spec_DeedText.j2]
        rw [if_neg (by simp), if_neg (by simp [k2]), if_neg (by simp [k2])]
      · by_cases k3 : kind = 3
        · rw [if_pos k3, spec_l1In_is, Option.bind_some]
          by_cases ha : 0 ≤ a ∧ a ≤ 99
          · rw [if_pos (decide_eq_true ha)]
            exact j2 _ k0 k2 ⟨fun g => ⟨k3, ha, by rw [beq_iff_eq] at g; exact g⟩, fun g => by rw [beq_iff_eq]; exact g.2.2⟩
          · rw [if_neg (fun g => ha (of_decide_eq_true g))]
            exact j2 _ k0 k2 ⟨fun g => by simp at g, fun g => absurd g.2.1 ha⟩
        · rw [if_neg k3]
          exact j2 _ k0 k2 ⟨fun g => by simp at g, fun g => absurd g.1 k3⟩
  have j0 : ∀ x : Bool, (x = true ↔ kind = 0 ∧ (0 ≤ a ∧ a ≤ 99) ∧ (0 ≤ b ∧ b ≤ 99)) → spec_DeedText.j0 (k + 1 + 1 + 1) x kind a b = some (deedP kind a b) := by
    intro x hx
    simp only [spec_DeedText.j0]
    by_cases h : x = true
    · obtain ⟨k0, ha, hb⟩ := hx.1 h
      have s1 := sa ha
      have s2 := sb hb
      have e1 : ((⟨#[99, 111, 109, 101, 32]⟩ : ByteArray) ++ numP a).size = 5 + (numP a).size := by rw [ByteArray.size_append]; rfl
      have e2 : (((⟨#[99, 111, 109, 101, 32]⟩ : ByteArray) ++ numP a) ++ (⟨#[32]⟩ : ByteArray)).size = 5 + (numP a).size + 1 := by rw [ByteArray.size_append, e1]; rfl
      rw [if_pos h, number_is a ha.1 ha.2 _ (by omega), Option.bind_some, if_pos (by omega), if_pos (by omega), number_is b hb.1 hb.2 _ (by omega), Option.bind_some, if_pos (by omega)]
      unfold deedP
      rw [if_pos ⟨ha, hb⟩, if_pos k0]
    · rw [if_neg h]
      by_cases k0 : kind = 0
      · have e : deedP kind a b = ⟨#[]⟩ := by
          unfold deedP
          rw [if_neg (fun g => h (hx.2 ⟨k0, g⟩))]
        rw [e, if_neg (by omega)]
        simp only [spec_DeedText.j1]
        rw [if_neg (by simp), if_neg (by omega)]
        simp only [spec_DeedText.j2]
        rw [if_neg (by simp), if_neg (by simp [k0]), if_neg (by simp [k0])]
      · by_cases k2 : kind = 2
        · rw [if_pos k2, spec_l1In_is, Option.bind_some]
          by_cases ha : 0 ≤ a ∧ a ≤ 99
          · rw [if_pos (decide_eq_true ha)]
            exact j1 _ k0 ⟨fun g => ⟨k2, ha, by rw [beq_iff_eq] at g; exact g⟩, fun g => by rw [beq_iff_eq]; exact g.2.2⟩
          · rw [if_neg (fun g => ha (of_decide_eq_true g))]
            exact j1 _ k0 ⟨fun g => by simp at g, fun g => absurd g.2.1 ha⟩
        · rw [if_neg k2]
          exact j1 _ k0 ⟨fun g => by simp at g, fun g => absurd g.1 k2⟩
  unfold spec_DeedText.f
  by_cases k0 : kind = 0
  · rw [if_pos k0, spec_l1In_is, Option.bind_some]
    by_cases ha : 0 ≤ a ∧ a ≤ 99
    · rw [if_pos (decide_eq_true ha), spec_l1In_is, Option.bind_some]
      exact j0 _ ⟨fun g => ⟨k0, ha, of_decide_eq_true g⟩, fun g => decide_eq_true g.2.2⟩
    · rw [if_neg (fun g => ha (of_decide_eq_true g))]
      exact j0 _ ⟨fun g => by simp at g, fun g => absurd g.2.1 ha⟩
  · rw [if_neg k0]
    exact j0 _ ⟨fun g => by simp at g, fun g => absurd g.1 k0⟩

/-! setdrop -/
theorem set_append_drop {α : Type} (X : List α) (v : α) {i : Nat} (h : i < X.length) : (X.set i v).take (i + 1) = X.take i ++ [v] ∧ (X.set i v).drop (i + 1) = X.drop (i + 1) := by
  constructor
  · rw [List.take_succ_eq_append_getElem (by rw [List.length_set]; exact h), List.take_set_of_le (Nat.le_refl _), List.getElem_set_self]
  · rw [List.drop_set_of_lt (by omega)]

/-! exactdeed -/
theorem szDeedS_is (l : List S23) (hl : l.length ≤ maxLen) (a : Int) (h0 : 0 ≤ a) (h1 : a ≤ 1048576) : laws_szDeedS.f l a = some (if (l.length : Int) ≤ a then a - l.length else -1) := by
  unfold maxLen at hl
  unfold laws_szDeedS.f
  rw [show wrap64 (a - (l.length : Int)) = a - l.length from w64 (by omega) (by omega)]
  by_cases h : (l.length : Int) ≤ a
  · rw [if_neg (by omega), if_pos h]
  · rw [if_pos (by omega), if_neg h]
def toD (c : S23) : S25 := ⟨c.f0, c.f1, c.f2⟩
theorem rd_LDeed_nat (l : List S23) (i : Nat) : rd_T23 l (i : Int) = l.getD i z23 := by
  unfold rd_T23
  rw [Int.toNat_natCast]
theorem toDeedS_loop (l : List S23) (hl : l.length ≤ 1048576) : ∀ (suf : List S23) (i k : Nat) (X : List S25), l.drop i = suf → suf.length < k → i ≤ l.length → X.length = l.length →
    laws_toDeedS.l0 k l X i = some (X.take i ++ suf.map toD) := by
  intro suf
  induction suf with
  | nil =>
    intro i k X hd hk hi hX
    obtain ⟨k, rfl⟩ : ∃ m, k = m + 1 := ⟨k - 1, by omega⟩
    have := drop_nil hd
    simp only [laws_toDeedS.l0]
    rw [if_neg (by omega), List.take_of_length_le (by omega)]
    simp
  | cons x xs ih =>
    intro i k X hd hk hi hX
    obtain ⟨k, rfl⟩ : ∃ m, k = m + 1 := ⟨k - 1, by omega⟩
    obtain ⟨hlt, hd2, hx⟩ := drop_split hd
    simp only [laws_toDeedS.l0, laws_toDeed.f, Option.bind_some]
    rw [if_pos (by omega), if_pos (by omega), if_pos (by omega), rd_LDeed_nat, hx, w64s i (by omega), Int.toNat_natCast]
    obtain ⟨e1, -⟩ := set_append_drop X (⟨x.f0, x.f1, x.f2⟩ : S25) (i := i) (by omega)
    rw [ih (i + 1) k _ hd2 (by simp at hk; omega) (by omega) (by rw [List.length_set]; exact hX), e1]
    simp [toD]
theorem toDeedS_is (l : List S23) (hl : l.length ≤ 1048576) (k : Nat) (hk : l.length < k) : laws_toDeedS.f k l = some (l.map toD) := by
  unfold laws_toDeedS.f
  rw [if_pos (by omega), if_pos (by omega)]
  exact toDeedS_loop l hl l 0 k _ rfl hk (by omega) (by simp)
theorem eqDeedS_loop (a : List S25) (ha : a.length ≤ 1048576) : ∀ (suf : List S25) (i k : Nat), a.drop i = suf → suf.length < k → laws_eqDeedS.l0 k a a i = some true := by
  intro suf
  induction suf with
  | nil =>
    intro i k hd hk
    obtain ⟨k, rfl⟩ : ∃ m, k = m + 1 := ⟨k - 1, by omega⟩
    have := drop_nil hd
    simp only [laws_eqDeedS.l0]
    rw [if_neg (by omega)]
  | cons x xs ih =>
    intro i k hd hk
    obtain ⟨k, rfl⟩ : ∃ m, k = m + 1 := ⟨k - 1, by omega⟩
    obtain ⟨hlt, hd2, hx⟩ := drop_split hd
    have e : ∀ p q r, laws_eqDeed.f p q r p q r = some true := by intro p q r; unfold laws_eqDeed.f; rw [if_pos rfl, if_pos rfl, if_pos rfl]
    simp only [laws_eqDeedS.l0]
    rw [if_pos (by omega), if_pos (by omega), if_pos (by omega), e]
    simp only [Option.bind_some]
    rw [if_pos trivial, w64s i (by omega), ih (i + 1) k hd2 (by simp at hk; omega)]
theorem eqDeedS_is (a : List S25) (ha : a.length ≤ 1048576) (k : Nat) (hk : a.length < k) : laws_eqDeedS.f k a a = some true := by
  unfold laws_eqDeedS.f
  rw [if_pos rfl]
  exact eqDeedS_loop a ha a 0 k rfl hk

/-! journal -/
/-! The text of a journal. -/
theorem deedP_size (kind a b : Int) : (deedP kind a b).size ≤ 12 := by
  unfold deedP
  have e0 : ∀ l : ByteArray, l = ⟨#[]⟩ → l.size ≤ 12 := fun l h => by rw [h]; decide
  by_cases h : (0 ≤ a ∧ a ≤ 99) ∧ (0 ≤ b ∧ b ≤ 99)
  · rw [if_pos h]
    have sa := numP_size a h.1.1 h.1.2
    have sb := numP_size b h.2.1 h.2.2
    by_cases k0 : kind = 0
    · rw [if_pos k0, ByteArray.size_append, ByteArray.size_append, ByteArray.size_append]
      show 5 + _ + 1 + _ ≤ 12
      omega
    · rw [if_neg k0]
      by_cases hb : b = 0
      · rw [if_pos hb]
        by_cases k2 : kind = 2
        · rw [if_pos k2, ByteArray.size_append]
          show 5 + _ ≤ 12
          omega
        · rw [if_neg k2]
          by_cases k3 : kind = 3
          · rw [if_pos k3, ByteArray.size_append]
            show 6 + _ ≤ 12
            omega
          · rw [if_neg k3]
            split
            · split
              · decide
              · split <;> decide
            · decide
      · rw [if_neg hb]; decide
  · rw [if_neg h]; decide
def journalP : ByteArray → List S25 → ByteArray
  | acc, [] => acc
  | acc, d :: ds => if (deedP d.f0 d.f1 d.f2).toList = ([] : List UInt8) then ⟨#[]⟩ else journalP ((acc ++ deedP d.f0 d.f1 d.f2) ++ (⟨#[10]⟩ : ByteArray)) ds
theorem rd_Deed_nat (l : List S25) (i : Nat) : rd_T25 l (i : Int) = l.getD i z25 := by
  unfold rd_T25
  rw [Int.toNat_natCast]
theorem acc_size (acc t : ByteArray) : ((acc ++ t) ++ (⟨#[10]⟩ : ByteArray)).size = acc.size + t.size + 1 := by
  rw [ByteArray.size_append, ByteArray.size_append]; rfl
theorem impl_Journal_loop (l : List S25) (hl : l.length ≤ 1048576) : ∀ (suf : List S25) (i k : Nat) (acc : ByteArray), l.drop i = suf → suf.length + 20 < k → i ≤ l.length → acc.size ≤ 13 * i → impl_JournalText.l0 k acc l (l.length : Int) (i : Int) = some (journalP acc suf) := by
  intro suf
  induction suf with
  | nil =>
    intro i k acc hd hk hi ha
    obtain ⟨k, rfl⟩ : ∃ m, k = m + 1 := ⟨k - 1, by omega⟩
    have := drop_nil hd
    simp only [impl_JournalText.l0]
    rw [if_neg (by omega)]; rfl
  | cons x xs ih =>
    intro i k acc hd hk hi ha
    obtain ⟨k, rfl⟩ : ∃ m, k = m + 1 := ⟨k - 1, by omega⟩
    obtain ⟨hlt, hd2, hx⟩ := drop_split hd
    have hs := deedP_size x.f0 x.f1 x.f2
    have e1 : (deedP x.f0 x.f1 x.f2 ++ (⟨#[10]⟩ : ByteArray)).size = (deedP x.f0 x.f1 x.f2).size + 1 := by rw [ByteArray.size_append]; rfl
    simp only [List.length_cons] at hk
    simp only [impl_JournalText.l0, journalP]
    rw [if_pos (by omega), if_pos (by omega), if_pos (by omega), rd_Deed_nat, hx, impl_DeedText_is _ _ _ k (by omega), Option.bind_some]
    by_cases hn : (deedP x.f0 x.f1 x.f2).toList = ([] : List UInt8)
    · rw [if_pos hn, if_pos hn]
    · rw [if_neg hn, if_neg hn, if_pos (by omega), if_pos (by omega), w64s i (by omega), ← ByteArray.append_assoc]
      exact ih (i + 1) k _ hd2 (by omega) (by omega) (by rw [acc_size]; omega)
theorem impl_JournalText_is (l : List S25) (hl : l.length ≤ 1048576) (k : Nat) (hk : l.length + 20 < k) : impl_JournalText.f k l = some (journalP ⟨#[]⟩ l) := by
  unfold impl_JournalText.f
  exact impl_Journal_loop l hl l 0 k _ rfl hk (by omega) (by decide)
theorem spec_Journal_loop (l : List S25) (hl : l.length ≤ 1048576) : ∀ (suf : List S25) (i k : Nat) (acc : ByteArray), l.drop i = suf → suf.length + 20 < k → i ≤ l.length → acc.size ≤ 13 * i → spec_JournalText.l0 k l acc (i : Int) = some (journalP acc suf) := by
  intro suf
  induction suf with
  | nil =>
    intro i k acc hd hk hi ha
    obtain ⟨k, rfl⟩ : ∃ m, k = m + 1 := ⟨k - 1, by omega⟩
    have := drop_nil hd
    simp only [spec_JournalText.l0]
    rw [if_neg (by omega)]; rfl
  | cons x xs ih =>
    intro i k acc hd hk hi ha
    obtain ⟨k, rfl⟩ : ∃ m, k = m + 1 := ⟨k - 1, by omega⟩
    obtain ⟨hlt, hd2, hx⟩ := drop_split hd
    have hs := deedP_size x.f0 x.f1 x.f2
    have e1 : (acc ++ deedP x.f0 x.f1 x.f2).size = acc.size + (deedP x.f0 x.f1 x.f2).size := ByteArray.size_append
    simp only [List.length_cons] at hk
    simp only [spec_JournalText.l0, journalP]
    rw [if_pos (by omega), if_pos (by omega), rd_Deed_nat, hx, spec_DeedText_is _ _ _ k (by omega), Option.bind_some]
    by_cases hn : (deedP x.f0 x.f1 x.f2).toList = ([] : List UInt8)
    · rw [if_pos hn, if_pos hn]
    · rw [if_neg hn, if_neg hn, Option.bind_some, if_pos (by omega), if_pos (by omega), w64s i (by omega)]
      exact ih (i + 1) k _ hd2 (by omega) (by omega) (by rw [acc_size]; omega)
theorem spec_JournalText_is (l : List S25) (hl : l.length ≤ 1048576) (k : Nat) (hk : l.length + 20 < k) : spec_JournalText.f k l = some (journalP ⟨#[]⟩ l) := by
  unfold spec_JournalText.f
  exact spec_Journal_loop l hl l 0 k _ rfl hk (by omega) (by decide)

/-! law_ExactJournalText -/
theorem FnExactJournalText : laws_FnExactJournalText.Pure := by
  intro l0 hl
  by_cases hb : (l0.length : Int) ≤ 1048576
  · have hm : (l0.map toD).length ≤ 1048576 := by rw [List.length_map]; omega
    have hm2 : (l0.map toD).length = l0.length := by rw [List.length_map]
    refine ⟨l0.length + 30, ?_⟩
    unfold laws_FnExactJournalText.f
    rw [szDeedS_is l0 hl.1 1048576 (by omega) (by omega), if_pos hb, Option.bind_some, if_neg (by omega), toDeedS_is l0 (by omega) _ (by omega), Option.bind_some, spec_JournalText_is _ hm _ (by omega), Option.bind_some, Option.bind_some, impl_JournalText_is _ hm _ (by omega), Option.bind_some, if_pos rfl, Option.bind_some, eqDeedS_is _ hm _ (by omega), Option.bind_some, if_pos rfl]
  · refine ⟨0, ?_⟩
    unfold laws_FnExactJournalText.f
    rw [szDeedS_is l0 hl.1 1048576 (by omega) (by omega), if_neg hb]; rfl

end Go.Proofs.YtacgjnlobmbfcaaDoor.Pure
