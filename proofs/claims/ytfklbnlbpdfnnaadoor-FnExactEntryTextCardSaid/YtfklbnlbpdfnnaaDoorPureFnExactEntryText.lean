/- The program's EntryText and the reference's return the same text: the name of the kind, the address' text where there is one, and the value's numeral; strconv.Itoa by the library's contract. No condition. -/
import Derived.Test.YtfklbnlbpdfnnaaDoorStdFnExactEntryText
namespace Go.Proofs.YtfklbnlbpdfnnaaDoor.Pure
open Go.RowKit Go.Proofs.YtfklbnlbpdfnnaaDoor.MFnExactEntryText Go.Proofs.YtfklbnlbpdfnnaaDoorW.PrintWords Go.Proofs.YtfklbnlbpdfnnaaDoorW.PrintLast Go.Proofs.YtfklbnlbpdfnnaaDoorW.PrintMore Go.Proofs.YtfklbnlbpdfnnaaDoor.Gen
set_option linter.unusedVariables false
set_option linter.unusedSimpArgs false


def bsl (l : List UInt8) : ByteArray := ⟨l.toArray⟩
theorem bsl_append (a b : List UInt8) : bsl a ++ bsl b = bsl (a ++ b) := by
  apply ByteArray.ext
  rw [ByteArray.data_append]
  simp [bsl]
theorem bsl_size (a : List UInt8) : (bsl a).size = a.length := by simp [bsl, ByteArray.size]
theorem numbyte (d : Int) (h0 : 0 ≤ d) (h1 : d < 10) : strOfNums [(wrap64 (48 + d)) % 256] = bsl [UInt8.ofNat (48 + d.toNat)] := by
  rw [w64 (by omega) (by omega)]
  unfold strOfNums bsl
  have e : ((48 + d) % 256).toNat = 48 + d.toNat := by omega
  simp only [List.map_cons, List.map_nil]
  rw [e]
theorem fmt_l0 (x0 : Int) : ∀ (m : Nat) (x4 : Int) (acc : List UInt8) (k : Nat), x4.natAbs = m → m ≤ 9223372036854775808 → 1 ≤ m → acc.length + Lib.nDigits m ≤ 1000 → Lib.nDigits m + 1 ≤ k →
    spec_FormatInt.l0 k x0 (bsl acc) x4 = some (if x0 < 0 then bsl (45 :: (Lib.decDigits m ++ acc)) else bsl (Lib.decDigits m ++ acc)) := by
  intro m
  induction m using Nat.strongRecOn with
  | ind m ih =>
    intro x4 acc k hm hM h1 hacc hk
    obtain ⟨k, rfl⟩ : ∃ j, k = j + 1 := ⟨k - 1, by omega⟩
    have hx : ¬ x4 = 0 := by omega
    rw [spec_FormatInt.l0, if_neg hx]
    have hd0 : (Int.tmod x4 10).natAbs = m % 10 := by rw [Int.natAbs_tmod, hm]; rfl
    have hq0 : (Int.tdiv x4 10).natAbs = m / 10 := by rw [Int.natAbs_tdiv, hm]; rfl
    have hdlt : m % 10 < 10 := Nat.mod_lt _ (by omega)
    -- one digit is put ahead
    have step : ∀ S : ByteArray, S = bsl [UInt8.ofNat (48 + m % 10)] → ((if S.size + (bsl acc).size ≤ 9223372036854775807 then (spec_FormatInt.l0 k x0 (S ++ bsl acc) (wrap64 (Int.tdiv x4 10))) else none) : Option ByteArray) = some (if x0 < 0 then bsl (45 :: (Lib.decDigits m ++ acc)) else bsl (Lib.decDigits m ++ acc)) := by
      rintro S rfl
      rw [bsl_size, bsl_size, bsl_append]
      have hqw : wrap64 (Int.tdiv x4 10) = Int.tdiv x4 10 := w64 (by omega) (by omega)
      rw [hqw]
      by_cases hs : m < 10
      · have hn : Lib.nDigits m = 1 := Lib.nDigits_small hs
        rw [if_pos (by simp; omega)]
        have hq : Int.tdiv x4 10 = 0 := by omega
        rw [hq]
        obtain ⟨k, rfl⟩ : ∃ j, k = j + 1 := ⟨k - 1, by omega⟩
        rw [spec_FormatInt.l0, if_pos rfl, Lib.decDigits_one hs]
        have e : m % 10 = m := by omega
        rw [e]
        by_cases hz : x0 < 0
        · rw [if_pos hz, if_pos hz, if_pos (by rw [bsl_size]; simp; omega)]
          have := bsl_append [45] ([UInt8.ofNat (48 + m)] ++ acc)
          simp only [List.cons_append, List.nil_append] at this ⊢
          rw [← this]
          rfl
        · rw [if_neg hz, if_neg hz]
      · have hn : Lib.nDigits m = Lib.nDigits (m / 10) + 1 := Lib.nDigits_big hs
        rw [if_pos (by simp; omega)]
        rw [ih (m / 10) (by omega) (Int.tdiv x4 10) ([UInt8.ofNat (48 + m % 10)] ++ acc) k hq0 (by omega) (by omega) (by simp; omega) (by omega)]
        have e : Lib.decDigits m = Lib.decDigits (m / 10) ++ [UInt8.ofNat (48 + m % 10)] := by rw [Lib.decDigits, dif_neg hs]
        rw [e]
        simp only [List.append_assoc]
    by_cases hneg : Int.tmod x4 10 < 0
    · rw [if_pos hneg]
      have hw : wrap64 (-(Int.tmod x4 10)) = ((m % 10 : Nat) : Int) := by rw [w64 (by omega) (by omega)]; omega
      rw [hw]
      exact step _ ((numbyte _ (by omega) (by omega)).trans (by rw [Int.toNat_natCast]))
    · rw [if_neg hneg]
      have hw : Int.tmod x4 10 = ((m % 10 : Nat) : Int) := by omega
      rw [hw]
      exact step _ ((numbyte _ (by omega) (by omega)).trans (by rw [Int.toNat_natCast]))
theorem sFormatInt_eq (n : Int) (h : (Lit.int .i64 n).wf = true) : spec_FormatInt.f 30 n = some (bsl (Lib.itoa n)) := by
  have hb := wf64 h
  have hl := Lib.itoa_length_le n (by omega) (by omega)
  unfold spec_FormatInt.f
  by_cases h0 : n = 0
  · subst h0
    rw [if_pos rfl]
    have e : Lib.itoa 0 = [48] := by
      have e2 := Lib.itoa_nonneg 0
      rw [Lib.decDigits_one (by omega)] at e2
      exact e2
    rw [e]
    rfl
  · rw [if_neg h0]
    have hn : Lib.nDigits n.natAbs ≤ 21 := by
      rw [← Lib.decDigits_length]
      unfold Lib.itoa at hl
      by_cases hz : n < 0
      · rw [if_pos hz] at hl
        simp at hl
        omega
      · rw [if_neg hz] at hl
        have e : n.toNat = n.natAbs := by omega
        rw [e] at hl
        exact hl
    have := fmt_l0 n n.natAbs n [] 30 rfl (by omega) (by omega) (by simp; omega) (by omega)
    have e0 : bsl [] = (⟨#[]⟩ : ByteArray) := rfl
    rw [e0] at this
    rw [this]
    unfold Lib.itoa
    by_cases hz : n < 0
    · simp [hz]
    · have e : n.toNat = n.natAbs := by omega
      simp [hz, e]
theorem iFormatInt_eq (n : Int) (h : (Lit.int .i64 n).wf = true) : impl_FormatInt.f 30 n = some (bsl (Lib.itoa n)) := by
  have hb := wf64 h
  unfold impl_FormatInt.f
  rw [if_pos ⟨by omega, by omega⟩]
  rfl
theorem itoa_len (n : Int) (h : (Lit.int .i64 n).wf = true) : (Lib.itoa n).length ≤ 21 := by
  have hb := wf64 h
  exact Lib.itoa_length_le n (by omega) (by omega)
theorem l1In_eq (a b c : Int) : spec_l1In.f a b c = some (decide (b ≤ a) && decide (a ≤ c)) := by
  unfold spec_l1In.f
  by_cases h : b ≤ a <;> simp [h]
theorem InRange_eq (a b c : Int) : impl_InRange.f a b c = some (decide (b ≤ a) && decide (a ≤ c)) := by
  unfold impl_InRange.f
  by_cases h : b ≤ a <;> simp [h]
def pIsA (a b c : Int) : Bool := decide (1 ≤ a) && decide (a ≤ 9) && (decide (0 ≤ b) && decide (b ≤ 99)) && (decide (0 ≤ c) && decide (c ≤ 99))
theorem sIsA_eq (a b c : Int) : spec_IsAddress.f a b c = some (pIsA a b c) := by
  unfold spec_IsAddress.f pIsA
  simp only [l1In_eq, Option.bind_some]
  cases h1 : (decide (1 ≤ a) && decide (a ≤ 9)) <;> cases h2 : (decide (0 ≤ b) && decide (b ≤ 99)) <;> simp
theorem iIsA_eq (a b c : Int) : impl_IsAddress.f a b c = some (pIsA a b c) := by
  unfold impl_IsAddress.f pIsA
  simp only [InRange_eq, Option.bind_some]
  cases h1 : (decide (1 ≤ a) && decide (a ≤ 9)) <;> cases h2 : (decide (0 ≤ b) && decide (b ≤ 99)) <;> simp
def pAT (a b c : Int) : List UInt8 := if pIsA a b c = true then (if c = 0 then Lib.itoa a ++ [47] ++ Lib.itoa b else Lib.itoa a ++ [47] ++ Lib.itoa b ++ [63] ++ Lib.itoa c) else []
theorem pAT_len (a b c : Int) (ha : (Lit.int .i64 a).wf = true) (hb : (Lit.int .i64 b).wf = true) (hc : (Lit.int .i64 c).wf = true) : (pAT a b c).length ≤ 65 := by
  have := itoa_len a ha
  have := itoa_len b hb
  have := itoa_len c hc
  unfold pAT
  split
  · split <;> simp <;> omega
  · simp
theorem b47 : (⟨#[47]⟩ : ByteArray) = bsl [47] := rfl
theorem b63 : (⟨#[63]⟩ : ByteArray) = bsl [63] := rfl
theorem b32 : (⟨#[32]⟩ : ByteArray) = bsl [32] := rfl
theorem b61 : (⟨#[61]⟩ : ByteArray) = bsl [61] := rfl
theorem b_ : (⟨#[]⟩ : ByteArray) = bsl [] := rfl
theorem sAddressText_eq (a b c : Int) (ha : (Lit.int .i64 a).wf = true) (hb : (Lit.int .i64 b).wf = true) (hc : (Lit.int .i64 c).wf = true) : spec_AddressText.f 30 a b c = some (bsl (pAT a b c)) := by
  have := itoa_len a ha
  have := itoa_len b hb
  have := itoa_len c hc
  unfold spec_AddressText.f pAT
  rw [sIsA_eq, Option.bind_some]
  by_cases h : pIsA a b c = true
  · rw [if_pos h, if_pos h, sFormatInt_eq a ha, Option.bind_some, b47, b63, bsl_size, if_pos (by omega), sFormatInt_eq b hb, Option.bind_some, bsl_append, bsl_size, bsl_size, if_pos (by simp; omega), bsl_append]
    by_cases hz : c = 0
    · rw [if_pos hz, if_pos hz]
    · rw [if_neg hz, if_neg hz, bsl_size, if_pos (by simp; omega), sFormatInt_eq c hc, Option.bind_some, bsl_append, bsl_size, bsl_size, if_pos (by simp; omega), bsl_append]
  · rw [if_neg h, if_neg h]
    rfl
theorem iAddressText_eq (a b c : Int) (ha : (Lit.int .i64 a).wf = true) (hb : (Lit.int .i64 b).wf = true) (hc : (Lit.int .i64 c).wf = true) : impl_AddressText.f 30 a b c = some (bsl (pAT a b c)) := by
  have := itoa_len a ha
  have := itoa_len b hb
  have := itoa_len c hc
  unfold impl_AddressText.f pAT
  rw [iIsA_eq, Option.bind_some]
  by_cases h : pIsA a b c = true
  · rw [if_pos h, if_pos h, iFormatInt_eq a ha, Option.bind_some, b47, b63, bsl_size, if_pos (by omega), iFormatInt_eq b hb, Option.bind_some, bsl_append, bsl_size, bsl_size, if_pos (by simp; omega), bsl_append]
    by_cases hz : c = 0
    · rw [if_pos hz, if_pos hz]
    · rw [if_neg hz, if_neg hz, iFormatInt_eq c hc, Option.bind_some, bsl_size, if_pos (by omega), bsl_append, bsl_size, bsl_size, if_pos (by simp; omega), bsl_append]
      simp only [List.append_assoc]
  · rw [if_neg h, if_neg h]
    rfl
theorem at_eq (a b : Int) : impl_at.f a b = some (decide (0 ≤ a) && decide (a < b)) := by
  unfold impl_at.f
  by_cases h : 0 ≤ a <;> simp [h]
def pOpName (k : Int) : List UInt8 := ([[], [102, 101, 116, 99, 104], [99, 108, 111, 99, 107], [114, 97, 110, 100, 111, 109], [105, 110, 112, 117, 116], [97, 100, 100], [112, 117, 116], [115, 107, 105, 112], [103, 101, 116], [107, 101, 101, 112]] : List (List UInt8)).getD k.toNat []
theorem op_cases (k : Int) : (k < 0 ∨ 9 < k) ∨ k = 0 ∨ k = 1 ∨ k = 2 ∨ k = 3 ∨ k = 4 ∨ k = 5 ∨ k = 6 ∨ k = 7 ∨ k = 8 ∨ k = 9 := by omega
theorem pOpName_out (k : Int) (h : k < 0 ∨ 9 < k) : pOpName k = [] := by
  rcases h with h | h
  · have e : k.toNat = 0 := by omega
    unfold pOpName
    rw [e]
    rfl
  · obtain ⟨j, hj⟩ : ∃ j, k.toNat = j + 10 := ⟨k.toNat - 10, by omega⟩
    unfold pOpName
    rw [hj]
    rfl
theorem pOpName_len (k : Int) : (pOpName k).length ≤ 6 := by
  rcases op_cases k with h | h | h | h | h | h | h | h | h | h | h
  · rw [pOpName_out k h]; simp
  all_goals (subst h; decide)
theorem sOpName_eq (k : Int) : spec_OpName.f k = some (bsl (pOpName k)) := by
  unfold spec_OpName.f
  rw [l1In_eq]
  rcases op_cases k with h | h | h | h | h | h | h | h | h | h | h
  · rw [pOpName_out k h]
    have e : (decide (1 ≤ k) && decide (k ≤ 9)) = false := by simp; omega
    rw [e]
    rfl
  all_goals (subst h; rfl)
theorem iOpName_eq (k : Int) : impl_OpName.f k = some (bsl (pOpName k)) := by
  unfold impl_OpName.f
  rw [Option.bind_some, at_eq]
  rcases op_cases k with h | h | h | h | h | h | h | h | h | h | h
  · rw [pOpName_out k h]
    have e : (decide (0 ≤ k) && decide (k < ((([(⟨#[]⟩ : ByteArray), (⟨#[102, 101, 116, 99, 104]⟩ : ByteArray), (⟨#[99, 108, 111, 99, 107]⟩ : ByteArray), (⟨#[114, 97, 110, 100, 111, 109]⟩ : ByteArray), (⟨#[105, 110, 112, 117, 116]⟩ : ByteArray), (⟨#[97, 100, 100]⟩ : ByteArray), (⟨#[112, 117, 116]⟩ : ByteArray), (⟨#[115, 107, 105, 112]⟩ : ByteArray), (⟨#[103, 101, 116]⟩ : ByteArray), (⟨#[107, 101, 101, 112]⟩ : ByteArray)] : List ByteArray)).length : Int))) = false := by simp; omega
    rw [e]
    rfl
  all_goals (subst h; rfl)
def pET (k a b c v : Int) : List UInt8 := if pIsA a b c = true then pOpName k ++ [32] ++ pAT a b c ++ [61] ++ Lib.itoa v else pOpName k ++ [61] ++ Lib.itoa v
theorem sEntryText_eq (k a b c v : Int) (ha : (Lit.int .i64 a).wf = true) (hb : (Lit.int .i64 b).wf = true) (hc : (Lit.int .i64 c).wf = true) (hv : (Lit.int .i64 v).wf = true) : spec_EntryText.f 30 k a b c v = some (bsl (pET k a b c v)) := by
  have := itoa_len v hv
  have := pOpName_len k
  have := pAT_len a b c ha hb hc
  unfold spec_EntryText.f pET
  rw [sOpName_eq, Option.bind_some, sIsA_eq, Option.bind_some, b32, b61]
  by_cases h : pIsA a b c = true
  · rw [if_pos h, if_pos h, bsl_size, if_pos (by omega), sAddressText_eq a b c ha hb hc, Option.bind_some, bsl_append, bsl_size, bsl_size, if_pos (by simp; omega), bsl_append, bsl_size, if_pos (by simp; omega), sFormatInt_eq v hv, Option.bind_some, bsl_append, bsl_size, bsl_size, if_pos (by simp; omega), bsl_append]
  · rw [if_neg h, if_neg h, bsl_size, if_pos (by omega), sFormatInt_eq v hv, Option.bind_some, bsl_append, bsl_size, bsl_size, if_pos (by simp; omega), bsl_append]
theorem iEntryText_eq (k a b c v : Int) (ha : (Lit.int .i64 a).wf = true) (hb : (Lit.int .i64 b).wf = true) (hc : (Lit.int .i64 c).wf = true) (hv : (Lit.int .i64 v).wf = true) : impl_EntryText.f 30 k a b c v = some (bsl (pET k a b c v)) := by
  have := itoa_len v hv
  have := pOpName_len k
  have := pAT_len a b c ha hb hc
  unfold impl_EntryText.f pET
  rw [iOpName_eq, Option.bind_some, iIsA_eq, Option.bind_some, b32, b61]
  by_cases h : pIsA a b c = true
  · rw [if_pos h, if_pos h, iAddressText_eq a b c ha hb hc, Option.bind_some, bsl_size, if_pos (by omega), bsl_append, bsl_size, bsl_size, if_pos (by simp; omega), bsl_append, bsl_size, if_pos (by simp; omega), iFormatInt_eq v hv, Option.bind_some, bsl_append, bsl_size, bsl_size, if_pos (by simp; omega), bsl_append]
    simp only [List.append_assoc]
  · rw [if_neg h, if_neg h, bsl_size, if_pos (by omega), iFormatInt_eq v hv, Option.bind_some, bsl_append, bsl_size, bsl_size, if_pos (by simp; omega), bsl_append]
theorem FnExactEntryText (a0_0 : Int) (a0_1 : Int) (a0_2 : Int) (a0_3 : Int) (a0_4 : Int) (h0 : (Lit.int .i64 a0_0).wf = true) (h1 : (Lit.int .i64 a0_1).wf = true) (h2 : (Lit.int .i64 a0_2).wf = true) (h3 : (Lit.int .i64 a0_3).wf = true) (h4 : (Lit.int .i64 a0_4).wf = true) : ∃ k, laws_FnExactEntryText.f k a0_0 a0_1 a0_2 a0_3 a0_4 = some true := by
  refine ⟨30, ?_⟩
  unfold laws_FnExactEntryText.f
  rw [toEntry_eq, Option.bind_some]
  dsimp only
  rw [sEntryText_eq a0_0 a0_1 a0_2 a0_3 a0_4 h1 h2 h3 h4, Option.bind_some, Option.bind_some]
  dsimp only
  rw [iEntryText_eq a0_0 a0_1 a0_2 a0_3 a0_4 h1 h2 h3 h4, Option.bind_some, if_pos rfl]
end Go.Proofs.YtfklbnlbpdfnnaaDoor.Pure
