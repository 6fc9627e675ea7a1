/- Layer 3: bytes as lists; the program's calendar. -/
import Derived.Test.YtjcenencgnfffaaDoorStpTxt
import Derived.Test.YtjcenencgnfffaaDoorXStRx
namespace Go.Proofs.YtjcenencgnfffaaDoor.StpS
open Go.RowKit Gong Go.Proofs.YtjcenencgnfffaaDoor.XStR Go.Proofs.YtjcenencgnfffaaDoor.DecS Go.Proofs.YtjcenencgnfffaaDoorW.PrintWords Go.Proofs.YtjcenencgnfffaaDoorW.PrintLast Go.Proofs.YtjcenencgnfffaaDoorW.PrintMore
set_option linter.unusedVariables false
set_option linter.unusedSimpArgs false
theorem wrap_id {x : Int} (h1 : -9223372036854775808 ≤ x) (h2 : x ≤ 9223372036854775807) : wrap64 x = x := by unfold wrap64; omega
theorem tdiv_nn {a b : Int} (h : 0 ≤ a) : Int.tdiv a b = a / b := Int.tdiv_eq_ediv_of_nonneg h
theorem tmod_nn {a b : Int} (h : 0 ≤ a) : Int.tmod a b = a % b := Int.tmod_eq_emod_of_nonneg h
def L (s : ByteArray) : List UInt8 := s.data.toList
def Bs (l : List UInt8) : ByteArray := ⟨l.toArray⟩
theorem L_Bs (l : List UInt8) : L (Bs l) = l := by simp [L, Bs]
theorem Bs_L (s : ByteArray) : Bs (L s) = s := by cases s; simp [L, Bs]
theorem L_inj {a b : ByteArray} (h : L a = L b) : a = b := by rw [← Bs_L a, h, Bs_L]
theorem L_len (s : ByteArray) : (L s).length = s.size := by simp [L]
theorem Bs_size (l : List UInt8) : (Bs l).size = l.length := rfl
theorem toList_L (s : ByteArray) : s.toList = L s := Go.ByteArray.toList_eq s
theorem L_app (a b : ByteArray) : L (a ++ b) = L a ++ L b := by simp [L]
theorem Bs_app (a b : List UInt8) : Bs a ++ Bs b = Bs (a ++ b) := L_inj (by rw [L_app, L_Bs, L_Bs, L_Bs])
theorem L_extract (s : ByteArray) (i j : Nat) : L (s.extract i j) = ((L s).drop i).take (j - i) := by
  simp [L, List.take_drop]
  try rw [List.drop_take]
theorem L_drop (s : ByteArray) (i : Nat) : L (s.extract i s.size) = (L s).drop i := by
  rw [L_extract, ← L_len, List.take_of_length_le (by rw [List.length_drop]; omega)]
theorem L_take (s : ByteArray) (j : Nat) : L (s.extract 0 j) = (L s).take j := by
  rw [L_extract]
  simp
theorem leap_eq (y : Int) (h : 0 ≤ y) : stamp_leap.f y = some (leapI y) := by
  unfold stamp_leap.f leapI
  rw [tmod_nn h, tmod_nn h, tmod_nn h]
  by_cases c1 : y % 4 = 0
  · rw [if_pos c1]
    by_cases c2 : y % 100 = 0
    · rw [if_pos c2]
      by_cases c3 : y % 400 = 0
      · rw [if_pos c3, if_pos ⟨c1, .inr c3⟩]
      · rw [if_neg c3, if_neg (by rintro ⟨_, h | h⟩; exact h c2; exact c3 h)]
    · rw [if_neg c2, if_pos ⟨c1, .inl c2⟩]
  · rw [if_neg c1, if_neg (fun h => c1 h.1)]
theorem cum_tab (m : Nat) (h1 : 1 ≤ m) (h2 : m ≤ 13) : aheadTab.getD m 0 = cumI m := by
  have : m = 1 ∨ m = 2 ∨ m = 3 ∨ m = 4 ∨ m = 5 ∨ m = 6 ∨ m = 7 ∨ m = 8 ∨ m = 9 ∨ m = 10 ∨ m = 11 ∨ m = 12 ∨ m = 13 := by omega
  rcases this with rfl | rfl | rfl | rfl | rfl | rfl | rfl | rfl | rfl | rfl | rfl | rfl | rfl <;> decide
theorem cum_le (m : Int) : 0 ≤ cumI m ∧ cumI m ≤ 365 := by
  unfold cumI
  repeat' split
  all_goals omega
theorem before_range (y m : Int) : 0 ≤ beforeI y m ∧ beforeI y m ≤ 366 := by
  have h1 := cum_le m
  have h2 := leap_01 y
  unfold beforeI
  split <;> omega
theorem before_eq (y m : Int) (h : 0 ≤ y) (h1 : 1 ≤ m) (h2 : m ≤ 13) : stamp_before.f y m = some (beforeI y m) := by
  obtain ⟨n, rfl⟩ := Int.eq_ofNat_of_zero_le (show 0 ≤ m by omega)
  have ht := cum_tab n (by omega) (by omega)
  have hr := cum_le n
  have hl := leap_01 y
  unfold stamp_before.f beforeI
  rw [if_pos ⟨by omega, h2⟩, leap_eq y h, Int.toNat_natCast, ht, Option.bind_some]
  by_cases c : 2 < (n : Int)
  · rw [if_pos c, if_pos c, wrap_id (by omega) (by omega)]
  · rw [if_neg c, if_neg c, Int.add_zero]
theorem since_range (y : Int) (h0 : 0 ≤ y) (h1 : y ≤ 10000) : -720000 ≤ sinceI y ∧ sinceI y ≤ 3000000 := by
  unfold sinceI
  omega
theorem since_eq (y : Int) (h0 : 1 ≤ y) (h1 : y ≤ 10000) : stamp_since.f y = some (sinceI y) := by
  have hr := since_range y (by omega) h1
  unfold sinceI at hr
  unfold stamp_since.f sinceI
  rw [wrap_id (x := y - 1) (by omega) (by omega), tdiv_nn (by omega), tdiv_nn (by omega), tdiv_nn (by omega), wrap_id (x := (y - 1) * 365) (by omega) (by omega), wrap_id (x := (y - 1) / 4) (by omega) (by omega), wrap_id (x := (y - 1) / 100) (by omega) (by omega), wrap_id (x := (y - 1) / 400) (by omega) (by omega),
    wrap_id (x := (y - 1) * 365 + (y - 1) / 4) (by omega) (by omega), wrap_id (x := (y - 1) * 365 + (y - 1) / 4 - (y - 1) / 100) (by omega) (by omega), wrap_id (x := (y - 1) * 365 + (y - 1) / 4 - (y - 1) / 100 + (y - 1) / 400) (by omega) (by omega), wrap_id (by omega) (by omega)]
theorem lit_Bs (b : UInt8) : (⟨#[b]⟩ : ByteArray) = Bs [b] := rfl
theorem bt_get (s : ByteArray) (i : Nat) (h : i < (L s).length) : bt s (i : Int) = (((L s)[i]'h).toNat : Int) := by
  have h2 : i < s.size := by rw [← L_len]; exact h
  have h3 := bt_at s (i : Int) (by rw [Int.toNat_natCast]; exact h2)
  rw [← h3]
  rfl
end Go.Proofs.YtjcenencgnfffaaDoor.StpS
