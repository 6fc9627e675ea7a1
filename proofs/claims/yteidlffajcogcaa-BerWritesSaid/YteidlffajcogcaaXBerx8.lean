-- Laid by extprint.py (the session's own driver): functions told by the kit's printer and by hand.
import Derived.Test.YteidlffajcogcaaXBerx0
import Derived.Test.YteidlffajcogcaaXBerx3
namespace Go.Proofs.Yteidlffajcogcaa.XBer
open Go.RowKit Gong Go.Proofs.YteidlffajcogcaaW.PrintWords Go.Proofs.YteidlffajcogcaaW.PrintLast Go.Proofs.YteidlffajcogcaaW.PrintMore
attribute [local go_sem] max2_int min2_int max_two min_two max_three min_three max_four min_four   -- for this text's walks alone
set_option linter.unusedVariables false
set_option linter.unusedSimpArgs false

/-! ### ber_Unsigned: function 45 -/
def ber_Unsigned.f (a0 : ByteArray) : Option (Int × Int) :=
  if 1 ≤ a0.size ∧ a0.size ≤ 9 ∧ bt a0 0 < 128 then (ber_spare.f a0).bind fun sp => if sp = true then some (0, 50) else if 8 < a0.size ∧ bt a0 0 ≠ 0 then some (0, 50) else some (beNum a0.data.toList, 0) else some (0, 50)
set_option maxHeartbeats 1600000 in
set_option maxRecDepth 100000 in
theorem ber_Unsigned.calls (a0 : ByteArray) (r1 r2 : Int) (w : World) (h : ber_Unsigned.f a0 = some (r1, r2)) :
    Calls Try.prog 45 #[.string a0] w fun e w' => e = .returned (.tuple #[.int .u64 r1, .int .i64 r2]) ∧ Below w.heap.size w w' := by
  unfold ber_Unsigned.f at h
  by_cases hs : 1 ≤ a0.size ∧ a0.size ≤ 9 ∧ bt a0 0 < 128
  · rw [if_pos hs] at h
    obtain ⟨hs1, hs2, hs3⟩ := hs
    obtain ⟨sp, A0, h⟩ := Option.bind_eq_some_iff.mp h
    have A := Aside0.mk A0
    have H := Aside0.mk h
    clear A0 h
    have e0 : (a0.toList == ([] : List UInt8)) = false := toList_ne (by omega)
    have e2 : ∀ h : 0 < a0.size, ((a0[0]'h).toNat : Int) = bt a0 0 := bt_at a0 0
    have e4 := eq_true (show 0 < a0.size by omega)
    have e5 := bt_range a0 0
    have e3 := eq_true (show 1 ≤ (a0.size : Int) by omega)
    have e1 := eq_true (show (0 : Int) < (a0.size : Int) by omega)
    have e6 : decide (128 ≤ bt a0 0) = false := decide_eq_false (by omega)
    have e7 : decide (9 < (a0.size : Int)) = false := decide_eq_false (by omega)
    have e8 : decide (9 < a0.size) = false := decide_eq_false (by omega)
    go_enter Try.func45, Try.ntmps45
    go_wp2_with fail
    (with_reducible refine (ber_spare.calls a0 sp _ A.out).mono ?_)
    rintro e w2 ⟨rfl, m, rfl⟩
    obtain ⟨w2, hw2⟩ : ∃ w2, w2 = w.drewN m := ⟨_, rfl⟩
    have HB := Aside0.mk (pw_below_drewN (Below.refl w.heap.size w) m)
    rw [← hw2] at HB ⊢
    clear hw2
    have hbad : ∀ v : Bool, v = true → True := fun _ _ => trivial
    cases sp with
    | true =>
      have h := H.out
      rw [if_pos rfl] at h
      simp only [Option.some.injEq, Prod.mk.injEq] at h
      obtain ⟨rfl, rfl⟩ := h
      go_wp2
      go_ret2
      exact ⟨rfl, HB.out⟩
    | false =>
      have h := H.out
      rw [if_neg (by decide)] at h
      clear H
      by_cases h9 : 8 < a0.size ∧ bt a0 0 ≠ 0
      · rw [if_pos h9] at h
        simp only [Option.some.injEq, Prod.mk.injEq] at h
        obtain ⟨rfl, rfl⟩ := h
        have g1 : decide (8 < (a0.size : Int)) = true := decide_eq_true (by omega)
        have g2 : decide (8 < a0.size) = true := decide_eq_true h9.1
        have g3 : (bt a0 0 != 0) = true := bne_iff_ne.mpr h9.2
        clear h9
        go_wp2
        go_ret2
        exact ⟨rfl, HB.out⟩
      · rw [if_neg h9] at h
        simp only [Option.some.injEq, Prod.mk.injEq] at h
        obtain ⟨rfl, rfl⟩ := h
        have hconv := fun (s : ByteArray) (W : World) => Lib.run_convert_string_bytes (P := Try.prog) W 9 91 5 s Try.underlying9 Try.underlying91 Try.underlying5
        have hcell : ∀ W : World, ∀ j, j < a0.size → (Lib.bytesWorld W 5 a0).cell? ⟨W.heap.size, j, none⟩ = some (.int .u8 (a0.data.toList.getD j 0).toNat) := fun W j hj => Lib.bytesWorld_cell W 5 a0 j hj
        have hbel : ∀ W : World, Below W.heap.size W (Lib.bytesWorld W 5 a0) := fun W => bytes_below (Below.refl _ _) (Nat.le_refl _) 5 _
        have hb0 : bt a0 0 = ((a0.data.toList.headD 0).toNat : Int) := by rw [← bt_at a0 0 (by simpa using (show 0 < a0.size by omega))]; exact congrArg (fun x : UInt8 => ((x.toNat : Nat) : Int)) (head_get a0 (by omega))
        have hz : 8 < a0.size → a0.data.toList.headD 0 = 0 := fun h8 => by
          have hb : bt a0 0 = 0 := Decidable.byContradiction fun hh => h9 ⟨h8, hh⟩
          rw [hb] at hb0
          exact UInt8.toNat_inj.mp (by have : (0 : UInt8).toNat = 0 := rfl; omega)
        have HZ := Aside0.mk hz
        have HC := Aside0.mk hcell
        have HE := Aside0.mk hbel
        clear hb0 hz hcell hbel
        by_cases h8 : 8 < a0.size
        · have g1 : decide (8 < (a0.size : Int)) = true := decide_eq_true (by omega)
          have g2 : decide (8 < a0.size) = true := decide_eq_true h8
          have hb : bt a0 0 = 0 := Decidable.byContradiction fun hh => h9 ⟨h8, hh⟩
          have g3 : (bt a0 0 != 0) = false := bne_eq_false_iff_eq.mpr hb
          clear h9 hb
          go_wp2_with fail
          have hcell := HC.out w2
          have hbel := HE.out w2
          obtain ⟨w3, hw3⟩ : ∃ w3, w3 = Lib.bytesWorld w2 5 a0 := ⟨_, rfl⟩
          rw [← hw3] at hcell hbel ⊢
          have HCELL := Aside0.mk hcell
          have HB3 := Aside0.mk (Below.trans HB.out (Below.mono hbel HB.out.size))
          clear hw3 hcell hbel hconv HB HC HE
          go_loop [4, 36] (fun v i => ∃ k : Nat, k ≤ a0.size ∧ i = .int .i64 k ∧ v = .int .u64 (beNum (a0.data.toList.take k))) (fun _ i => a0.size - (intOf i).toNat)
          case atStart => exact ⟨0, Nat.zero_le _, rfl, rfl⟩
          case round =>
            obtain ⟨k, hk, rfl, rfl⟩ := hrel
            by_cases hlt : k < a0.size
            · have hc := HCELL.out k hlt
              go_wp2
              go_round
              case rel =>
                refine ⟨k + 1, by omega, by go_num, ?_⟩
                rw [beNum_take _ _ (by simpa using hlt)]
                have e1 := u64_or8 (beNum (a0.data.toList.take k)) a0.data[k] (beNum_lt _).1 (beNum_le9 _ _ (by omega) (fun h8 => HZ.out (by omega)))
                rw [e1]
                simp [List.getD, hlt]
              case measure => simp [intOf]; omega
            · obtain rfl : k = a0.size := by omega
              rw [List.take_of_length_le (by simp)]
              clear hk hlt
              go_wp2
              go_ret2
              exact ⟨rfl, HB3.out⟩
        · have g1 : decide (8 < (a0.size : Int)) = false := decide_eq_false (by omega)
          have g2 : decide (8 < a0.size) = false := decide_eq_false h8
          clear h9
          go_wp2_with fail
          have hcell := HC.out w2
          have hbel := HE.out w2
          obtain ⟨w3, hw3⟩ : ∃ w3, w3 = Lib.bytesWorld w2 5 a0 := ⟨_, rfl⟩
          rw [← hw3] at hcell hbel ⊢
          have HCELL := Aside0.mk hcell
          have HB3 := Aside0.mk (Below.trans HB.out (Below.mono hbel HB.out.size))
          clear hw3 hcell hbel hconv HB HC HE
          go_loop [4, 36] (fun v i => ∃ k : Nat, k ≤ a0.size ∧ i = .int .i64 k ∧ v = .int .u64 (beNum (a0.data.toList.take k))) (fun _ i => a0.size - (intOf i).toNat)
          case atStart => exact ⟨0, Nat.zero_le _, rfl, rfl⟩
          case round =>
            obtain ⟨k, hk, rfl, rfl⟩ := hrel
            by_cases hlt : k < a0.size
            · have hc := HCELL.out k hlt
              go_wp2
              go_round
              case rel =>
                refine ⟨k + 1, by omega, by go_num, ?_⟩
                rw [beNum_take _ _ (by simpa using hlt)]
                have e1 := u64_or8 (beNum (a0.data.toList.take k)) a0.data[k] (beNum_lt _).1 (beNum_le9 _ _ (by omega) (fun h8 => HZ.out (by omega)))
                rw [e1]
                simp [List.getD, hlt]
              case measure => simp [intOf]; omega
            · obtain rfl : k = a0.size := by omega
              rw [List.take_of_length_le (by simp)]
              clear hk hlt
              go_wp2
              go_ret2
              exact ⟨rfl, HB3.out⟩
  · rw [if_neg hs] at h
    simp only [Option.some.injEq, Prod.mk.injEq] at h
    obtain ⟨rfl, rfl⟩ := h
    by_cases h0 : a0.size = 0
    · obtain rfl := size_zero h0
      clear h0 hs
      go_enter Try.func45, Try.ntmps45
      go_wp2
      go_ret2
      exact ⟨rfl, Below.refl _ _⟩
    · have e0 : (a0.toList == ([] : List UInt8)) = false := toList_ne h0
      have e2 : ∀ h : 0 < a0.size, ((a0[0]'h).toNat : Int) = bt a0 0 := bt_at a0 0
      have e4 := eq_true (show 0 < a0.size by omega)
      have e5 := bt_range a0 0
      have e1 := eq_true (show (0 : Int) < (a0.size : Int) by omega)
      by_cases h9 : 9 < a0.size
      · have e7 : decide (9 < (a0.size : Int)) = true := decide_eq_true (by omega)
        have e8 : decide (9 < a0.size) = true := decide_eq_true (by omega)
        clear h0 hs
        go_enter Try.func45, Try.ntmps45
        go_wp2
        go_ret2
        exact ⟨rfl, Below.refl _ _⟩
      · have e7 : decide (9 < (a0.size : Int)) = false := decide_eq_false (by omega)
        have e8 : decide (9 < a0.size) = false := decide_eq_false (by omega)
        have e6 : decide (128 ≤ bt a0 0) = true := decide_eq_true (by omega)
        clear h0 hs
        go_enter Try.func45, Try.ntmps45
        go_wp2
        go_ret2
        exact ⟨rfl, Below.refl _ _⟩

end Go.Proofs.Yteidlffajcogcaa.XBer
