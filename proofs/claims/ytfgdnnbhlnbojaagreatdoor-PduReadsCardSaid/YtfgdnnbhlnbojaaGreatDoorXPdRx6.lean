-- Laid by extprint.py (the session's own driver): functions told by the kit's printer and by hand.
import Derived.Test.YtfgdnnbhlnbojaaGreatDoorXPdRx0
import Derived.Test.YtfgdnnbhlnbojaaGreatDoorXPdRx3
import Derived.Test.YtfgdnnbhlnbojaaGreatDoorXPdRx5
namespace Go.Proofs.YtfgdnnbhlnbojaaGreatDoor.XPdR
open Go.RowKit Gong Go.Proofs.YtfgdnnbhlnbojaaGreatDoorW.PrintWords Go.Proofs.YtfgdnnbhlnbojaaGreatDoorW.PrintLast Go.Proofs.YtfgdnnbhlnbojaaGreatDoorW.PrintMore
attribute [local go_sem] max2_int min2_int max_two min_two max_three min_three max_four min_four   -- for this text's walks alone
set_option linter.unusedVariables false
set_option linter.unusedSimpArgs false
def octet_Wide.f (a0 a1 : Int) : Option (ByteArray × Int) :=
 if 1 ≤ a1 ∧ a1 ≤ 8 ∧ 0 ≤ a0 then (if a1 < 8 ∧ 0 < a0 / 2 ^ (8 * a1.toNat) then some (⟨#[]⟩, 1) else some (strOfNums ((bytes8 a0).drop (8 - a1.toNat)), 0)) else some (⟨#[]⟩, 1)
set_option maxHeartbeats 1600000 in
set_option maxRecDepth 100000 in
theorem octet_Wide.calls (a0 a1 : Int) (r1 : ByteArray) (r2 : Int) (w : World) (h : octet_Wide.f a0 a1 = some (r1, r2)) :
  Calls Tryz.prog 92 #[.int .i64 a0, .int .i64 a1] w fun e w' => e = .returned (.tuple #[.string r1, .int .i64 r2]) ∧ Below w.heap.size w w' := by
 unfold octet_Wide.f at h
 by_cases hs : 1 ≤ a1 ∧ a1 ≤ 8 ∧ 0 ≤ a0
 ·rw [if_pos hs] at h
  obtain ⟨hs1, hs2, hs3⟩ := hs
  obtain ⟨W, rfl⟩ := Int.eq_ofNat_of_zero_le (show 0 ≤ a1 by omega)
  rw [Int.toNat_natCast] at h
  obtain ⟨D, hD⟩ : ∃ D : Nat, D = 8 - W := ⟨_, rfl⟩
  rw [← hD] at h
  have H := Aside0.mk h
  have HD := Aside0.mk hD
  clear h hD
  have e1 : decide ((W : Int) < 1) = false := decide_eq_false (by omega)
  have e2 : decide (8 < (W : Int)) = false := decide_eq_false (by omega)
  have e3 : decide (a0 < 0) = false := decide_eq_false (by omega)
  go_enter Tryz.func92, Tryz.ntmps92
  go_wp2_with fail
  have hblk : (w.alloc (.cells #[.int .u8 0, .int .u8 0, .int .u8 0, .int .u8 0, .int .u8 0, .int .u8 0, .int .u8 0, .int .u8 0] 85)).heap[w.heap.size]? = some (.cells (rowIf 8 (fun i => a0 / 2 ^ (8 * (7 - i)) % 256) (fun i => decide (8 ≤ i))) 85 (0, 0)) := by
   rw [heap_alloc_new w _]
   rfl
  have HK := Aside0.mk hblk
  have HB := Aside0.mk (below_alloc (Below.refl w.heap.size w) (.cells #[.int .u8 0, .int .u8 0, .int .u8 0, .int .u8 0, .int .u8 0, .int .u8 0, .int .u8 0, .int .u8 0] 85))
  clear hblk
  obtain ⟨w1, hw1⟩ : ∃ w1, w1 = w.alloc (.cells #[.int .u8 0, .int .u8 0, .int .u8 0, .int .u8 0, .int .u8 0, .int .u8 0, .int .u8 0, .int .u8 0] 85) := ⟨_, rfl⟩
  rw [← hw1] at HB HK ⊢
  clear hw1
  obtain ⟨g, hg⟩ : ∃ g, g = w.heap.size := ⟨_, rfl⟩
  have GE := Aside0.mk (Nat.le_of_eq hg.symm)
  rw [← hg] at HK ⊢
  clear hg
  go_loopw [7, 8] (fun u v W => ∃ m : Nat, m ≤ 8 ∧ v = .int .i64 ((m : Int) - 1) ∧ u = .int .i64 (a0 / 2 ^ (8 * (8 - m))) ∧ Aside0 (W.heap[g]? = some (.cells (rowIf 8 (fun i => a0 / 2 ^ (8 * (7 - i)) % 256) (fun i => decide (m ≤ i))) 85 (0, 0))) ∧ Aside0 (Below w.heap.size w W)) (fun _ v _ => (intOf v + 1).toNat)
  case atStart => exact ⟨8, Nat.le_refl _, rfl, by simp, HK, HB⟩
  case round =>
   obtain ⟨m, hm, rfl, rfl, HK, HB⟩ := hrel
   by_cases hlt : 0 < m
   ·obtain ⟨j, rfl⟩ : ∃ j, m = j + 1 := ⟨m - 1, by omega⟩
    rw [show (((j + 1 : Nat) : Int) - 1) = (j : Int) from by omega]
    have hc := (blk_cell HK.out j).trans (rowIf_get _ _ _ _ (show j < 8 by omega))
    have hf := blk_frozen HK.out j
    go_wp2
    go_roundw
    case rel =>
     refine ⟨j, by omega, rfl, ?_, ⟨blk_put HK.out j _ (rowIf_set 8 (fun i => a0 / 2 ^ (8 * (7 - i)) % 256) _ _ j (fun i hi => by rw [Bool.eq_iff_iff]; simp; omega))⟩, ⟨below_set HB.out GE.out⟩⟩
     rw [div256, show 7 - j + 1 = 8 - j from by omega]
    case measure => simp [intOf]
   ·obtain rfl : m = 0 := by omega
    have h := H.out
    by_cases hq : (W : Int) < 8 ∧ 0 < a0 / 2 ^ (8 * W)
    ·rw [if_pos hq] at h
     simp only [Option.some.injEq, Prod.mk.injEq] at h
     obtain ⟨rfl, rfl⟩ := h
     have f1 : decide ((W : Int) < 8) = true := decide_eq_true hq.1
     have f2 : decide (0 < a0 / 2 ^ (8 * W)) = true := decide_eq_true hq.2
     clear hq
     go_wp2
     go_ret2
     exact ⟨rfl, HB.out⟩
    ·rw [if_neg hq] at h
     simp only [Option.some.injEq, Prod.mk.injEq] at h
     obtain ⟨rfl, rfl⟩ := h
     have f3 : (8 : Int) - (W : Int) = (D : Int) := by have := HD.out; omega
     have f4 : D ≤ 7 := by have := HD.out; omega
     have f5 := eq_true (show D ≤ 8 by omega)
     have f6 := eq_true (show (D : Int) ≤ 8 by omega)
     have f7 := eq_false (show ¬ (8 = D) by omega)
     have hcv : ∀ c, (convert 53 9 (.slice (some ⟨g, D, none⟩) (8 - D) c)).run Tryz.prog wr = .ok (.string (strOfNums ((bytes8 a0).drop D))) wr := fun c => by
      refine run_convert_bytes_arg wr 53 5 Tryz.underlying53 Tryz.underlying5 g D (8 - D) c _ (by simp [bytes8]) (fun i hi => ?_) 9 Tryz.underlying9
      rw [(blk_cell HK.out (D + i)).trans (rowIf_get _ _ _ _ (show D + i < 8 by omega))]
      simp [bytes8, show D + i < 8 by omega]
     by_cases hw : (W : Int) < 8
     ·have f1 : decide ((W : Int) < 8) = true := decide_eq_true hw
      have f2 : decide (0 < a0 / 2 ^ (8 * W)) = false := decide_eq_false (fun hh => hq ⟨hw, hh⟩)
      clear hq hw
      go_wp2
      go_ret2
      exact ⟨rfl, HB.out⟩
     ·have f1 : decide ((W : Int) < 8) = false := decide_eq_false hw
      clear hq hw
      go_wp2
      go_ret2
      exact ⟨rfl, HB.out⟩
 ·rw [if_neg hs] at h
  simp only [Option.some.injEq, Prod.mk.injEq] at h
  obtain ⟨rfl, rfl⟩ := h
  by_cases h1 : a1 < 1
  ·have e1 : decide (a1 < 1) = true := decide_eq_true h1
   clear hs h1
   go_enter Tryz.func92, Tryz.ntmps92
   go_wp2
   go_ret2
   exact ⟨rfl, Below.refl _ _⟩
  ·have e1 : decide (a1 < 1) = false := decide_eq_false h1
   by_cases h2 : 8 < a1
   ·have e2 : decide (8 < a1) = true := decide_eq_true h2
    clear hs h1 h2
    go_enter Tryz.func92, Tryz.ntmps92
    go_wp2
    go_ret2
    exact ⟨rfl, Below.refl _ _⟩
   ·have e2 : decide (8 < a1) = false := decide_eq_false h2
    have e3 : decide (a0 < 0) = true := decide_eq_true (by omega)
    clear hs h1 h2
    go_enter Tryz.func92, Tryz.ntmps92
    go_wp2
    go_ret2
    exact ⟨rfl, Below.refl _ _⟩
def ber_put.l0 : Nat → ByteArray → Int → List Int → Int → Option (ByteArray)
 | 0, _, _, _, _ => none
 | k + 1, x1, x5, x6, x7 => if 0 ≤ (wrap64 (8 * x7)) then (if (shr .i64 x5 (wrap64 (8 * x7))) > 0 then (ber_put.l0 k x1 x5 x6 (wrap64 (x7 + 1))) else ((octet_Wide.f x5 x7).bind fun bt141 => (if 1 < (x6.length : Int) then ((some (x6.set (1 : Int).toNat ((wrap64 (128 + x7)) % 256) : List Int)).bind fun y143 => (if y143.length + bt141.1.size < 140737488355328 then ((some (y143 ++ bytesOf bt141.1 : List Int)).bind fun y144 => (if (strOfNums y144).size + x1.size ≤ 9223372036854775807 then (some ((strOfNums y144) ++ x1)) else (none))) else (none))) else (none)))) else (none)
def ber_put.f (k : Nat) (a0 : Int) (a1 : ByteArray) : Option (ByteArray) := (some (([(a0) % 256, ((a1.size : Int)) % 256] : List Int) : List Int)).bind fun y138 => (if (a1.size : Int) ≥ 128 then (ber_put.l0 k a1 (a1.size : Int) y138 1) else (if (strOfNums y138).size + a1.size ≤ 9223372036854775807 then (some ((strOfNums y138) ++ a1)) else (none)))
set_option maxHeartbeats 8000000 in
set_option maxRecDepth 100000 in
theorem ber_put.calls (k : Nat) (a0 : Int) (a1 : ByteArray) (r : ByteArray) (w : World) (h : ber_put.f k a0 a1 = some r) :
  Calls Tryz.prog 67 #[.int .i64 a0, .string a1] w fun e w' => e = .returned (.string r) ∧ Below w.heap.size w w' := by
 have HB := Aside0.mk (Below.refl w.heap.size w)
 have H : ((some (([(a0) % 256, ((a1.size : Int)) % 256] : List Int) : List Int)).bind fun y138 => (if (a1.size : Int) ≥ 128 then (ber_put.l0 k a1 (a1.size : Int) y138 1) else (if (strOfNums y138).size + a1.size ≤ 9223372036854775807 then (some ((strOfNums y138) ++ a1)) else (none)))) = some r := h
 clear h
 obtain ⟨y138, hy138⟩ : ∃ y_ : List Int, y_ = (([(a0) % 256, ((a1.size : Int)) % 256] : List Int)) := ⟨_, rfl⟩
 replace H : (if (a1.size : Int) ≥ 128 then (ber_put.l0 k a1 (a1.size : Int) y138 1) else (if (strOfNums y138).size + a1.size ≤ 9223372036854775807 then (some ((strOfNums y138) ++ a1)) else (none))) = some r := by first | (rw [hy138]; with_reducible exact H) | (have H2_ := (Option.bind_some _ _).symm.trans H; rw [hy138]; with_reducible exact H2_) | (have H2_ := (Option.bind_some _ _).symm.trans H; with_reducible exact H2_) | with_reducible exact H | (rw [hy138]; exact H) | exact H
 have Ny138 := Aside0.mk hy138
 clear hy138
 by_cases c3 : (a1.size : Int) ≥ 128
 rotate_left
 ·rw [if_neg c3] at H
  have c3b0 : decide (128 ≤ (a1.size : Int)) = false := decide_eq_false c3
  have c3b1 : decide (128 ≤ a1.size) = false := decide_eq_false (by omega)
  clear c3
  by_cases c20 : (strOfNums y138).size + a1.size ≤ 9223372036854775807
  rotate_left
  ·rw [if_neg c20] at H
   exact absurd H (by simp)
  rw [if_pos c20] at H
  have c20b0 := eq_true c20
  have c20b1 : decide ((strOfNums y138).size + a1.size ≤ 9223372036854775807) = true := decide_eq_true c20
  try have c20b2 : (9223372036854775807 < (strOfNums y138).size + a1.size) = False := eq_false (Nat.not_lt.2 c20)
  obtain rfl := Option.some.inj H
  go_enter Tryz.func67, Tryz.ntmps67
  go_wp2_with (first | ((with_reducible refine gate_dst (N := 16) rfl ?_); refine Kd.R_lit (Kd.int .u8) _ 5 ?hg (N := 16) ?hd (xs := ([(a0) % 256, ((a1.size : Int)) % 256] : List Int)) (inner := [.int .u8 ((a0) % 256), .int .u8 (((a1.size : Int)) % 256)]) (ok := fun _ => True) (okp := fun _ => True) ?hr ?hp (fun _ hk => hk) trivial (Below.refl _ _) (Nat.le_refl _) (by simp) ?_; (case hd => rfl); (case hg => rfl); (case hr => exact Zq2); (case hp => exact Zq44); intro v139 w21 ho22 hb hg_ hnew_; clear hg_ hnew_; (first | rw [← Ny138.out] at ho22 | (simp only [Int.reduceToNat] at ho22; rw [← Ny138.out] at ho22)); have HO140 := Aside0.mk (Kd.R_lower ho22 (below_size Zq12)); replace HB := Aside0.mk (below_step Zq12 hb); clear hb ho22; have hcv23 := own_string (P := Tryz.prog) Tryz.underlying53 Tryz.underlying5 Tryz.underlying9 (Kd.own_of_R HO140.out)))
  go_ret
  exact ⟨Zy41, Zy40⟩
 rw [if_pos c3] at H
 have c3b0 : decide (128 ≤ (a1.size : Int)) = true := decide_eq_true c3
 have c3b1 : decide (128 ≤ a1.size) = true := decide_eq_true (by omega)
 clear c3
 have H' := Aside0.mk H
 clear H
 go_enter Tryz.func67, Tryz.ntmps67
 go_wp2_with (first | ((with_reducible refine gate_dst (N := 16) rfl ?_); refine Kd.R_lit (Kd.int .u8) _ 5 ?hg (N := 16) ?hd (xs := ([(a0) % 256, ((a1.size : Int)) % 256] : List Int)) (inner := [.int .u8 ((a0) % 256), .int .u8 (((a1.size : Int)) % 256)]) (ok := fun _ => True) (okp := fun _ => True) ?hr ?hp (fun _ hk => hk) trivial (Below.refl _ _) (Nat.le_refl _) (by simp) ?_; (case hd => rfl); (case hg => rfl); (case hr => exact Zq2); (case hp => exact Zq44); intro v139 w4 ho5 hb hg_ hnew_; clear hg_ hnew_; (first | rw [← Ny138.out] at ho5 | (simp only [Int.reduceToNat] at ho5; rw [← Ny138.out] at ho5)); have HO140 := Aside0.mk (Kd.R_lower ho5 (below_size Zq12)); replace HB := Aside0.mk (below_step Zq12 hb); clear hb ho5))
 go_loopg [7] k (fun kq v7 w' => ∃ (x7_1 : Int), v7 = .int .i64 x7_1 ∧ Aside0 (ber_put.l0 kq a1 (a1.size : Int) y138 x7_1 = some r) ∧ Aside0 (kq ≤ k) ∧ Aside0 (Kd.R (Kd.int .u8) 5 w' w.heap.size (fun _ => True) v139 y138) ∧ Aside0 (Below w.heap.size w w'))
 case atStart => exact ⟨(1), Zq11, H', ⟨Nat.le_refl _⟩, ⟨by (with_reducible repeat (first | apply Kd.R_alloc | apply Kd.R_drewN | apply Kd.R_drew)); exact HO140.out⟩, ⟨Zy40⟩⟩
 case round =>
  clear H'
  (try clear p2); (try clear c3); (try clear c3b0); (try clear c3b1)
  obtain ⟨x7_1, rfl, HA, HK1, HO_6, HB⟩ := hrel
  cases gk with
  | zero => exact absurd HA.out (by simp [ber_put.l0])
  | succ k1 =>
   have H := HA.out
   clear HA
   simp only [ber_put.l0] at H
   obtain ⟨ji6, hji6⟩ : ∃ j_ : Int, (wrap64 (8 * x7_1)) = j_ := ⟨_, rfl⟩
   replace H : (if 0 ≤ (ji6) then (if (shr .i64 (a1.size : Int) (ji6)) > 0 then (ber_put.l0 k1 a1 (a1.size : Int) y138 (wrap64 (x7_1 + 1))) else ((octet_Wide.f (a1.size : Int) x7_1).bind fun bt141 => (if 1 < (y138.length : Int) then ((some (y138.set (1 : Int).toNat ((wrap64 (128 + x7_1)) % 256) : List Int)).bind fun y143 => (if y143.length + bt141.1.size < 140737488355328 then ((some (y143 ++ bytesOf bt141.1 : List Int)).bind fun y144 => (if (strOfNums y144).size + a1.size ≤ 9223372036854775807 then (some ((strOfNums y144) ++ a1)) else (none))) else (none))) else (none)))) else (none)) = some r := by first | (rw [hji6] at H; exact H) | (simp only [hji6] at H ⊢; exact H)
   have hji6w : (IntKind.i64.wrap (8 * x7_1)) = ji6 := (i64_w _).trans hji6
   by_cases c7 : 0 ≤ (ji6)
   ·rw [if_pos c7] at H
    have c7b0 := eq_true c7
    have c7b1 : decide (0 ≤ (ji6)) = true := decide_eq_true c7
    clear c7
    obtain ⟨ji8, hji8⟩ : ∃ j_ : Int, (shr .i64 (a1.size : Int) (ji6)) = j_ := ⟨_, rfl⟩
    replace H : (if (ji8) > 0 then (ber_put.l0 k1 a1 (a1.size : Int) y138 (wrap64 (x7_1 + 1))) else ((octet_Wide.f (a1.size : Int) x7_1).bind fun bt141 => (if 1 < (y138.length : Int) then ((some (y138.set (1 : Int).toNat ((wrap64 (128 + x7_1)) % 256) : List Int)).bind fun y143 => (if y143.length + bt141.1.size < 140737488355328 then ((some (y143 ++ bytesOf bt141.1 : List Int)).bind fun y144 => (if (strOfNums y144).size + a1.size ≤ 9223372036854775807 then (some ((strOfNums y144) ++ a1)) else (none))) else (none))) else (none)))) = some r := by first | (rw [hji8] at H; exact H) | (simp only [hji8] at H ⊢; exact H)
    have hji8_ : ((a1.size : Int) / 2 ^ min (ji6).toNat 64) = ji8 := hji8
    have hji8z : (ji6) ≤ 64 → ((a1.size : Int) / 2 ^ (ji6).toNat) = ji8 := shr_small hji8
    by_cases c9 : (ji8) > 0
    ·rw [if_pos c9] at H
     have c9b0 : decide (0 < (ji8)) = true := decide_eq_true c9
     clear c9
     have H' := Aside0.mk H
     clear H
     go_wp2
     go_roundg k1
     case measure => have := HK1.out; omega
     case rel => exact ⟨(wrap64 (x7_1 + 1)), Zq11, H', ⟨by have := HK1.out; omega⟩, ⟨Zy54⟩, ⟨Zy40⟩⟩
    ·rw [if_neg c9] at H
     have c9b0 : decide (0 < (ji8)) = false := decide_eq_false c9
     clear c9
     replace H := Option.bind_eq_some_iff.mp H
     obtain ⟨⟨t141, t142⟩, A100, H⟩ := H
     replace H : (if 1 < (y138.length : Int) then ((some (y138.set (1 : Int).toNat ((wrap64 (128 + x7_1)) % 256) : List Int)).bind fun y143 => (if y143.length + t141.size < 140737488355328 then ((some (y143 ++ bytesOf t141 : List Int)).bind fun y144 => (if (strOfNums y144).size + a1.size ≤ 9223372036854775807 then (some ((strOfNums y144) ++ a1)) else (none))) else (none))) else (none)) = some r := H
     have A10 := Aside0.mk A100
     clear A100
     by_cases c11 : 1 < (y138.length : Int)
     ·rw [if_pos c11] at H
      have c11b0 : decide (1 < (y138.length : Int)) = true := decide_eq_true c11
      have c11b1 : decide (1 < y138.length) = true := decide_eq_true (by omega)
      clear c11
      obtain ⟨y143, hy143⟩ : ∃ y_ : List Int, y_ = (y138.set (1 : Int).toNat ((wrap64 (128 + x7_1)) % 256)) := ⟨_, rfl⟩
      replace H : (if y143.length + t141.size < 140737488355328 then ((some (y143 ++ bytesOf t141 : List Int)).bind fun y144 => (if (strOfNums y144).size + a1.size ≤ 9223372036854775807 then (some ((strOfNums y144) ++ a1)) else (none))) else (none)) = some r := by first | (rw [hy143]; with_reducible exact H) | (have H2_ := (Option.bind_some _ _).symm.trans H; rw [hy143]; with_reducible exact H2_) | (have H2_ := (Option.bind_some _ _).symm.trans H; with_reducible exact H2_) | with_reducible exact H | (rw [hy143]; exact H) | exact H
      have Ny143 := Aside0.mk hy143
      clear hy143
      by_cases c13 : y143.length + t141.size < 140737488355328
      ·rw [if_pos c13] at H
       have LMc13 := Aside0.mk c13
       clear c13
       obtain ⟨y144, hy144⟩ : ∃ y_ : List Int, y_ = (y143 ++ bytesOf t141) := ⟨_, rfl⟩
       replace H : (if (strOfNums y144).size + a1.size ≤ 9223372036854775807 then (some ((strOfNums y144) ++ a1)) else (none)) = some r := by first | (rw [hy144]; with_reducible exact H) | (have H2_ := (Option.bind_some _ _).symm.trans H; rw [hy144]; with_reducible exact H2_) | (have H2_ := (Option.bind_some _ _).symm.trans H; with_reducible exact H2_) | with_reducible exact H | (rw [hy144]; exact H) | exact H
       have Ny144 := Aside0.mk hy144
       clear hy144
       by_cases c14 : (strOfNums y144).size + a1.size ≤ 9223372036854775807
       ·rw [if_pos c14] at H
        have c14b0 := eq_true c14
        have c14b1 : decide ((strOfNums y144).size + a1.size ≤ 9223372036854775807) = true := decide_eq_true c14
        try have c14b2 : (9223372036854775807 < (strOfNums y144).size + a1.size) = False := eq_false (Nat.not_lt.2 c14)
        obtain rfl := Option.some.inj H
        go_wp2_with (first | ((with_reducible refine gate_callee (f := 92) rfl ?_); refine goesL_ (some 29) rfl rfl Tryz.func92 (by kernel_rfl) rfl #[.int .i64 (a1.size : Int), .int .i64 x7_1] rfl Zq13 ?_; (with_reducible refine (octet_Wide.calls (a1.size : Int) x7_1 t141 t142 _ A10.out).mono ?_); rintro e w15 ⟨rfl, hb⟩; refine ⟨_, rfl, ?_⟩; replace HO_6 := Aside0.mk (Kd.R_below Zy54 hb); replace HB := Aside0.mk (below_step Zq12 hb); (try clear hb); (try clear hb2); (try clear hk); (try clear hi); have p12 : 0 ≤ (1 : Int) := (by omega); have q12 : (1 : Int) < ((y138.length : Int) : Int) := of_decide_eq_true Zq1; have qi12 : (1 < y138.length) = True := eq_true (by omega); obtain ⟨go12, co12, eo12, gb12, gl12, cl12, HG12⟩ := Kd.R_form HO_6.out (by omega); (first | cases eo12 | (injection eo12 with ea_ en_ ec_; (first | subst ea_ | (injection ea_ with ea_; subst ea_)); subst ec_; clear en_)); have GB12 := Aside0.mk gb12; have GG12 := Aside0.mk HG12; clear gb12 gl12 HG12; obtain ⟨hx12_0, hf12_0⟩ := Kd.R_celln 0 HO_6.out (1 : Int) p12 q12; (try rw [show ((1 : Int)).toNat = 1 from rfl] at hx12_0); (try simp only [Nat.reduceMul, Nat.zero_mul, Nat.zero_add, Nat.reduceAdd] at hx12_0); (try rw [show ((1 : Int)).toNat = 1 from rfl] at hf12_0); (try simp only [Nat.reduceMul, Nat.zero_mul, Nat.zero_add, Nat.reduceAdd] at hf12_0); replace p12 := eq_true p12; replace q12 := eq_true q12; obtain ⟨hy16_, hz16_⟩ := Kd.R_celln 0 HO_6.out (1 : Int) (by omega) (of_decide_eq_true Zq1); (try simp only [Int.reduceToNat, Int.toNat_zero, Int.toNat_ofNat, Nat.reduceMul, Nat.zero_mul, Nat.zero_add] at hy16_ hz16_); (try rw [show ((1 : Int)).toNat = 1 from rfl] at hy16_); (try rw [show ((1 : Int)).toNat = 1 from rfl] at hz16_); have HP16 := Kd.R_putg HO_6.out (1 : Int) ((wrap64 (128 + x7_1)) % 256)) | ((with_reducible refine gate_store (t := 5) (p := 36) rfl ?_); refine store_event (t := 5) (p := 36) (v := ?vo_w17) (w1 := (w15.setCell ⟨go12, (1 : Int).toNat, none⟩ (.int .u8 ((wrap64 (128 + x7_1)) % 256)))) ?hg ?ho ?hn ?hr ?_; (case ho => rfl); (case hg => rfl); (case hn => rfl); (case hr => exact Zq2); intro w17 hw; have hg : w15.grownBy w17 (some go12) := (by rw [hw]; exact HP16.2); have hp_ : Kd.R (Kd.int .u8) 5 w17 w.heap.size (fun _ => True) (.slice (some ⟨go12, 0, none⟩) y138.length co12) y143 := (by rw [hw, Ny143.out]; exact HP16.1); clear HP16; replace HO_6 := Aside0.mk (hp_); replace HB := Aside0.mk ((by rw [hw]; exact below_set (HB.out) GB12.out : Below w.heap.size w w17)); clear hg hw hp_) | (at_builtin; refine print_append_str (w0 := w) w.heap.size rfl (.tmp 37) _ 53 9 5 rfl Tryz.underlying53 Tryz.underlying9 info5 (.slice (some ⟨go12, 0, none⟩) y138.length co12) y143 t141 rfl rfl ?aO ?aB ?aS ?aL ?_; (case aB => exact Zq12); (case aO => exact (Kd.own_of_R Zy54)); (case aS => exact (below_size Zq12)); (case aL => have := LMc13.out; omega); intro v145 w18 ho0 hb hg; have ho := Kd.R_of_own (h1 := fun _ => rfl) (ok := fun _ => True) ho0 (fun _ _ => trivial); clear ho0; have hat := True.intro; rw [← Ny144.out] at ho; change Kd.R (Kd.int .u8) 5 w18 w.heap.size (fun _ => True) v145 y144 at ho; have n0_ := Aside0.mk (hb); have n1_ := Aside0.mk (ho); clear HB; clear HO_6; have HB := n0_; have HO146 := n1_; clear n0_ n1_; clear ho hb hg hat; have hcv19 := own_string (P := Tryz.prog) Tryz.underlying53 Tryz.underlying5 Tryz.underlying9 (Kd.own_of_R HO146.out)))
        go_ret
        exact ⟨by first | rfl | (simp only [i64_w, i32_w]; rfl) | (simp [errW_none, errW_some] <;> rfl) | (simp only [← hji6, ← hji8]; first | rfl | (simp [errW_none, errW_some] <;> rfl)) | (simp [*, errW_none, errW_some] <;> rfl), Zy40⟩
       ·rw [if_neg c14] at H
        exact absurd H (by simp)
      ·rw [if_neg c13] at H
       exact absurd H (by simp)
     ·rw [if_neg c11] at H
      exact absurd H (by simp)
   ·rw [if_neg c7] at H
    exact absurd H (by simp)
def ber_Wrap.f (k : Nat) (a0 : Int) (a1 : ByteArray) : Option (ByteArray × Int) := (ber_isTag.f a0).bind fun t147 => (if t147 = true then (if (a1.size : Int) > 16777216 then (some ((⟨#[]⟩ : ByteArray), 2)) else ((ber_put.f k a0 a1).bind fun t148 => (some (t148, 0)))) else (some ((⟨#[]⟩ : ByteArray), 1)))
set_option maxHeartbeats 8000000 in
set_option maxRecDepth 100000 in
theorem ber_Wrap.calls (k : Nat) (a0 : Int) (a1 : ByteArray) (r1 : ByteArray) (r2 : Int) (w : World) (h : ber_Wrap.f k a0 a1 = some (r1, r2)) :
  Calls Tryz.prog 41 #[.int .i64 a0, .string a1] w fun e w' => e = .returned (.tuple #[.string r1, .int .i64 r2]) ∧ Below w.heap.size w w' := by
 have HB := Aside0.mk (Below.refl w.heap.size w)
 have H : ((ber_isTag.f a0).bind fun t147 => (if t147 = true then (if (a1.size : Int) > 16777216 then (some ((⟨#[]⟩ : ByteArray), 2)) else ((ber_put.f k a0 a1).bind fun t148 => (some (t148, 0)))) else (some ((⟨#[]⟩ : ByteArray), 1)))) = some (r1, r2) := h
 clear h
 replace H := Option.bind_eq_some_iff.mp H
 obtain ⟨t147, A30, H⟩ := H
 replace H : (if t147 = true then (if (a1.size : Int) > 16777216 then (some ((⟨#[]⟩ : ByteArray), 2)) else ((ber_put.f k a0 a1).bind fun t148 => (some (t148, 0)))) else (some ((⟨#[]⟩ : ByteArray), 1))) = some (r1, r2) := H
 have A3 := Aside0.mk A30
 clear A30
 by_cases c4 : t147 = true
 rotate_left
 ·replace c4 := Bool.eq_false_iff.mpr c4
  subst c4
  have H1 : (some ((⟨#[]⟩ : ByteArray), 1)) = some (r1, r2) := by rw [if_neg (show ¬ (false = true) by decide)] at H; exact H
  clear H
  have H := H1
  clear H1
  simp only [Option.some.injEq, Prod.mk.injEq] at H
  obtain ⟨rfl, rfl⟩ := H
  go_enter Tryz.func41, Tryz.ntmps41
  go_wp2_with (first | ((with_reducible refine gate_callee (f := 66) rfl ?_); refine goesL_ (some 8) rfl rfl Tryz.func66 (by kernel_rfl) rfl #[.int .i64 a0] rfl Zq13 ?_; (with_reducible refine (ber_isTag.calls a0 false _ A3.out).mono ?_); rintro e w' ⟨rfl, ⟨nd, rfl⟩⟩; refine ⟨_, rfl, ?_⟩))
  go_ret2
  exact ⟨Zy41, Zy40⟩
 subst c4
 have H1 : (if (a1.size : Int) > 16777216 then (some ((⟨#[]⟩ : ByteArray), 2)) else ((ber_put.f k a0 a1).bind fun t148 => (some (t148, 0)))) = some (r1, r2) := by rw [if_pos rfl] at H; exact H
 clear H
 have H := H1
 clear H1
 by_cases c5 : (a1.size : Int) > 16777216
 ·rw [if_pos c5] at H
  have c5b0 : decide (16777216 < (a1.size : Int)) = true := decide_eq_true c5
  have c5b1 : decide (16777216 < a1.size) = true := decide_eq_true (by omega)
  clear c5
  simp only [Option.some.injEq, Prod.mk.injEq] at H
  obtain ⟨rfl, rfl⟩ := H
  go_enter Tryz.func41, Tryz.ntmps41
  go_wp2_with (first | ((with_reducible refine gate_callee (f := 66) rfl ?_); refine goesL_ (some 8) rfl rfl Tryz.func66 (by kernel_rfl) rfl #[.int .i64 a0] rfl Zq13 ?_; (with_reducible refine (ber_isTag.calls a0 true _ A3.out).mono ?_); rintro e w' ⟨rfl, ⟨nd, rfl⟩⟩; refine ⟨_, rfl, ?_⟩))
  go_ret2
  exact ⟨Zy41, Zy40⟩
 rw [if_neg c5] at H
 have c5b0 : decide (16777216 < (a1.size : Int)) = false := decide_eq_false c5
 have c5b1 : decide (16777216 < a1.size) = false := decide_eq_false (by omega)
 clear c5
 replace H := Option.bind_eq_some_iff.mp H
 obtain ⟨t148, A60, H⟩ := H
 replace H : (some (t148, 0)) = some (r1, r2) := H
 have A6 := Aside0.mk A60
 clear A60
 simp only [Option.some.injEq, Prod.mk.injEq] at H
 obtain ⟨rfl, rfl⟩ := H
 go_enter Tryz.func41, Tryz.ntmps41
 go_wp2_with (first | ((with_reducible refine gate_callee (f := 66) rfl ?_); refine goesL_ (some 8) rfl rfl Tryz.func66 (by kernel_rfl) rfl #[.int .i64 a0] rfl Zq13 ?_; (with_reducible refine (ber_isTag.calls a0 true _ A3.out).mono ?_); rintro e w' ⟨rfl, ⟨nd, rfl⟩⟩; refine ⟨_, rfl, ?_⟩) | ((with_reducible refine gate_callee (f := 67) rfl ?_); refine goesL_ (some 16) rfl rfl Tryz.func67 (by kernel_rfl) rfl #[.int .i64 a0, .string a1] rfl Zq13 ?_; (with_reducible refine (ber_put.calls k a0 a1 t148 _ A6.out).mono ?_); rintro e w7 ⟨rfl, hb⟩; refine ⟨_, rfl, ?_⟩; replace HB := Aside0.mk (below_step Zq12 hb); (try clear hb); (try clear hb2); (try clear hk); (try clear hi)))
 go_ret2
 exact ⟨Zy41, Zy40⟩
def pdu_wrap.f (k : Nat) (a0 : Int) (a1 : ByteArray) : Option (ByteArray) := (ber_Wrap.f k a0 a1).bind fun bt149 => (some bt149.1)
set_option maxHeartbeats 8000000 in
set_option maxRecDepth 100000 in
theorem pdu_wrap.calls (k : Nat) (a0 : Int) (a1 : ByteArray) (r : ByteArray) (w : World) (h : pdu_wrap.f k a0 a1 = some r) :
  Calls Tryz.prog 22 #[.int .i64 a0, .string a1] w fun e w' => e = .returned (.string r) ∧ Below w.heap.size w w' := by
 have HB := Aside0.mk (Below.refl w.heap.size w)
 have H : ((ber_Wrap.f k a0 a1).bind fun bt149 => (some bt149.1)) = some r := h
 clear h
 replace H := Option.bind_eq_some_iff.mp H
 obtain ⟨⟨t149, t150⟩, A30, H⟩ := H
 replace H : (some t149) = some r := H
 have A3 := Aside0.mk A30
 clear A30
 obtain rfl := Option.some.inj H
 go_enter Tryz.func22, Tryz.ntmps22
 go_wp2_with (first | ((with_reducible refine gate_callee (f := 41) rfl ?_); refine goesL_ (some 10) rfl rfl Tryz.func41 (by kernel_rfl) rfl #[.int .i64 a0, .string a1] rfl Zq13 ?_; (with_reducible refine (ber_Wrap.calls k a0 a1 t149 t150 _ A3.out).mono ?_); rintro e w4 ⟨rfl, hb⟩; refine ⟨_, rfl, ?_⟩; replace HB := Aside0.mk (below_step Zq12 hb); (try clear hb); (try clear hb2); (try clear hk); (try clear hi)))
 go_ret
 exact ⟨Zy41, Zy40⟩
set_option maxHeartbeats 1600000 in
set_option maxRecDepth 100000 in
theorem bld_String_some (B b o : Nat) (T : TypeId) (cs : Array Value) (v : Value) (l : List UInt8) (w : World)
  (hb : w.heap[b]? = some (.cells cs T (0, 0))) (h1 : cs[o + 1]? = some v) (hr : BRow w B 5 v l) (h0 : l ≠ []) :
  Calls Tryz.prog 24 #[.pointer (some ⟨b, o, none⟩)] w fun e w' => e = .returned (.string ⟨l.toArray⟩) ∧ Mv (fun k => v.ownBlock = some k) w w' := by
 have hl0 : l.length ≠ 0 := by simpa using h0
 obtain ⟨g, cap, cur, rfl, hbg, hg, hnc, hcm, hcs, htake⟩ : ∃ g cap cur, v = .slice (some ⟨g, 0, none⟩) l.length cap ∧ B ≤ g ∧ w.heap[g]? = some (.cells cur 5 (0, 0)) ∧ l.length ≤ cap ∧ cap ≤ maxLen ∧ cur.size = cap * 1 ∧ cur.toList.take (l.length * 1) = l.map fun b => Value.int .u8 b.toNat := by
  rcases hr.2 with ⟨_, hz⟩ | ⟨g, cap, cur, hv, r⟩
  ·exact absurd hz hl0
  ·exact ⟨g, cap, cur, hv, r⟩
 have c1 : w.drew.cell? ⟨b, o + 1, none⟩ = some (.slice (some ⟨g, 0, none⟩) l.length cap) := (blk_cell (w := w.drew) hb (o + 1)).trans h1
 have hSD : (Builtin.unsafeSliceData_ #[53] 87 #[.slice (some ⟨g, 0, none⟩) l.length cap]).run Tryz.prog w.drew = .ok (.pointer (some ⟨g, 0, none⟩)) w.drew :=
  Lib.run_unsafeSliceData_row _ _ _ _ _ _ (by omega)
 have hUS : (Builtin.unsafeString_ #[87, 3] 9 #[.pointer (some ⟨g, 0, none⟩), .int .i64 l.length]).run Tryz.prog w.drew = .ok (.string ⟨l.toArray⟩) (w.drew.freeze ⟨g, 0, none⟩ l.length) := by
  refine Lib.run_unsafeString_row w.drew 87 3 9 5 Tryz.underlying87 (by kernel_rfl) g cur.size (by have hg' : w.drew.heap[g]? = some (.cells cur 5 (0, 0)) := hg; simp [World.shape?, hg']) l h0 (by omega) (by unfold maxLen at hcm; omega) ?_
  intro j x hx
  have := World.ownsRow.cells hr (g := g) rfl j (.int .u8 x.toNat) (by simp [hx])
  exact this
 have HG := Aside0.mk hg
 clear hb h1 hr h0 hl0 hbg hg hnc hcm hcs htake
 have u1 := Tryz.underlying55
 have u2 := Tryz.underlying52
 go_enter Tryz.func24, Tryz.ntmps24
 go_wp2
 go_region
 all_goals (go_wp2; go_ret; exact ⟨rfl, Mv.freeze (Mv.drew (Mv.refl _ w)) (by show Value.ownBlock _ = some _; rfl) _⟩)
set_option maxHeartbeats 1600000 in
set_option maxRecDepth 100000 in
theorem bld_String_none (B b o : Nat) (T : TypeId) (cs : Array Value) (v : Value) (w : World)
  (hb : w.heap[b]? = some (.cells cs T (0, 0))) (h1 : cs[o + 1]? = some v) (hr : BRow w B 5 v []) :
  Calls Tryz.prog 24 #[.pointer (some ⟨b, o, none⟩)] w fun e w' => e = .returned (.string ⟨#[]⟩) ∧ Mv (fun k => v.ownBlock = some k) w w' := by
 have hUS : ∀ W : World, ∀ q : Option Addr, (Builtin.unsafeString_ #[87, 3] 9 #[.pointer q, .int .i64 0]).run Tryz.prog W = .ok (.string .empty) W := fun W q => Lib.run_unsafeString_none W _ _ _ q
 have u1 := Tryz.underlying55
 have u2 := Tryz.underlying52
 have hlt : b < w.heap.size := (Array.getElem?_eq_some_iff.1 hb).1
 rcases hr.2 with ⟨rfl, _⟩ | ⟨g, cap, cur, rfl, hbg, hg, _, _, _, _⟩
 ·have c1 : w.drew.cell? ⟨b, o + 1, none⟩ = some (.slice none 0 0) := (blk_cell (w := w.drew) hb (o + 1)).trans h1
  have hSD : (Builtin.unsafeSliceData_ #[53] 87 #[.slice none 0 0]).run Tryz.prog w.drew = .ok (.pointer none) w.drew := rfl
  clear hb h1 hr hlt
  go_enter Tryz.func24, Tryz.ntmps24
  go_wp2
  go_region
  all_goals (go_wp2; go_ret; exact ⟨rfl, Mv.drew (Mv.refl _ w)⟩)
 ·by_cases hc0 : cap = 0
  ·subst hc0
   have hSD : (Builtin.unsafeSliceData_ #[53] 87 #[.slice (some ⟨g, 0, none⟩) 0 0]).run Tryz.prog w.drew = .ok (.pointer (some ⟨w.drew.heap.size, 0, none⟩)) (w.drew.alloc (.view ⟨g, 0, none⟩ 5)) :=
    Lib.run_unsafeSliceData_zero w.drew _ _ 5 Tryz.underlying87 ⟨g, 0, none⟩ 0 (5, cur.size) (by have hg' : w.drew.heap[g]? = some (.cells cur 5 (0, 0)) := hg; simp [World.shape?, hg'])
   have c0 : w.cell? ⟨b, o + 1, none⟩ = some (.slice (some ⟨g, 0, none⟩) 0 0) := (blk_cell hb (o + 1)).trans h1
   have c1 : w.drew.cell? ⟨b, o + 1, none⟩ = some (.slice (some ⟨g, 0, none⟩) 0 0) := c0
   have c2 : (w.drew.alloc (.view ⟨g, 0, none⟩ 5)).cell? ⟨b, o + 1, none⟩ = some (.slice (some ⟨g, 0, none⟩) 0 0) :=
    (blk_cell (w := w.drew.alloc (.view ⟨g, 0, none⟩ 5)) (blk_alloc (w := w.drew) hb _) (o + 1)).trans h1
   have c3 : (w.alloc (.view ⟨g, 0, none⟩ 5)).drew.cell? ⟨b, o + 1, none⟩ = some (.slice (some ⟨g, 0, none⟩) 0 0) := c2
   clear hb h1 hr hlt hg
   go_enter Tryz.func24, Tryz.ntmps24
   go_wp2
   go_region
   all_goals (go_wp2; go_ret; exact ⟨rfl, by first | exact Mv.alloc (Mv.drew (Mv.refl _ w)) _ | exact Mv.drew (Mv.alloc (Mv.refl _ w) _)⟩)
  ·have c1 : w.drew.cell? ⟨b, o + 1, none⟩ = some (.slice (some ⟨g, 0, none⟩) 0 cap) := (blk_cell (w := w.drew) hb (o + 1)).trans h1
   have hSD : (Builtin.unsafeSliceData_ #[53] 87 #[.slice (some ⟨g, 0, none⟩) 0 cap]).run Tryz.prog w.drew = .ok (.pointer (some ⟨g, 0, none⟩)) w.drew :=
    Lib.run_unsafeSliceData_row _ _ _ _ _ _ hc0
   clear hb h1 hr hlt hg hc0
   go_enter Tryz.func24, Tryz.ntmps24
   go_wp2
   go_region
   all_goals (go_wp2; go_ret; exact ⟨rfl, Mv.drew (Mv.refl _ w)⟩)
theorem bld_String (B b o : Nat) (T : TypeId) (cs : Array Value) (v : Value) (l : List UInt8) (w : World)
  (hb : w.heap[b]? = some (.cells cs T (0, 0))) (h1 : cs[o + 1]? = some v) (hr : BRow w B 5 v l) :
  Calls Tryz.prog 24 #[.pointer (some ⟨b, o, none⟩)] w fun e w' => e = .returned (.string ⟨l.toArray⟩) ∧ Mv (fun k => v.ownBlock = some k) w w' := by
 by_cases h0 : l = []
 ·subst h0
  exact bld_String_none B b o T cs v w hb h1 hr
 ·exact bld_String_some B b o T cs v l w hb h1 hr h0
theorem Bl.string {B b : Nat} {v : Value} {l : List UInt8} {w : World} (h : Bl w B b v l) :
  Calls Tryz.prog 24 #[.pointer (some ⟨b, 0, none⟩)] w fun e w' => e = .returned (.string ⟨l.toArray⟩) ∧ Mv (fun k => v.ownBlock = some k) w w' := by
 obtain ⟨p, hp, hb⟩ := h.blk
 exact bld_String B b 0 55 #[p, v] v l w hb rfl h.row
def gbyte (n : Int) (i : Nat) : Int := n / 128 ^ (8 - i) % 128 + (if i < 8 then 128 else 0)
def gbytes (n : Int) : List Int := (List.range 9).map fun i => gbyte n i
def gkAt : Nat → Int → Nat → Nat
 | 0, _, k => k
 | f + 1, n, k => if 0 < n / 128 ^ (k + 1) then gkAt f n (k + 1) else k
def gkOf (n : Int) : Nat := gkAt 8 n 0
theorem or128 (m : Nat) (h : m < 128) : bits .or .i64 (m : Int) 128 = (m : Int) + 128 := by
 have : ∀ m : Fin 128, bits .or .i64 ((m.val : Nat) : Int) 128 = ((m.val : Nat) : Int) + 128 := by decide +kernel
 exact this ⟨m, h⟩
def octet_Groups.f (a0 : Int) : Option (ByteArray × Int) :=
 if a0 < 0 then some (⟨#[]⟩, 1) else if a0 ≤ 9223372036854775807 then some (strOfNums ((gbytes a0).drop (8 - gkOf a0)), 0) else none
set_option maxHeartbeats 1600000 in
set_option maxRecDepth 100000 in
theorem octet_Groups.calls (a0 : Int) (r1 : ByteArray) (r2 : Int) (w : World) (h : octet_Groups.f a0 = some (r1, r2)) :
  Calls Tryz.prog 62 #[.int .i64 a0] w fun e w' => e = .returned (.tuple #[.string r1, .int .i64 r2]) ∧ Below w.heap.size w w' := by
 unfold octet_Groups.f at h
 by_cases h0 : a0 < 0
 ·rw [if_pos h0] at h
  simp only [Option.some.injEq, Prod.mk.injEq] at h
  obtain ⟨rfl, rfl⟩ := h
  have e1 : decide (a0 < 0) = true := decide_eq_true h0
  clear h0
  go_enter Tryz.func62, Tryz.ntmps62
  go_wp2
  go_ret2
  exact ⟨rfl, Below.refl _ _⟩
 ·rw [if_neg h0] at h
  by_cases h1 : a0 ≤ 9223372036854775807
  ·rw [if_pos h1] at h
   have H := Aside0.mk h
   have h0' : 0 ≤ a0 := by omega
   have e1 : decide (a0 < 0) = false := decide_eq_false h0
   have e2 : a0 % 128 ≤ 127 := by omega
   have e3 : 0 ≤ a0 % 128 := by omega
   clear h h0
   go_enter Tryz.func62, Tryz.ntmps62
   go_wp2_with fail
   have hblk : (w.alloc (.cells #[.int .u8 0, .int .u8 0, .int .u8 0, .int .u8 0, .int .u8 0, .int .u8 0, .int .u8 0, .int .u8 0, .int .u8 (a0 % 128)] 134)).heap[w.heap.size]? = some (.cells (rowIf 9 (gbyte a0) (fun i => decide (8 ≤ i))) 134 (0, 0)) := by
    rw [heap_alloc_new w _]
    have e9 : gbyte a0 8 = a0 % 128 := by unfold gbyte; simp
    rw [← e9]
    rfl
   have HK := Aside0.mk hblk
   have HB := Aside0.mk (below_alloc (Below.refl w.heap.size w) (.cells #[.int .u8 0, .int .u8 0, .int .u8 0, .int .u8 0, .int .u8 0, .int .u8 0, .int .u8 0, .int .u8 0, .int .u8 (a0 % 128)] 134))
   clear hblk
   obtain ⟨w1, hw1⟩ : ∃ w1, w1 = w.alloc (.cells #[.int .u8 0, .int .u8 0, .int .u8 0, .int .u8 0, .int .u8 0, .int .u8 0, .int .u8 0, .int .u8 0, .int .u8 (a0 % 128)] 134) := ⟨_, rfl⟩
   rw [← hw1] at HB HK ⊢
   clear hw1
   obtain ⟨g, hg⟩ : ∃ g, g = w.heap.size := ⟨_, rfl⟩
   have GE := Aside0.mk (Nat.le_of_eq hg.symm)
   rw [← hg] at HK ⊢
   clear hg
   have H0 := Aside0.mk h0'
   have H1 := Aside0.mk h1
   clear h1 e1 e2 e3 h0'
   go_loopw [0, 5] (fun u v W => ∃ m : Nat, m ≤ 8 ∧ v = .int .i64 (m : Int) ∧ u = .int .i64 (a0 / 128 ^ (9 - m)) ∧ Aside0 (gkAt m a0 (8 - m) = gkOf a0) ∧ Aside0 (W.heap[g]? = some (.cells (rowIf 9 (gbyte a0) (fun i => decide (m ≤ i))) 134 (0, 0))) ∧ Aside0 (Below w.heap.size w W)) (fun _ v _ => (intOf v + 1).toNat)
   case atStart => exact ⟨8, Nat.le_refl _, rfl, by simp, ⟨rfl⟩, HK, HB⟩
   case round =>
    obtain ⟨m, hm, rfl, rfl, HG, HK, HB⟩ := hrel
    obtain ⟨N, hN⟩ : ∃ N : Nat, a0 / 128 ^ (9 - m) = (N : Int) := ⟨(a0 / 128 ^ (9 - m)).toNat, by have : 0 ≤ a0 / 128 ^ (9 - m) := Int.ediv_nonneg H0.out (by exact Int.le_of_lt (Int.pow_pos (by decide))); omega⟩
    have HN := Aside0.mk hN
    rw [hN]
    clear hN
    by_cases hlt : 0 < N
    ·have hm0 : 0 < m := by
      rcases Nat.eq_zero_or_pos m with rfl | h
      ·have h9 : a0 / 128 ^ 9 = (N : Int) := HN.out
       have := H0.out
       have := H1.out
       omega
      ·exact h
     obtain ⟨j, rfl⟩ : ∃ j, m = j + 1 := ⟨m - 1, by omega⟩
     have e4 : decide ((N : Int) > 0) = true := decide_eq_true (by omega)
     have e5 : bits .or .i64 ((N : Int) % 128) 128 = (N : Int) % 128 + 128 := by
      have := or128 (N % 128) (Nat.mod_lt _ (by decide))
      rw [Int.natCast_emod] at this
      exact this
     have e6 : (((j + 1 : Nat) : Int) - 1) = (j : Int) := by omega
     have e7 : (N : Int) % 128 ≤ 127 := by omega
     have e8 : 0 ≤ (N : Int) % 128 := by omega
     have e9 : 0 ≤ (N : Int) := by omega
     have HV := Aside0.mk (show (N : Int) % 128 + 128 = gbyte a0 j from by
      unfold gbyte
      rw [if_pos (by omega), show 8 - j = 9 - (j + 1) from by omega, HN.out])
     have HV2 := Aside0.mk (show (N : Int) / 128 = a0 / 128 ^ (9 - j) from by
      rw [← HN.out, show 9 - j = 9 - (j + 1) + 1 from by omega, Int.pow_succ, Int.ediv_ediv_of_nonneg (Int.le_of_lt (Int.pow_pos (by decide)))])
     have HG2 := Aside0.mk (show gkAt j a0 (8 - j) = gkOf a0 from by
      rw [← HG.out]
      conv => rhs; unfold gkAt
      rw [show 8 - (j + 1) + 1 = 9 - (j + 1) from by omega, HN.out, if_pos (by omega), show 9 - (j + 1) = 8 - j from by omega])
     have hc := (blk_cell HK.out j).trans (rowIf_get _ _ _ _ (show j < 9 by omega))
     have hf := blk_frozen HK.out j
     have HJ := Aside0.mk (show j ≤ 7 by omega)
     have g1 := eq_true (show 0 < N by omega)
     have g2 := eq_true (show j < 9 by omega)
     have g3 := eq_true (show (j : Int) < 9 by omega)
     clear hlt hm0
     go_wp2
     go_roundw
     case rel => exact ⟨j, by have := HJ.out; omega, rfl, by rw [← HV2.out], HG2, ⟨by rw [HV.out]; exact blk_put HK.out j _ (rowIf_set 9 (gbyte a0) _ _ j (fun i hi => by rw [Bool.eq_iff_iff]; simp; omega))⟩, ⟨below_set HB.out GE.out⟩⟩
     case measure => simp [intOf]; omega
    ·obtain rfl : N = 0 := by omega
     rw [show ((0 : Nat) : Int) = 0 from rfl]
     have hk : 8 - gkOf a0 = m := by
      rw [← HG.out]
      cases m with
      | zero => rfl
      | succ q =>
       unfold gkAt
       have e : 8 - (q + 1) + 1 = 9 - (q + 1) := by omega
       rw [e, HN.out, if_neg (by decide)]
       omega
     have h := H.out
     rw [hk] at h
     simp only [Option.some.injEq, Prod.mk.injEq] at h
     obtain ⟨rfl, rfl⟩ := h
     have f5 := eq_true (show m ≤ 9 by omega)
     have f6 := eq_true (show (m : Int) ≤ 9 by omega)
     have f7 := eq_false (show ¬ (9 = m) by omega)
     have hcv : ∀ c, (convert 53 9 (.slice (some ⟨g, m, none⟩) (9 - m) c)).run Tryz.prog wr = .ok (.string (strOfNums ((gbytes a0).drop m))) wr := fun c => by
      refine run_convert_bytes_arg wr 53 5 Tryz.underlying53 Tryz.underlying5 g m (9 - m) c _ (by simp [gbytes]) (fun i hi => ?_) 9 Tryz.underlying9
      rw [(blk_cell HK.out (m + i)).trans (rowIf_get _ _ _ _ (show m + i < 9 by omega))]
      simp [gbytes, show m + i < 9 by omega]
     clear hlt hk hm
     go_wp2
     go_ret2
     exact ⟨rfl, HB.out⟩
  ·rw [if_neg h1] at h
   exact absurd h (by simp)
def oid_Encode.go : List Int → List UInt8 → Option (List UInt8)
 | [], acc => some acc
 | n :: l, acc => (octet_Groups.f n).bind fun g => if acc.length + g.1.size ≤ 140737488355328 then oid_Encode.go l (acc ++ g.1.data.toList) else none
def oid_Encode.f (k : Nat) (a0 : ByteArray) : Option (ByteArray × Int) := (oid_Arcs.f k a0).bind fun r => if r.2 = 0 then (match r.1 with
  | x0 :: x1 :: l => (oid_Encode.go (wrap64 (x1 + wrap64 (40 * x0)) :: l) []).bind fun o => some (⟨o.toArray⟩, 0)
  | _ => none) else some (⟨#[]⟩, r.2)
set_option maxHeartbeats 4000000 in
set_option maxRecDepth 100000 in
theorem oid_Encode.calls (k : Nat) (a0 : ByteArray) (r1 : ByteArray) (r2 : Int) (w : World) (hG : Gl w) (h : oid_Encode.f k a0 = some (r1, r2)) :
  Calls Tryz.prog 39 #[.string a0] w fun e w' => e = .returned (.tuple #[.string r1, .int .i64 r2]) ∧ Below w.heap.size w w' := by
 unfold oid_Encode.f at h
 obtain ⟨⟨x, c⟩, hA, h⟩ := Option.bind_eq_some_iff.mp h
 simp only at h
 have AA := Aside0.mk (oid_Arcs.calls k a0 x c w hG hA)
 clear hA hG
 go_enter Tryz.func39, Tryz.ntmps39
 by_cases hc : c = 0
 ·rw [if_pos hc] at h
  subst hc
  match x, h, AA with
  | x0 :: x1 :: l, h, AA =>
  obtain ⟨o, ho, h⟩ := Option.bind_eq_some_iff.mp h
  simp only [Option.some.injEq, Prod.mk.injEq] at h
  obtain ⟨rfl, rfl⟩ := h
  have HO := Aside0.mk ho
  clear ho
  go_wp2_with fail
  refine AA.out.mono ?_
  rintro e w1 ⟨v1, rfl, hr1, hb1⟩
  have hown := Kd.own_of_R (enc := Value.int .i64) (h1 := fun _ => rfl) hr1
  have HB1 := Aside0.mk hb1
  obtain ⟨g, cap, cur, rfl, hbg, hg, hnc, hcm, hcs, htake⟩ : ∃ g cap cur, v1 = .slice (some ⟨g, 0, none⟩) (x0 :: x1 :: l).length cap ∧ w.heap.size ≤ g ∧ w1.heap[g]? = some (.cells cur 3 (0, 0)) ∧ (x0 :: x1 :: l).length ≤ cap ∧ cap ≤ maxLen ∧ cur.size = cap * 1 ∧ cur.toList.take ((x0 :: x1 :: l).length * 1) = encs (Value.int .i64) (x0 :: x1 :: l) := by
   rcases hown.2 with ⟨_, hz⟩ | ⟨g, cap, cur, hv, r⟩
   ·exact absurd hz (by simp)
   ·exact ⟨g, cap, cur, hv, r⟩
  have hl2 : 2 ≤ cur.size := by simp only [List.length_cons] at hnc; omega
  have hct : ∀ (j : Nat) (u : Value), (encs (Value.int .i64) (x0 :: x1 :: l))[j]? = some u → cur[j]? = some u := by
   intro j u hj
   rw [← htake, List.getElem?_take] at hj
   split at hj
   ·rw [← Array.getElem?_toList]; exact hj
   ·cases hj
  have hc0 : w1.cell? ⟨g, 0, none⟩ = some (.int .i64 x0) := (blk_cell hg 0).trans (hct 0 _ rfl)
  have hc1 : w1.cell? ⟨g, 1, none⟩ = some (.int .i64 x1) := (blk_cell hg 1).trans (hct 1 _ rfl)
  have hf1 : w1.frozen? ⟨g, 1, none⟩ = false := blk_frozen hg 1
  have HG := Aside0.mk hg
  have HT := Aside0.mk htake
  have HGB := Aside0.mk hbg
  have HCS := Aside0.mk hcs
  have HNC := Aside0.mk hnc
  have HCM := Aside0.mk hcm
  have HL2 := Aside0.mk hl2
  have k1 := eq_true (show 1 < (x0 :: x1 :: l).length by simp)
  have k0 := eq_true (show 0 < (x0 :: x1 :: l).length by simp)
  have hlen : (x0 :: x1 :: l).length = l.length + 2 := rfl
  clear hr1 hb1 hown hg htake hbg hcs hnc hcm hl2 AA
  go_wp2_with fail
  go_cut [] (fun W => Aside0 (W.heap[g]? = some (.cells (cur.setIfInBounds 1 (.int .i64 (wrap64 (x1 + wrap64 (40 * x0))))) 3 (0, 0))) ∧ Aside0 (Below w.heap.size w W))
  case first =>
   go_region
   all_goals
    go_wp2
    go_meet
    case rel => exact ⟨⟨blk_put HG.out 1 _ rfl⟩, ⟨by first | exact below_set HB1.out HGB.out | exact below_drew1 (below_set HB1.out HGB.out) | exact below_set (below_drew1 HB1.out) HGB.out⟩⟩
  case rest =>
   obtain ⟨HG2, HB2⟩ := hcut
   have HGL := Aside0.mk (show g < wc.heap.size from (Array.getElem?_eq_some_iff.1 HG2.out).1)
   obtain ⟨y, hy⟩ : ∃ y, y = wrap64 (x1 + wrap64 (40 * x0)) := ⟨_, rfl⟩
   rw [← hy] at HG2 HO
   have hrow : ∀ (j : Nat) (u : Int), (y :: l)[j]? = some u → (cur.setIfInBounds 1 (.int .i64 y))[1 + j]? = some (Value.int .i64 u) := by
    intro j u hj
    cases j with
    | zero =>
     simp only [List.getElem?_cons_zero, Option.some.injEq] at hj
     subst hj
     rw [Array.getElem?_setIfInBounds_self, if_pos (by have := HL2.out; omega)]
    | succ j =>
     rw [Array.getElem?_setIfInBounds_ne (by omega)]
     simp only [List.getElem?_cons_succ] at hj
     apply hct
     simp [encs, show 1 + (j + 1) = j + 2 from by omega, hj]
   have HRW := Aside0.mk hrow
   have k3 := eq_false (show ¬ (cap = 1) by have := HNC.out; simp only [List.length_cons] at this; omega)
   have k4 := eq_false (show ¬ (1 = cap) by have := HNC.out; simp only [List.length_cons] at this; omega)
   have k5 := eq_true (show 1 ≤ cap by have := HNC.out; simp only [List.length_cons] at this; omega)
   have HLB := Aside0.mk (show l.length + 2 ≤ maxLen by have := HCM.out; have := HNC.out; simp only [List.length_cons] at this; omega)
   clear hc0 hc1 hf1 HG HB1 hy hrow hct HT
   go_wp2_with fail
   have HBL := Aside0.mk (Bl.new wc wc.heap.size (Nat.le_refl _))
   have HG3 := Aside0.mk (show (wc.alloc (.cells #[.pointer none, .slice none 0 0] 55)).heap[g]? = some (.cells (cur.setIfInBounds 1 (.int .i64 y)) 3 (0, 0)) from (Mv.heap ((Mv.refl (fun _ => False) wc).alloc _) HG2.out id))
   have HB3 := Aside0.mk (below_alloc HB2.out (.cells #[.pointer none, .slice none 0 0] 55))
   obtain ⟨b, hb⟩ : ∃ b, b = wc.heap.size := ⟨_, rfl⟩
   have HGB2 := Aside0.mk (show g < b by rw [hb]; exact HGL.out)
   have HBB := Aside0.mk (show w.heap.size ≤ b by rw [hb]; exact HB2.out.size)
   rw [← hb] at HBL ⊢
   clear hb HG2 HB2 HGL
   obtain ⟨wd, hwd⟩ : ∃ wd, wd = wc.alloc (.cells #[.pointer none, .slice none 0 0] 55) := ⟨_, rfl⟩
   rw [← hwd] at HBL HG3 HB3 ⊢
   clear hwd
   go_loopw [31] (fun v31 W => ∃ (i : Nat) (v : Value) (acc : List UInt8), v31 = .int .i64 (i : Int) ∧ i ≤ l.length + 1 ∧ Aside0 (oid_Encode.go ((y :: l).drop i) acc = some o) ∧ Aside0 (Bl W b b v acc) ∧ Aside0 (W.heap[g]? = some (.cells (cur.setIfInBounds 1 (.int .i64 y)) 3 (0, 0))) ∧ Aside0 (Below w.heap.size w W)) (fun v31 _ => l.length + 2 - (intOf v31).toNat)
   case atStart => exact ⟨0, _, [], rfl, by omega, HO, HBL, HG3, HB3⟩
   case round =>
    clear HO HBL HG3 HB3
    obtain ⟨i, v, acc, rfl, hi, HA, HBL, HG3, HB3⟩ := hrel
    by_cases hlt : i < l.length + 1
    ·obtain ⟨n, hn⟩ : ∃ n, (y :: l)[i]? = some n := ⟨_, List.getElem?_eq_getElem (by simpa using hlt)⟩
     have hd : (y :: l).drop i = n :: (y :: l).drop (i + 1) := by
      obtain ⟨h1, h2⟩ := List.getElem?_eq_some_iff.1 hn
      rw [← h2]
      exact List.drop_eq_getElem_cons h1
     have ha := HA.out
     rw [hd] at ha
     unfold oid_Encode.go at ha
     obtain ⟨⟨s1, c1⟩, hgr, ha⟩ := Option.bind_eq_some_iff.mp ha
     simp only at ha
     by_cases hsz : acc.length + s1.size ≤ 140737488355328
     ·rw [if_pos hsz] at ha
      have hc := (blk_cell HG3.out (1 + i)).trans (HRW.out i n hn)
      have HA2 := Aside0.mk ha
      have HGR := Aside0.mk hgr
      have HSZ := Aside0.mk hsz
      have HLT := Aside0.mk hlt
      have q1 := eq_true (show i < l.length + 1 from hlt)
      have q2 := eq_true (show (i : Int) < (l.length : Int) + 1 by omega)
      have q3 : decide ((i : Int) < (l.length : Int) + 1) = true := decide_eq_true (by omega)
      clear HA hd hn ha hgr hsz hlt hi
      go_wp2_with fail
      refine (octet_Groups.calls n s1 c1 _ HGR.out).mono ?_
      rintro e w3 ⟨rfl, hb3⟩
      have HBL3 := Aside0.mk (HBL.out.keep hb3)
      have HG4 := Aside0.mk (show w3.heap[g]? = some (.cells (cur.setIfInBounds 1 (.int .i64 y)) 3 (0, 0)) from (Mv.heap (Mv.of_below (S := fun _ => False) hb3) HG3.out id))
      have HB4 := Aside0.mk (Below.trans HB3.out (Below.mono hb3 HB3.out.size))
      have AW := Aside0.mk (HBL3.out.write s1 HSZ.out)
      clear hb3 HBL HG3 HB3 hc
      go_wp2_with fail
      refine AW.out.mono ?_
      rintro e w5 ⟨rfl, v5, hbl5, ho5, hm5⟩
      have HBL5 := Aside0.mk hbl5
      have HG5 := Aside0.mk (show w5.heap[g]? = some (.cells (cur.setIfInBounds 1 (.int .i64 y)) 3 (0, 0)) from (hm5.heap HG4.out (fun h => by
       rcases h with h | h
       ·have := HGB2.out; omega
       ·have := (World.ownsRow.lt HBL3.out.row g h).1; have := HGB2.out; omega)))
      have HB5 := Aside0.mk (Below.trans HB4.out (Mv.below hm5 HB4.out.size (fun q h => by
       rcases h with h | h
       ·have := HBB.out; omega
       ·have := (World.ownsRow.lt HBL3.out.row q h).1; have := HBB.out; omega)))
      clear hbl5 ho5 hm5 AW HBL3 HG4 HB4
      have q5 : i ≤ 9223372036854775805 := by have := HLB.out; have := HLT.out; unfold maxLen at *; omega
      go_wp2
      go_roundw
      case rel => exact ⟨i + 1, v5, _, by go_num, by have := HLT.out; omega, HA2, HBL5, HG5, HB5⟩
      case measure => have := HLT.out; simp only [intOf]; omega
     ·rw [if_neg hsz] at ha
      exact absurd ha (by simp)
    ·have hd : (y :: l).drop i = [] := List.drop_eq_nil_of_le (by simp; omega)
     have ha := HA.out
     rw [hd] at ha
     unfold oid_Encode.go at ha
     injection ha with ha
     subst ha
     have q1 := eq_false (show ¬ i < l.length + 1 from hlt)
     have q2 := eq_false (show ¬ (i : Int) < (l.length : Int) + 1 by omega)
     have q3 : decide ((i : Int) < (l.length : Int) + 1) = false := decide_eq_false (by omega)
     have AS := Aside0.mk HBL.out.string
     clear HA hd hlt hi
     go_wp2_with fail
     refine AS.out.mono ?_
     rintro e w5 ⟨rfl, hm5⟩
     have HB5 := Aside0.mk (Below.trans HB3.out (Mv.below hm5 HB3.out.size (fun q h => by
      have := (World.ownsRow.lt HBL.out.row q h).1; have := HBB.out; omega)))
     clear hm5 AS
     go_wp2
     go_ret2
     exact ⟨rfl, HB5.out⟩
  | [], h, _ => exact absurd h (by simp)
  | [_], h, _ => exact absurd h (by simp)
 ·rw [if_neg hc] at h
  simp only [Option.some.injEq, Prod.mk.injEq] at h
  obtain ⟨rfl, rfl⟩ := h
  have e1 : (c != 0) = true := bne_iff_ne.mpr hc
  clear hc
  go_wp2_with fail
  refine AA.out.mono ?_
  rintro e w1 ⟨v1, rfl, hr1, hb1⟩
  have HB1 := Aside0.mk hb1
  clear hr1 hb1
  go_wp2
  go_ret2
  exact ⟨rfl, HB1.out⟩
end Go.Proofs.YtfgdnnbhlnbojaaGreatDoor.XPdR
