-- Laid by extprint.py (the session's own driver): functions told by the kit's printer and by hand.
import Derived.Test.YtfgdnnbhlnbojaaGreatDoorXPdRx0
import Derived.Test.YtfgdnnbhlnbojaaGreatDoorXPdRx3
import Derived.Test.YtfgdnnbhlnbojaaGreatDoorXPdRx4
namespace Go.Proofs.YtfgdnnbhlnbojaaGreatDoor.XPdR
open Go.RowKit Gong Go.Proofs.YtfgdnnbhlnbojaaGreatDoorW.PrintWords Go.Proofs.YtfgdnnbhlnbojaaGreatDoorW.PrintLast Go.Proofs.YtfgdnnbhlnbojaaGreatDoorW.PrintMore
attribute [local go_sem] max2_int min2_int max_two min_two max_three min_three max_four min_four   -- for this text's walks alone
set_option linter.unusedVariables false
set_option linter.unusedSimpArgs false
mutual
def pdu_Check.j0 : Nat → Bool → Int → Int → Int → Int → List (S30) → Option (Int)
 | 0, _, _, _, _, _, _ => none
 | k + 1, x3, x132000, x132001, x132002, x132003, x132004 => if x3 = true then ((pdu_within.f x132001 (-2147483648)).bind fun t132 => (if t132 = true then ((pdu_within.f x132002 0).bind fun t133 => (if t133 = true then ((pdu_within.f x132003 0).bind fun t134 => (if t134 = true then (pdu_Check.j1 k (decide ((x132004.length : Int) > 4096)) x132000 x132001 x132002 x132003 x132004) else (pdu_Check.j1 k true x132000 x132001 x132002 x132003 x132004))) else (pdu_Check.j1 k true x132000 x132001 x132002 x132003 x132004))) else (pdu_Check.j1 k true x132000 x132001 x132002 x132003 x132004))) else (pdu_Check.j1 k true x132000 x132001 x132002 x132003 x132004)
def pdu_Check.j1 : Nat → Bool → Int → Int → Int → Int → List (S30) → Option (Int)
 | 0, _, _, _, _, _, _ => none
 | k + 1, x44, x132000, x132001, x132002, x132003, x132004 => if x44 = true then (some 80) else (pdu_Check.l0 k x132004 (x132004.length : Int) 0)
def pdu_Check.l0 : Nat → List (S30) → Int → Int → Option (Int)
 | 0, _, _, _ => none
 | k + 1, x46, x47, x48 => if x48 < x47 then (if 0 ≤ x48 then (if x48 < (x46.length : Int) then ((pdu_isBind.f k ((rd_T30 x46 x48).f0) ((rd_T30 x46 x48).f1.f0) ((rd_T30 x46 x48).f1.f1) ((rd_T30 x46 x48).f1.f2)).bind fun t137 => (if t137 = true then (pdu_Check.l0 k x46 x47 (wrap64 (x48 + 1))) else (some 80))) else (none)) else (none)) else (some 0)
end
def pdu_Check.f (k : Nat) (a0_0 : Int) (a0_1 : Int) (a0_2 : Int) (a0_3 : Int) (l0_4 : List (S30)) : Option (Int) := if a0_0 = 162 then (pdu_Check.j0 k true a0_0 a0_1 a0_2 a0_3 l0_4) else (if a0_0 = 166 then (pdu_Check.j0 k true a0_0 a0_1 a0_2 a0_3 l0_4) else (pdu_Check.j0 k (a0_0 == 167) a0_0 a0_1 a0_2 a0_3 l0_4))
set_option maxHeartbeats 8000000 in
set_option maxRecDepth 100000 in
theorem pdu_Check.calls (k : Nat) (a0_0 : Int) (a0_1 : Int) (a0_2 : Int) (a0_3 : Int) (A0_4 : Option Addr) (c0_4 : Nat) (l0_4 : List (S30)) (r : Int) (w : World) (hG : Gl w) (hr0_4 : Kd.C k30 w A0_4 l0_4.length l0_4) (hc0_4 : l0_4.length ≤ c0_4) (h : pdu_Check.f k a0_0 a0_1 a0_2 a0_3 l0_4 = some r) :
  Calls Tryz.prog 13 #[.agg #[.int .i64 a0_0, .int .i64 a0_1, .int .i64 a0_2, .int .i64 a0_3, .slice A0_4 l0_4.length c0_4]] w fun e w' => e = .returned (.int .i64 r) ∧ Below w.heap.size w w' := by
 have HGl := Aside0.mk hG
 clear hG
 have hu24 := Tryz.underlying24
 have hu30 := Tryz.underlying30
 have HR0_4 := Aside0.mk hr0_4
 have HC0_4 := Aside0.mk hc0_4
 clear hr0_4 hc0_4
 have HB := Aside0.mk (Below.refl w.heap.size w)
 have H : (if a0_0 = 162 then (pdu_Check.j0 k true a0_0 a0_1 a0_2 a0_3 l0_4) else (if a0_0 = 166 then (pdu_Check.j0 k true a0_0 a0_1 a0_2 a0_3 l0_4) else (pdu_Check.j0 k (a0_0 == 167) a0_0 a0_1 a0_2 a0_3 l0_4))) = some r := h
 clear h
 have HC2 := Aside0.mk H
 clear H
 go_enter Tryz.func13, Tryz.ntmps13
 go_upto_region 1 with (first | ((with_reducible refine gate_dst (N := 1) rfl ?_); (try (refine gate_guard (by rfl) ?_; dsimp only)); refine box_event ?hg (N := 1) ?hd (cs := #[.int .i64 a0_0, .int .i64 a0_1, .int .i64 a0_2, .int .i64 a0_3, .slice A0_4 l0_4.length c0_4]) (t := 24) ?hr ?_; (case hd => rfl); (case hg => rfl); (case hr => exact Zq2); intro gb131 hg w3 hbox hb; have BK131 := Aside0.mk (hbox); have GW131 := Aside0.mk ((by rw [hg]; exact (below_size Zq12) : w.heap.size ≤ gb131)); have GE131 := Aside0.mk ((by rw [hg]; exact (below_size Zq12) : w.heap.size ≤ gb131)); replace HB := Aside0.mk (below_step Zq12 hb); clear hb hbox hg))
 (try simp only [Act.put, List.setIfInBounds_toArray, List.set_cons_zero, List.set_cons_succ])
 go_cut [3] (fun v3 wc => ∃ (kq : Nat) (x3_1 : Bool), v3 = .bool x3_1 ∧ Aside0 (pdu_Check.j0 kq x3_1 a0_0 a0_1 a0_2 a0_3 l0_4 = some r) ∧ Aside0 (kq ≤ k) ∧ Aside0 (wc.heap[gb131]? = some (.cells #[.int .i64 a0_0, .int .i64 a0_1, .int .i64 a0_2, .int .i64 a0_3, (.slice A0_4 l0_4.length c0_4)] 24 (0, 0))) ∧ Aside0 (Below w.heap.size w wc))
 case first =>
  have H := HC2.out
  clear HC2
  by_cases c4 : a0_0 = 162
  ·rw [if_pos c4] at H
   have c4b0 : (a0_0 == 162) = true := beq_iff_eq.mpr c4
   have c4b1 : (a0_0 != 162) = false := bne_eq_false_iff_eq.mpr c4
   clear c4
   (first | rw [c4b0] | (simp only [i64_w, i32_w]; rw [c4b0]) | skip)
   have H' := Aside0.mk H
   clear H
   obtain ⟨hcz5_0, hcz5_1, hcz5_2, hcz5_3, hcz5_4⟩ := cells5_ BK131.out
   obtain ⟨hfz5_0, hfz5_1, hfz5_2, hfz5_3, hfz5_4⟩ := frozen5_ BK131.out
   go_wp2
   go_meet
   case rel => exact ⟨_, (true), Zq11, H', ⟨Zy61⟩, ⟨Zy51⟩, ⟨Zy30⟩⟩
  ·rw [if_neg c4] at H
   have c4b0 : (a0_0 == 162) = false := beq_eq_false_iff_ne.mpr c4
   have c4b1 : (a0_0 != 162) = true := bne_iff_ne.mpr c4
   (first | rw [c4b0] | (simp only [i64_w, i32_w]; rw [c4b0]) | skip)
   by_cases c6 : a0_0 = 166
   ·rw [if_pos c6] at H
    have c6b0 : (a0_0 == 166) = true := beq_iff_eq.mpr c6
    have c6b1 : (a0_0 != 166) = false := bne_eq_false_iff_eq.mpr c6
    clear c6
    have H' := Aside0.mk H
    clear H
    obtain ⟨hcz7_0, hcz7_1, hcz7_2, hcz7_3, hcz7_4⟩ := cells5_ BK131.out
    obtain ⟨hfz7_0, hfz7_1, hfz7_2, hfz7_3, hfz7_4⟩ := frozen5_ BK131.out
    go_wp2
    go_meet
    case rel => exact ⟨_, (true), Zq11, H', ⟨Zy61⟩, ⟨Zy51⟩, ⟨Zy30⟩⟩
   ·rw [if_neg c6] at H
    have c6b0 : (a0_0 == 166) = false := beq_eq_false_iff_ne.mpr c6
    have c6b1 : (a0_0 != 166) = true := bne_iff_ne.mpr c6
    have H' := Aside0.mk H
    clear H
    obtain ⟨hcz8_0, hcz8_1, hcz8_2, hcz8_3, hcz8_4⟩ := cells5_ BK131.out
    obtain ⟨hfz8_0, hfz8_1, hfz8_2, hfz8_3, hfz8_4⟩ := frozen5_ BK131.out
    go_wp2
    go_meet
    case rel => exact ⟨_, ((a0_0 == 167)), Zq11, H', ⟨Zy61⟩, ⟨Zy51⟩, ⟨Zy30⟩⟩
 case rest =>
  clear HC2
  (try clear c1); (try clear p2); (try clear c4); (try clear c4b0); (try clear c4b1); (try clear c6); (try clear c6b0); (try clear c6b1); (try clear hcz5_0); (try clear hcz5_1); (try clear hcz5_2); (try clear hcz5_3); (try clear hcz5_4); (try clear hcz7_0); (try clear hcz7_1); (try clear hcz7_2); (try clear hcz7_3); (try clear hcz7_4); (try clear hcz8_0); (try clear hcz8_1); (try clear hcz8_2); (try clear hcz8_3); (try clear hcz8_4); (try clear hfz5_0); (try clear hfz5_1); (try clear hfz5_2); (try clear hfz5_3); (try clear hfz5_4); (try clear hfz7_0); (try clear hfz7_1); (try clear hfz7_2); (try clear hfz7_3); (try clear hfz7_4); (try clear hfz8_0); (try clear hfz8_1); (try clear hfz8_2); (try clear hfz8_3); (try clear hfz8_4)
  obtain ⟨kq, x3_1, rfl, HA, HJ1, BK131, HB⟩ := hcut
  cases kq with
  | zero => exact absurd HA.out (by simp [pdu_Check.j0])
  | succ kj1 =>
   have H := HA.out
   clear HA
   simp only [pdu_Check.j0] at H
   have HC9 := Aside0.mk H
   clear H
   go_upto_region 2 with (fail)
   go_cut [44] (fun v44 wc => ∃ (kq : Nat) (x44_8 : Bool), v44 = .bool x44_8 ∧ Aside0 (pdu_Check.j1 kq x44_8 a0_0 a0_1 a0_2 a0_3 l0_4 = some r) ∧ Aside0 (kq ≤ kj1) ∧ Aside0 (wc.heap[gb131]? = some (.cells #[.int .i64 a0_0, .int .i64 a0_1, .int .i64 a0_2, .int .i64 a0_3, (.slice A0_4 l0_4.length c0_4)] 24 (0, 0))) ∧ Aside0 (Below w.heap.size w wc))
   case first =>
    have H := HC9.out
    clear HC9
    by_cases c10 : x3_1 = true
    ·subst c10
     have H1 : ((pdu_within.f a0_1 (-2147483648)).bind fun t132 => (if t132 = true then ((pdu_within.f a0_2 0).bind fun t133 => (if t133 = true then ((pdu_within.f a0_3 0).bind fun t134 => (if t134 = true then (pdu_Check.j1 kj1 (decide ((l0_4.length : Int) > 4096)) a0_0 a0_1 a0_2 a0_3 l0_4) else (pdu_Check.j1 kj1 true a0_0 a0_1 a0_2 a0_3 l0_4))) else (pdu_Check.j1 kj1 true a0_0 a0_1 a0_2 a0_3 l0_4))) else (pdu_Check.j1 kj1 true a0_0 a0_1 a0_2 a0_3 l0_4))) = some r := by rw [if_pos rfl] at H; exact H
     clear H
     have H := H1
     clear H1
     replace H := Option.bind_eq_some_iff.mp H
     obtain ⟨t132, A110, H⟩ := H
     replace H : (if t132 = true then ((pdu_within.f a0_2 0).bind fun t133 => (if t133 = true then ((pdu_within.f a0_3 0).bind fun t134 => (if t134 = true then (pdu_Check.j1 kj1 (decide ((l0_4.length : Int) > 4096)) a0_0 a0_1 a0_2 a0_3 l0_4) else (pdu_Check.j1 kj1 true a0_0 a0_1 a0_2 a0_3 l0_4))) else (pdu_Check.j1 kj1 true a0_0 a0_1 a0_2 a0_3 l0_4))) else (pdu_Check.j1 kj1 true a0_0 a0_1 a0_2 a0_3 l0_4)) = some r := H
     have A11 := Aside0.mk A110
     clear A110
     by_cases c12 : t132 = true
     ·subst c12
      have H1 : ((pdu_within.f a0_2 0).bind fun t133 => (if t133 = true then ((pdu_within.f a0_3 0).bind fun t134 => (if t134 = true then (pdu_Check.j1 kj1 (decide ((l0_4.length : Int) > 4096)) a0_0 a0_1 a0_2 a0_3 l0_4) else (pdu_Check.j1 kj1 true a0_0 a0_1 a0_2 a0_3 l0_4))) else (pdu_Check.j1 kj1 true a0_0 a0_1 a0_2 a0_3 l0_4))) = some r := by rw [if_pos rfl] at H; exact H
      clear H
      have H := H1
      clear H1
      replace H := Option.bind_eq_some_iff.mp H
      obtain ⟨t133, A130, H⟩ := H
      replace H : (if t133 = true then ((pdu_within.f a0_3 0).bind fun t134 => (if t134 = true then (pdu_Check.j1 kj1 (decide ((l0_4.length : Int) > 4096)) a0_0 a0_1 a0_2 a0_3 l0_4) else (pdu_Check.j1 kj1 true a0_0 a0_1 a0_2 a0_3 l0_4))) else (pdu_Check.j1 kj1 true a0_0 a0_1 a0_2 a0_3 l0_4)) = some r := H
      have A13 := Aside0.mk A130
      clear A130
      by_cases c14 : t133 = true
      ·subst c14
       have H1 : ((pdu_within.f a0_3 0).bind fun t134 => (if t134 = true then (pdu_Check.j1 kj1 (decide ((l0_4.length : Int) > 4096)) a0_0 a0_1 a0_2 a0_3 l0_4) else (pdu_Check.j1 kj1 true a0_0 a0_1 a0_2 a0_3 l0_4))) = some r := by rw [if_pos rfl] at H; exact H
       clear H
       have H := H1
       clear H1
       replace H := Option.bind_eq_some_iff.mp H
       obtain ⟨t134, A150, H⟩ := H
       replace H : (if t134 = true then (pdu_Check.j1 kj1 (decide ((l0_4.length : Int) > 4096)) a0_0 a0_1 a0_2 a0_3 l0_4) else (pdu_Check.j1 kj1 true a0_0 a0_1 a0_2 a0_3 l0_4)) = some r := H
       have A15 := Aside0.mk A150
       clear A150
       by_cases c16 : t134 = true
       ·subst c16
        have H1 : (pdu_Check.j1 kj1 (decide ((l0_4.length : Int) > 4096)) a0_0 a0_1 a0_2 a0_3 l0_4) = some r := by rw [if_pos rfl] at H; exact H
        clear H
        have H := H1
        clear H1
        have H' := Aside0.mk H
        clear H
        obtain ⟨hcz17_0, hcz17_1, hcz17_2, hcz17_3, hcz17_4⟩ := cells5_ BK131.out
        obtain ⟨hfz17_0, hfz17_1, hfz17_2, hfz17_3, hfz17_4⟩ := frozen5_ BK131.out
        go_wp2_with (first | (go_at_call 28; (with_reducible refine (pdu_within.calls a0_1 (-2147483648) true _ A11.out).mono ?_); rintro e w' ⟨rfl, ⟨nd, rfl⟩⟩) | (go_at_call 28; (with_reducible refine (pdu_within.calls a0_2 0 true _ A13.out).mono ?_); rintro e w' ⟨rfl, ⟨nd, rfl⟩⟩) | (go_at_call 28; (with_reducible refine (pdu_within.calls a0_3 0 true _ A15.out).mono ?_); rintro e w' ⟨rfl, ⟨nd, rfl⟩⟩))
        go_meet
        case rel => exact ⟨_, (decide ((l0_4.length : Int) > 4096)), Zq11, H', ⟨Zy58⟩, ⟨Zy51⟩, ⟨Zy30⟩⟩
       ·replace c16 := Bool.eq_false_iff.mpr c16
        subst c16
        have H1 : (pdu_Check.j1 kj1 true a0_0 a0_1 a0_2 a0_3 l0_4) = some r := by rw [if_neg (show ¬ (false = true) by decide)] at H; exact H
        clear H
        have H := H1
        clear H1
        have H' := Aside0.mk H
        clear H
        obtain ⟨hcz18_0, hcz18_1, hcz18_2, hcz18_3, hcz18_4⟩ := cells5_ BK131.out
        obtain ⟨hfz18_0, hfz18_1, hfz18_2, hfz18_3, hfz18_4⟩ := frozen5_ BK131.out
        go_wp2_with (first | (go_at_call 28; (with_reducible refine (pdu_within.calls a0_1 (-2147483648) true _ A11.out).mono ?_); rintro e w' ⟨rfl, ⟨nd, rfl⟩⟩) | (go_at_call 28; (with_reducible refine (pdu_within.calls a0_2 0 true _ A13.out).mono ?_); rintro e w' ⟨rfl, ⟨nd, rfl⟩⟩) | (go_at_call 28; (with_reducible refine (pdu_within.calls a0_3 0 false _ A15.out).mono ?_); rintro e w' ⟨rfl, ⟨nd, rfl⟩⟩))
        go_meet
        case rel => exact ⟨_, (true), Zq11, H', ⟨Zy58⟩, ⟨Zy51⟩, ⟨Zy30⟩⟩
      ·replace c14 := Bool.eq_false_iff.mpr c14
       subst c14
       have H1 : (pdu_Check.j1 kj1 true a0_0 a0_1 a0_2 a0_3 l0_4) = some r := by rw [if_neg (show ¬ (false = true) by decide)] at H; exact H
       clear H
       have H := H1
       clear H1
       have H' := Aside0.mk H
       clear H
       obtain ⟨hcz19_0, hcz19_1, hcz19_2, hcz19_3, hcz19_4⟩ := cells5_ BK131.out
       obtain ⟨hfz19_0, hfz19_1, hfz19_2, hfz19_3, hfz19_4⟩ := frozen5_ BK131.out
       go_wp2_with (first | (go_at_call 28; (with_reducible refine (pdu_within.calls a0_1 (-2147483648) true _ A11.out).mono ?_); rintro e w' ⟨rfl, ⟨nd, rfl⟩⟩) | (go_at_call 28; (with_reducible refine (pdu_within.calls a0_2 0 false _ A13.out).mono ?_); rintro e w' ⟨rfl, ⟨nd, rfl⟩⟩))
       go_meet
       case rel => exact ⟨_, (true), Zq11, H', ⟨Zy58⟩, ⟨Zy51⟩, ⟨Zy30⟩⟩
     ·replace c12 := Bool.eq_false_iff.mpr c12
      subst c12
      have H1 : (pdu_Check.j1 kj1 true a0_0 a0_1 a0_2 a0_3 l0_4) = some r := by rw [if_neg (show ¬ (false = true) by decide)] at H; exact H
      clear H
      have H := H1
      clear H1
      have H' := Aside0.mk H
      clear H
      obtain ⟨hcz20_0, hcz20_1, hcz20_2, hcz20_3, hcz20_4⟩ := cells5_ BK131.out
      obtain ⟨hfz20_0, hfz20_1, hfz20_2, hfz20_3, hfz20_4⟩ := frozen5_ BK131.out
      go_wp2_with (first | (go_at_call 28; (with_reducible refine (pdu_within.calls a0_1 (-2147483648) false _ A11.out).mono ?_); rintro e w' ⟨rfl, ⟨nd, rfl⟩⟩))
      go_meet
      case rel => exact ⟨_, (true), Zq11, H', ⟨Zy58⟩, ⟨Zy51⟩, ⟨Zy30⟩⟩
    ·replace c10 := Bool.eq_false_iff.mpr c10
     subst c10
     have H1 : (pdu_Check.j1 kj1 true a0_0 a0_1 a0_2 a0_3 l0_4) = some r := by rw [if_neg (show ¬ (false = true) by decide)] at H; exact H
     clear H
     have H := H1
     clear H1
     have H' := Aside0.mk H
     clear H
     go_wp2
     go_meet
     case rel => exact ⟨_, (true), Zq11, H', ⟨Zy58⟩, ⟨Zy51⟩, ⟨Zy30⟩⟩
   case rest =>
    clear HC9
    (try clear c1); (try clear p2); (try clear c4); (try clear c4b0); (try clear c4b1); (try clear c6); (try clear c6b0); (try clear c6b1); (try clear c10); (try clear c12); (try clear c13); (try clear c14); (try clear c16); (try clear hcz17_0); (try clear hcz17_1); (try clear hcz17_2); (try clear hcz17_3); (try clear hcz17_4); (try clear hcz18_0); (try clear hcz18_1); (try clear hcz18_2); (try clear hcz18_3); (try clear hcz18_4); (try clear hcz19_0); (try clear hcz19_1); (try clear hcz19_2); (try clear hcz19_3); (try clear hcz19_4); (try clear hcz20_0); (try clear hcz20_1); (try clear hcz20_2); (try clear hcz20_3); (try clear hcz20_4); (try clear hcz5_0); (try clear hcz5_1); (try clear hcz5_2); (try clear hcz5_3); (try clear hcz5_4); (try clear hcz7_0); (try clear hcz7_1); (try clear hcz7_2); (try clear hcz7_3); (try clear hcz7_4); (try clear hcz8_0); (try clear hcz8_1); (try clear hcz8_2); (try clear hcz8_3); (try clear hcz8_4); (try clear hfz17_0); (try clear hfz17_1); (try clear hfz17_2); (try clear hfz17_3); (try clear hfz17_4); (try clear hfz18_0); (try clear hfz18_1); (try clear hfz18_2); (try clear hfz18_3); (try clear hfz18_4); (try clear hfz19_0); (try clear hfz19_1); (try clear hfz19_2); (try clear hfz19_3); (try clear hfz19_4); (try clear hfz20_0); (try clear hfz20_1); (try clear hfz20_2); (try clear hfz20_3); (try clear hfz20_4); (try clear hfz5_0); (try clear hfz5_1); (try clear hfz5_2); (try clear hfz5_3); (try clear hfz5_4); (try clear hfz7_0); (try clear hfz7_1); (try clear hfz7_2); (try clear hfz7_3); (try clear hfz7_4); (try clear hfz8_0); (try clear hfz8_1); (try clear hfz8_2); (try clear hfz8_3); (try clear hfz8_4)
    obtain ⟨kq, x44_8, rfl, HA, HJ8, BK131, HB⟩ := hcut
    cases kq with
    | zero => exact absurd HA.out (by simp [pdu_Check.j1])
    | succ kj8 =>
     have H := HA.out
     clear HA
     simp only [pdu_Check.j1] at H
     by_cases c21 : x44_8 = true
     ·subst c21
      have H1 : (some 80) = some r := by rw [if_pos rfl] at H; exact H
      clear H
      have H := H1
      clear H1
      obtain rfl := Option.some.inj H
      go_wp2
      go_ret
      exact ⟨Zy41, Zy30⟩
     ·replace c21 := Bool.eq_false_iff.mpr c21
      subst c21
      have H1 : (pdu_Check.l0 kj8 l0_4 (l0_4.length : Int) 0) = some r := by rw [if_neg (show ¬ (false = true) by decide)] at H; exact H
      clear H
      have H := H1
      clear H1
      have H' := Aside0.mk H
      clear H
      obtain ⟨hcz22_0, hcz22_1, hcz22_2, hcz22_3, hcz22_4⟩ := cells5_ BK131.out
      obtain ⟨hfz22_0, hfz22_1, hfz22_2, hfz22_3, hfz22_4⟩ := frozen5_ BK131.out
      go_wp2
      go_loopg [48] kj8 (fun kq v48 w' => ∃ (x48_3 : Int), v48 = .int .i64 x48_3 ∧ Aside0 (pdu_Check.l0 kq l0_4 (l0_4.length : Int) x48_3 = some r) ∧ Aside0 (kq ≤ kj8) ∧ Aside0 (w'.heap[gb131]? = some (.cells #[.int .i64 a0_0, .int .i64 a0_1, .int .i64 a0_2, .int .i64 a0_3, (.slice A0_4 l0_4.length c0_4)] 24 (0, 0))) ∧ Aside0 (Below w.heap.size w w'))
      case atStart => exact ⟨(0), Zq11, H', ⟨Nat.le_refl _⟩, ⟨Zy51⟩, ⟨Zy30⟩⟩
      case round =>
       clear H'
       (try clear c1); (try clear c2); (try clear p2); (try clear c4); (try clear c4b0); (try clear c4b1); (try clear c6); (try clear c6b0); (try clear c6b1); (try clear c10); (try clear c12); (try clear c13); (try clear c14); (try clear c16); (try clear c21); (try clear hcz17_0); (try clear hcz17_1); (try clear hcz17_2); (try clear hcz17_3); (try clear hcz17_4); (try clear hcz18_0); (try clear hcz18_1); (try clear hcz18_2); (try clear hcz18_3); (try clear hcz18_4); (try clear hcz19_0); (try clear hcz19_1); (try clear hcz19_2); (try clear hcz19_3); (try clear hcz19_4); (try clear hcz20_0); (try clear hcz20_1); (try clear hcz20_2); (try clear hcz20_3); (try clear hcz20_4); (try clear hcz22_0); (try clear hcz22_1); (try clear hcz22_2); (try clear hcz22_3); (try clear hcz22_4); (try clear hcz5_0); (try clear hcz5_1); (try clear hcz5_2); (try clear hcz5_3); (try clear hcz5_4); (try clear hcz7_0); (try clear hcz7_1); (try clear hcz7_2); (try clear hcz7_3); (try clear hcz7_4); (try clear hcz8_0); (try clear hcz8_1); (try clear hcz8_2); (try clear hcz8_3); (try clear hcz8_4); (try clear hfz17_0); (try clear hfz17_1); (try clear hfz17_2); (try clear hfz17_3); (try clear hfz17_4); (try clear hfz18_0); (try clear hfz18_1); (try clear hfz18_2); (try clear hfz18_3); (try clear hfz18_4); (try clear hfz19_0); (try clear hfz19_1); (try clear hfz19_2); (try clear hfz19_3); (try clear hfz19_4); (try clear hfz20_0); (try clear hfz20_1); (try clear hfz20_2); (try clear hfz20_3); (try clear hfz20_4); (try clear hfz22_0); (try clear hfz22_1); (try clear hfz22_2); (try clear hfz22_3); (try clear hfz22_4); (try clear hfz5_0); (try clear hfz5_1); (try clear hfz5_2); (try clear hfz5_3); (try clear hfz5_4); (try clear hfz7_0); (try clear hfz7_1); (try clear hfz7_2); (try clear hfz7_3); (try clear hfz7_4); (try clear hfz8_0); (try clear hfz8_1); (try clear hfz8_2); (try clear hfz8_3); (try clear hfz8_4)
       obtain ⟨x48_3, rfl, HA, HK3, BK131, HB⟩ := hrel
       cases gk with
       | zero => exact absurd HA.out (by simp [pdu_Check.l0])
       | succ k3 =>
        have H := HA.out
        clear HA
        simp only [pdu_Check.l0] at H
        by_cases c23 : x48_3 < (l0_4.length : Int)
        ·rw [if_pos c23] at H
         have c23b0 : decide (x48_3 < (l0_4.length : Int)) = true := decide_eq_true c23
         clear c23
         by_cases c24 : 0 ≤ x48_3
         ·rw [if_pos c24] at H
          have c24b0 : decide (0 ≤ x48_3) = true := decide_eq_true c24
          clear c24
          by_cases c25 : x48_3 < (l0_4.length : Int)
          ·rw [if_pos c25] at H
           have c25b0 : decide (x48_3 < (l0_4.length : Int)) = true := decide_eq_true c25
           clear c25
           replace H := Option.bind_eq_some_iff.mp H
           obtain ⟨t137, A260, H⟩ := H
           replace H : (if t137 = true then (pdu_Check.l0 k3 l0_4 (l0_4.length : Int) (wrap64 (x48_3 + 1))) else (some 80)) = some r := H
           have A26 := Aside0.mk A260
           clear A260
           by_cases c27 : t137 = true
           ·subst c27
            have H1 : (pdu_Check.l0 k3 l0_4 (l0_4.length : Int) (wrap64 (x48_3 + 1))) = some r := by rw [if_pos rfl] at H; exact H
            clear H
            have H := H1
            clear H1
            have H' := Aside0.mk H
            clear H
            have p135 : 0 ≤ (x48_3 : Int) := of_decide_eq_true Zq1
            have q135 : x48_3 < (l0_4.length : Int) := of_decide_eq_true Zq1
            obtain ⟨ad135, e135, hx135_0, hx135_1, hx135_2, hx135_3⟩ := at_T30 HR0_4.out x48_3 p135 q135
            cases e135
            replace hx135_0 := (HB.out.cell (World.block_lt_of_cell? w _ hx135_0)).trans hx135_0
            replace hx135_1 := (HB.out.cell (World.block_lt_of_cell? w _ hx135_1)).trans hx135_1
            replace hx135_2 := (HB.out.cell (World.block_lt_of_cell? w _ hx135_2)).trans hx135_2
            replace hx135_3 := (HB.out.cell (World.block_lt_of_cell? w _ hx135_3)).trans hx135_3
            replace p135 := eq_true p135
            replace q135 := eq_true q135
            go_wp2_with (first | ((with_reducible refine gate_dst (N := 5) rfl ?_); (try (refine gate_guard (by rfl) ?_; dsimp only)); refine box_event ?hg (N := 5) ?hd (cs := #[.string (⟨#[]⟩ : ByteArray), .int .i64 0, .int .i64 0, .string (⟨#[]⟩ : ByteArray)]) (t := 30) ?hr ?_; (case hd => rfl); (case hg => rfl); (case hr => exact Zq2); intro gb136 hg w28 hbox hb; have BK136 := Aside0.mk (hbox); have GW136 := Aside0.mk ((by rw [hg]; exact (below_size Zq17) : w.heap.size ≤ gb136)); have GE136 := Aside0.mk ((by rw [hg]; exact (below_size Zq17) : w.heap.size ≤ gb136)); have NB131_136 := Aside0.mk ((Zq66 : gb131 ≠ gb136)); have NB136_131 := Aside0.mk ((Zq65 : gb136 ≠ gb131)); replace BK131 := Aside0.mk (blkb_ BK131.out Zq31 hb); replace HB := Aside0.mk (below_step Zq17 hb); clear hb hbox hg; have hnb29 := NB136_131.out; have hnc29 := NB131_136.out; obtain ⟨hcz30_0, hcz30_1, hcz30_2, hcz30_3⟩ := cells4_ BK136.out; obtain ⟨hfz30_0, hfz30_1, hfz30_2, hfz30_3⟩ := frozen4_ BK136.out) | ((with_reducible refine gate_callee (f := 29) rfl ?_); refine goesL_ (some 53) rfl rfl Tryz.func29 (by kernel_rfl) rfl #[.agg #[.string ((rd_T30 l0_4 x48_3).f0), .int .i64 ((rd_T30 l0_4 x48_3).f1.f0), .int .i64 ((rd_T30 l0_4 x48_3).f1.f1), .string ((rd_T30 l0_4 x48_3).f1.f2)]] rfl Zq13 ?_; (with_reducible refine (pdu_isBind.calls k3 ((rd_T30 l0_4 x48_3).f0) ((rd_T30 l0_4 x48_3).f1.f0) ((rd_T30 l0_4 x48_3).f1.f1) ((rd_T30 l0_4 x48_3).f1.f2) true _ ?side1 A26.out).mono ?_); (case side1 => exact Zq56); rintro e w31 ⟨rfl, hb⟩; refine ⟨_, rfl, ?_⟩; replace BK131 := Aside0.mk (blkb_ BK131.out Zq31 hb); replace BK136 := Aside0.mk (blk_below (g := gb136) (o := .cells #[.string ((rd_T30 l0_4 x48_3).f0), .int .i64 ((rd_T30 l0_4 x48_3).f1.f0), .int .i64 ((rd_T30 l0_4 x48_3).f1.f1), .string ((rd_T30 l0_4 x48_3).f1.f2)] 30 (0, 0)) Zq47 hb); replace HB := Aside0.mk (below_step Zq37 hb); (try clear hb); (try clear hb2); (try clear hk); (try clear hi)))
            go_roundg k3
            case measure => have := HJ1.out; have := HJ8.out; have := HK3.out; omega
            case rel => exact ⟨(wrap64 (x48_3 + 1)), Zq11, H', ⟨by have := HJ1.out; have := HJ8.out; have := HK3.out; omega⟩, ⟨Zy51⟩, ⟨Zy13⟩⟩
           ·replace c27 := Bool.eq_false_iff.mpr c27
            subst c27
            have H1 : (some 80) = some r := by rw [if_neg (show ¬ (false = true) by decide)] at H; exact H
            clear H
            have H := H1
            clear H1
            obtain rfl := Option.some.inj H
            have p135 : 0 ≤ (x48_3 : Int) := of_decide_eq_true Zq1
            have q135 : x48_3 < (l0_4.length : Int) := of_decide_eq_true Zq1
            obtain ⟨ad135, e135, hx135_0, hx135_1, hx135_2, hx135_3⟩ := at_T30 HR0_4.out x48_3 p135 q135
            cases e135
            replace hx135_0 := (HB.out.cell (World.block_lt_of_cell? w _ hx135_0)).trans hx135_0
            replace hx135_1 := (HB.out.cell (World.block_lt_of_cell? w _ hx135_1)).trans hx135_1
            replace hx135_2 := (HB.out.cell (World.block_lt_of_cell? w _ hx135_2)).trans hx135_2
            replace hx135_3 := (HB.out.cell (World.block_lt_of_cell? w _ hx135_3)).trans hx135_3
            replace p135 := eq_true p135
            replace q135 := eq_true q135
            go_wp2_with (first | ((with_reducible refine gate_dst (N := 5) rfl ?_); (try (refine gate_guard (by rfl) ?_; dsimp only)); refine box_event ?hg (N := 5) ?hd (cs := #[.string (⟨#[]⟩ : ByteArray), .int .i64 0, .int .i64 0, .string (⟨#[]⟩ : ByteArray)]) (t := 30) ?hr ?_; (case hd => rfl); (case hg => rfl); (case hr => exact Zq2); intro gb136 hg w32 hbox hb; have BK136 := Aside0.mk (hbox); have GW136 := Aside0.mk ((by rw [hg]; exact (below_size Zq17) : w.heap.size ≤ gb136)); have GE136 := Aside0.mk ((by rw [hg]; exact (below_size Zq17) : w.heap.size ≤ gb136)); have NB131_136 := Aside0.mk ((Zq66 : gb131 ≠ gb136)); have NB136_131 := Aside0.mk ((Zq65 : gb136 ≠ gb131)); replace BK131 := Aside0.mk (blkb_ BK131.out Zq31 hb); replace HB := Aside0.mk (below_step Zq17 hb); clear hb hbox hg; have hnb33 := NB136_131.out; have hnc33 := NB131_136.out; obtain ⟨hcz34_0, hcz34_1, hcz34_2, hcz34_3⟩ := cells4_ BK136.out; obtain ⟨hfz34_0, hfz34_1, hfz34_2, hfz34_3⟩ := frozen4_ BK136.out) | ((with_reducible refine gate_callee (f := 29) rfl ?_); refine goesL_ (some 53) rfl rfl Tryz.func29 (by kernel_rfl) rfl #[.agg #[.string ((rd_T30 l0_4 x48_3).f0), .int .i64 ((rd_T30 l0_4 x48_3).f1.f0), .int .i64 ((rd_T30 l0_4 x48_3).f1.f1), .string ((rd_T30 l0_4 x48_3).f1.f2)]] rfl Zq13 ?_; (with_reducible refine (pdu_isBind.calls k3 ((rd_T30 l0_4 x48_3).f0) ((rd_T30 l0_4 x48_3).f1.f0) ((rd_T30 l0_4 x48_3).f1.f1) ((rd_T30 l0_4 x48_3).f1.f2) false _ ?side1 A26.out).mono ?_); (case side1 => exact Zq56); rintro e w35 ⟨rfl, hb⟩; refine ⟨_, rfl, ?_⟩; replace BK131 := Aside0.mk (blkb_ BK131.out Zq31 hb); replace BK136 := Aside0.mk (blk_below (g := gb136) (o := .cells #[.string ((rd_T30 l0_4 x48_3).f0), .int .i64 ((rd_T30 l0_4 x48_3).f1.f0), .int .i64 ((rd_T30 l0_4 x48_3).f1.f1), .string ((rd_T30 l0_4 x48_3).f1.f2)] 30 (0, 0)) Zq47 hb); replace HB := Aside0.mk (below_step Zq37 hb); (try clear hb); (try clear hb2); (try clear hk); (try clear hi)))
            go_ret
            exact ⟨Zy41, Zy13⟩
          ·rw [if_neg c25] at H
           exact absurd H (by simp)
         ·rw [if_neg c24] at H
          exact absurd H (by simp)
        ·rw [if_neg c23] at H
         have c23b0 : decide (x48_3 < (l0_4.length : Int)) = false := decide_eq_false c23
         clear c23
         obtain rfl := Option.some.inj H
         go_wp2
         go_ret
         exact ⟨Zy41, Zy30⟩
-- NOT PRINTED: function 61 (abi_NoEscape)
theorem bld_size : (Tryz.prog.info? 55).map (fun j => (j, decide (j.size ≠ 0))) = (Tryz.prog.info? 55).map (fun j => (j, true)) := by kernel_rfl
set_option maxHeartbeats 1600000 in
set_option maxRecDepth 100000 in
theorem bld_copyCheck (b o n : Nat) (T : TypeId) (cs : Array Value) (p : Value) (w : World) (hp : p = .pointer none ∨ p = .pointer (some ⟨b, o, none⟩))
  (hb : w.heap[b]? = some (.cells cs T (0, 0))) (hn : cs.size = n) (h0 : cs[o]? = some p) (hl : liesAt Tryz.prog Tryz.prog.depth T (n / Tryz.prog.cellsOf T) o 55 1 = true) :
  Calls Tryz.prog 38 #[.pointer (some ⟨b, o, none⟩)] w fun e w' => e = .returned (.tuple #[]) ∧ w'.heap[b]? = some (.cells (cs.setIfInBounds o (.pointer (some ⟨b, o, none⟩))) T (0, 0)) ∧ Mv (fun k => k = b) w w' := by
 obtain ⟨j, hj⟩ : ∃ j, Tryz.prog.info? 55 = some j := Option.isSome_iff_exists.mp (by kernel_rfl)
 have hjs : j.size ≠ 0 := by
  have h := bld_size
  rw [hj] at h
  simpa using h
 have hc : w.cell? ⟨b, o, none⟩ = some p := (blk_cell hb o).trans h0
 have hf : w.frozen? ⟨b, o, none⟩ = false := blk_frozen hb o
 have ho : o < n := by rw [← hn]; exact (Array.getElem?_eq_some_iff.1 h0).1
 have hsh : w.shape? b = some (T, n) := by simp [World.shape?, hb, hn]
 have hI := Aside0.mk hj
 have hS := Aside0.mk hjs
 have hSH := Aside0.mk hsh
 have hB := Aside0.mk hb
 have hN := Aside0.mk hn
 have hO := Aside0.mk ho
 have hC := Aside0.mk h0
 clear hj hjs hsh hb hn ho h0
 rcases hp with rfl | rfl
 ·go_enter Tryz.func38, Tryz.ntmps38
  go_wp2
  rw [Lib.run_to_unsafe w ⟨b, o, none⟩ Tryz.underlying52 Tryz.underlying106 hI.out hS.out hSH.out hO.out]
  simp only [Result.andThen]
  rw [Oper.upon_value]
  go_wp2
  rw [run_callFunc_extern Tryz.func61 (by kernel_rfl) (by kernel_rfl) (by kernel_rfl) (e := Extern.AbiNoEscape.same) (by kernel_rfl)]
  rw [Lib.run_noEscape]
  simp only [Result.andThen]
  rw [Oper.upon_value]
  go_wp2
  rw [Lib.run_from_unsafe w ⟨b, o, none⟩ Tryz.underlying106 Tryz.underlying52 hI.out hSH.out hl]
  simp only [Result.andThen]
  rw [Oper.upon_value]
  go_wp2
  go_end0
  exact ⟨rfl, blk_set hB.out o _, Mv.setCell (S := fun k => k = b) (Mv.refl _ w) rfl o _⟩
 ·go_enter Tryz.func38, Tryz.ntmps38
  go_wp2
  rw [Lib.run_neq_ptr_same w _ Tryz.underlying52 hI.out]
  go_wp2
  go_end0
  refine ⟨rfl, ?_, Mv.refl _ w⟩
  rw [hB.out, set_same hC.out]
structure Bl (w : World) (B b : Nat) (v : Value) (l : List UInt8) : Prop where
 blk : ∃ p : Value, (p = .pointer none ∨ p = .pointer (some ⟨b, 0, none⟩)) ∧ w.heap[b]? = some (.cells #[p, v] 55 (0, 0))
 row : BRow w B 5 v l
 ge : B ≤ b
theorem Bl.ne {w : World} {B b : Nat} {v : Value} {l : List UInt8} (h : Bl w B b v l) : v.ownBlock ≠ some b := by
 obtain ⟨p, _, hb⟩ := h.blk
 exact owns_ne h.row hb (by decide)
theorem Bl.lt {w : World} {B b : Nat} {v : Value} {l : List UInt8} (h : Bl w B b v l) : b < w.heap.size := by
 obtain ⟨p, _, hb⟩ := h.blk
 exact (Array.getElem?_eq_some_iff.1 hb).1
theorem Bl.mv {w w' : World} {B b : Nat} {v : Value} {l : List UInt8} {S : Nat → Prop} (h : Bl w B b v l) (hm : Mv S w w') (h1 : ¬ S b) (h2 : ∀ k, v.ownBlock = some k → ¬ S k) : Bl w' B b v l := by
 obtain ⟨p, hp, hb⟩ := h.blk
 exact ⟨⟨p, hp, hm.heap hb h1⟩, h.row.mv hm h2, h.ge⟩
theorem Bl.keep {w w' : World} {B b : Nat} {v : Value} {l : List UInt8} (h : Bl w B b v l) (hb : Below w.heap.size w w') : Bl w' B b v l :=
 h.mv (Mv.of_below (S := fun _ => False) hb) id (fun _ _ => id)
theorem Bl.new (w : World) (B : Nat) (hB : B ≤ w.heap.size) : Bl (w.alloc (.cells #[.pointer none, .slice none 0 0] 55)) B w.heap.size (.slice none 0 0) [] :=
 ⟨⟨_, .inl rfl, heap_alloc_new w _⟩, BRow.nil _ _ _, hB⟩
theorem bld_u8 : (Tryz.prog.info? 5).map (fun i => (i.zero, i.size, i.bytes)) = some (some (.int .u8 0), 1, 1) := by kernel_rfl
set_option maxHeartbeats 1600000 in
set_option maxRecDepth 100000 in
theorem bld_WriteString (B b o n : Nat) (T : TypeId) (cs : Array Value) (p v : Value) (l : List UInt8) (s : ByteArray) (w : World) (hp : p = .pointer none ∨ p = .pointer (some ⟨b, o, none⟩))
  (hb : w.heap[b]? = some (.cells cs T (0, 0))) (hn : cs.size = n) (h0 : cs[o]? = some p) (h1 : cs[o + 1]? = some v) (hl : liesAt Tryz.prog Tryz.prog.depth T (n / Tryz.prog.cellsOf T) o 55 1 = true)
  (hT : 5 ≠ T) (hr : BRow w B 5 v l) (hlen : l.length + s.size ≤ 140737488355328) (hBw : B ≤ w.heap.size) :
  Calls Tryz.prog 19 #[.pointer (some ⟨b, o, none⟩), .string s] w fun e w' => e = .returned (.tuple #[.int .i64 s.size, .nilIface]) ∧ ∃ v', w'.heap[b]? = some (.cells ((cs.setIfInBounds o (.pointer (some ⟨b, o, none⟩))).setIfInBounds (o + 1) v') T (0, 0)) ∧ BRow w' B 5 v' (l ++ s.data.toList) ∧ (∀ k, v'.ownBlock = some k → v.ownBlock = some k ∨ w.heap.size ≤ k) ∧ Mv (fun k => k = b ∨ v.ownBlock = some k) w w' := by
 obtain ⟨i0, hi, hz0, hz1, hz2⟩ := info_parts bld_u8
 have hne := owns_ne hr hb hT
 have HR := Aside0.mk hr
 have HNE := Aside0.mk hne
 have H1 := Aside0.mk h1
 have HB0 := Aside0.mk (Array.getElem?_eq_some_iff.1 hb).1
 have HI := Aside0.mk hi
 have HZ0 := Aside0.mk hz0
 have HZ1 := Aside0.mk hz1
 have HZ2 := Aside0.mk hz2
 have HC := Aside0.mk (bld_copyCheck b o n T cs p w hp hb hn h0 hl)
 clear hb hn h0 hl hr hne h1 hi hz0 hz1 hz2 hp
 go_enter Tryz.func19, Tryz.ntmps19
 go_wp2_with fail
 refine HC.out.mono ?_
 rintro e w1 ⟨rfl, hb1, hm1⟩
 have hv1 : (cs.setIfInBounds o (.pointer (some ⟨b, o, none⟩)))[o + 1]? = some v := by
  rw [Array.getElem?_setIfInBounds_ne (by omega)]; exact H1.out
 have c1 := (blk_cell hb1 (o + 1)).trans hv1
 have HB1 := Aside0.mk hb1
 have HM1 := Aside0.mk hm1
 have HR1 := Aside0.mk (BRow.mv HR.out hm1 (fun k hk e => HNE.out (by rw [hk, e])))
 obtain ⟨A, c, rfl⟩ := BRow.slice HR.out
 clear hb1 hm1 hv1
 go_wp2_with (at_builtin; refine wpList_append_brow _ rfl _ _ 53 9 rfl B 5 i0 Tryz.underlying53 Tryz.underlying9 HI.out HZ0.out HZ1.out HZ2.out _ l rfl HR1.out s rfl (by omega) (by have := HM1.out.size; omega) ?_)
 intro v' w2 hr2 hg2 hk2
 have hb2 := Aside0.mk (blk_grown HB1.out hg2 (fun e => HNE.out e.symm))
 have d1 := (blk_cell hb2.out (o + 1))
 have f1 := blk_frozen hb2.out (o + 1)
 have HR2 := Aside0.mk hr2
 have HG2 := Aside0.mk hg2
 have HK2 := Aside0.mk hk2
 obtain ⟨A', c', rfl⟩ := BRow.slice hr2
 rw [Array.getElem?_setIfInBounds_ne (by omega), H1.out] at d1
 clear hr2 hg2 hk2
 go_wp2
 go_ret2
 have hlen2 : (l ++ s.data.toList).length = l.length + s.size := by simp
 rw [hlen2] at HR2 HK2
 have hmv : Mv (fun k => k = b ∨ (Value.slice A l.length c).ownBlock = some k) w w2 := (HM1.out.mono (fun k _ h => .inl h)).grown HG2.out (fun k hk _ => .inr hk)
 refine ⟨rfl, _, blk_set hb2.out (o + 1) _, ?_, ?_, Mv.setCell (S := fun k => k = b ∨ (Value.slice A l.length c).ownBlock = some k) hmv (.inl rfl) _ _⟩
 ·refine BRow.mv HR2.out (Mv.setCell (S := fun k => k = b) (Mv.refl _ w2) rfl _ _) (fun k hk e => ?_)
  rcases HK2.out k hk with h | h
  ·exact HNE.out (by rw [h, e])
  ·have := HM1.out.size
   have := HB0.out
   omega
 ·intro k hk
  rcases HK2.out k hk with h | h
  ·exact .inl h
  ·exact .inr (by have := HM1.out.size; omega)
theorem Bl.write {B b : Nat} {v : Value} {l : List UInt8} {w : World} (h : Bl w B b v l) (s : ByteArray) (hlen : l.length + s.size ≤ 140737488355328) :
  Calls Tryz.prog 19 #[.pointer (some ⟨b, 0, none⟩), .string s] w fun e w' => e = .returned (.tuple #[.int .i64 s.size, .nilIface]) ∧ ∃ v', Bl w' B b v' (l ++ s.data.toList) ∧ (∀ k, v'.ownBlock = some k → v.ownBlock = some k ∨ w.heap.size ≤ k) ∧ Mv (fun k => k = b ∨ v.ownBlock = some k) w w' := by
 obtain ⟨p, hp, hb⟩ := h.blk
 refine (bld_WriteString B b 0 2 55 #[p, v] p v l s w hp hb rfl rfl rfl (by kernel_rfl) (by decide) h.row hlen (Nat.le_of_lt (Nat.lt_of_le_of_lt h.ge h.lt))).mono ?_
 rintro e w' ⟨rfl, v', hb', hr', ho', hm'⟩
 exact ⟨rfl, v', ⟨⟨_, .inr rfl, hb'⟩, hr', h.ge⟩, ho', hm'⟩
def ber_isTag.f (a0 : Int) : Option (Bool) := if a0 ≥ 0 then (if a0 ≤ 255 then (some ((Go.bits .and .i64 a0 31) != 31)) else (some false)) else (some false)
set_option maxHeartbeats 8000000 in
set_option maxRecDepth 100000 in
theorem ber_isTag.calls (a0 : Int) (r : Bool) (w : World) (h : ber_isTag.f a0 = some r) :
  Calls Tryz.prog 66 #[.int .i64 a0] w fun e w' => e = .returned (.bool r) ∧ Drawn0 w w' := by
 have H : (if a0 ≥ 0 then (if a0 ≤ 255 then (some ((Go.bits .and .i64 a0 31) != 31)) else (some false)) else (some false)) = some r := h
 clear h
 by_cases c2 : a0 ≥ 0
 rotate_left
 ·rw [if_neg c2] at H
  have c2b0 : decide (0 ≤ a0) = false := decide_eq_false c2
  clear c2
  obtain rfl := Option.some.inj H
  go_enter Tryz.func66, Tryz.ntmps66
  go_wp2
  go_ret
  exact ⟨Zy59, Zy56⟩
 rw [if_pos c2] at H
 have c2b0 : decide (0 ≤ a0) = true := decide_eq_true c2
 clear c2
 by_cases c3 : a0 ≤ 255
 ·rw [if_pos c3] at H
  have c3b0 : decide (a0 ≤ 255) = true := decide_eq_true c3
  clear c3
  obtain rfl := Option.some.inj H
  go_enter Tryz.func66, Tryz.ntmps66
  go_wp2
  go_ret
  exact ⟨Zy59, Zy56⟩
 rw [if_neg c3] at H
 have c3b0 : decide (a0 ≤ 255) = false := decide_eq_false c3
 clear c3
 obtain rfl := Option.some.inj H
 go_enter Tryz.func66, Tryz.ntmps66
 go_wp2
 go_ret
 exact ⟨Zy59, Zy56⟩
end Go.Proofs.YtfgdnnbhlnbojaaGreatDoor.XPdR
