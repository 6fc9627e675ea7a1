-- Laid by extprint.py (the session's own driver): functions told by the kit's printer and by hand.
import Derived.Test.YtfmhghlmljlfgaaGreatDoorXTrSx0
import Derived.Test.YtfmhghlmljlfgaaGreatDoorXTrSx5
import Derived.Test.YtfmhghlmljlfgaaGreatDoorXTrSx6
namespace Go.Proofs.YtfmhghlmljlfgaaGreatDoor.XTrS
open Go.RowKit Gong Go.Proofs.YtfmhghlmljlfgaaGreatDoorW.PrintWords Go.Proofs.YtfmhghlmljlfgaaGreatDoorW.PrintLast Go.Proofs.YtfmhghlmljlfgaaGreatDoorW.PrintMore
attribute [local go_sem] max2_int min2_int max_two min_two max_three min_three max_four min_four   -- for this text's walks alone
set_option linter.unusedVariables false
set_option linter.unusedSimpArgs false
mutual
def pdu_Check.j0 : Nat → Bool → Int → Int → Int → Int → List (S40) → Option (Int)
 | 0, _, _, _, _, _, _ => none
 | k + 1, x3, x132000, x132001, x132002, x132003, x132004 => if x3 = true then ((pdu_within.f x132001 (-2147483648)).bind fun t132 => (if t132 = true then ((pdu_within.f x132002 0).bind fun t133 => (if t133 = true then ((pdu_within.f x132003 0).bind fun t134 => (if t134 = true then (pdu_Check.j1 k (decide ((x132004.length : Int) > 4096)) x132000 x132001 x132002 x132003 x132004) else (pdu_Check.j1 k true x132000 x132001 x132002 x132003 x132004))) else (pdu_Check.j1 k true x132000 x132001 x132002 x132003 x132004))) else (pdu_Check.j1 k true x132000 x132001 x132002 x132003 x132004))) else (pdu_Check.j1 k true x132000 x132001 x132002 x132003 x132004)
def pdu_Check.j1 : Nat → Bool → Int → Int → Int → Int → List (S40) → Option (Int)
 | 0, _, _, _, _, _, _ => none
 | k + 1, x44, x132000, x132001, x132002, x132003, x132004 => if x44 = true then (some 80) else (pdu_Check.l0 k x132004 (x132004.length : Int) 0)
def pdu_Check.l0 : Nat → List (S40) → Int → Int → Option (Int)
 | 0, _, _, _ => none
 | k + 1, x46, x47, x48 => if x48 < x47 then (if 0 ≤ x48 then (if x48 < (x46.length : Int) then ((pdu_isBind.f k ((rd_T40 x46 x48).f0) ((rd_T40 x46 x48).f1.f0) ((rd_T40 x46 x48).f1.f1) ((rd_T40 x46 x48).f1.f2)).bind fun t137 => (if t137 = true then (pdu_Check.l0 k x46 x47 (wrap64 (x48 + 1))) else (some 80))) else (none)) else (none)) else (some 0)
end
def pdu_Check.f (k : Nat) (a0_0 : Int) (a0_1 : Int) (a0_2 : Int) (a0_3 : Int) (l0_4 : List (S40)) : Option (Int) := if a0_0 = 162 then (pdu_Check.j0 k true a0_0 a0_1 a0_2 a0_3 l0_4) else (if a0_0 = 166 then (pdu_Check.j0 k true a0_0 a0_1 a0_2 a0_3 l0_4) else (pdu_Check.j0 k (a0_0 == 167) a0_0 a0_1 a0_2 a0_3 l0_4))
set_option maxHeartbeats 8000000 in
set_option maxRecDepth 100000 in
theorem pdu_Check.calls (k : Nat) (a0_0 : Int) (a0_1 : Int) (a0_2 : Int) (a0_3 : Int) (A0_4 : Option Addr) (c0_4 : Nat) (l0_4 : List (S40)) (r : Int) (w : World) (hG : Gl w) (hr0_4 : Kd.C k40 w A0_4 l0_4.length l0_4) (hc0_4 : l0_4.length ≤ c0_4) (h : pdu_Check.f k a0_0 a0_1 a0_2 a0_3 l0_4 = some r) :
  Calls Tryz.prog 18 #[.agg #[.int .i64 a0_0, .int .i64 a0_1, .int .i64 a0_2, .int .i64 a0_3, .slice A0_4 l0_4.length c0_4]] w fun e w' => e = .returned (.int .i64 r) ∧ Below w.heap.size w w' := by
 have HGl := Aside0.mk hG
 clear hG
 have hu43 := Tryz.underlying43
 have hu40 := Tryz.underlying40
 have HR0_4 := Aside0.mk hr0_4
 have HC0_4 := Aside0.mk hc0_4
 clear hr0_4 hc0_4
 have HB := Aside0.mk (Below.refl w.heap.size w)
 have H : (if a0_0 = 162 then (pdu_Check.j0 k true a0_0 a0_1 a0_2 a0_3 l0_4) else (if a0_0 = 166 then (pdu_Check.j0 k true a0_0 a0_1 a0_2 a0_3 l0_4) else (pdu_Check.j0 k (a0_0 == 167) a0_0 a0_1 a0_2 a0_3 l0_4))) = some r := h
 clear h
 have HC2 := Aside0.mk H
 clear H
 go_enter Tryz.func18, Tryz.ntmps18
 go_upto_region 1 with (first | ((with_reducible refine gate_dst (N := 1) rfl ?_); (try (refine gate_guard (by rfl) ?_; dsimp only)); refine box_event ?hg (N := 1) ?hd (cs := #[.int .i64 a0_0, .int .i64 a0_1, .int .i64 a0_2, .int .i64 a0_3, .slice A0_4 l0_4.length c0_4]) (t := 43) ?hr ?_; (case hd => rfl); (case hg => rfl); (case hr => exact Zq2); intro gb131 hg w3 hbox hb; have BK131 := Aside0.mk (hbox); have GW131 := Aside0.mk ((by rw [hg]; exact (below_size Zq13) : w.heap.size ≤ gb131)); have GE131 := Aside0.mk ((by rw [hg]; exact (below_size Zq13) : w.heap.size ≤ gb131)); replace HB := Aside0.mk (below_step Zq13 hb); clear hb hbox hg))
 (try simp only [Act.put, List.setIfInBounds_toArray, List.set_cons_zero, List.set_cons_succ])
 go_cut [3] (fun v3 wc => ∃ (kq : Nat) (x3_1 : Bool), v3 = .bool x3_1 ∧ Aside0 (pdu_Check.j0 kq x3_1 a0_0 a0_1 a0_2 a0_3 l0_4 = some r) ∧ Aside0 (kq ≤ k) ∧ Aside0 (wc.heap[gb131]? = some (.cells #[.int .i64 a0_0, .int .i64 a0_1, .int .i64 a0_2, .int .i64 a0_3, (.slice A0_4 l0_4.length c0_4)] 43 (0, 0))) ∧ Aside0 (Below w.heap.size w wc))
 case first =>
  have H := HC2.out
  clear HC2
  by_cases c4 : a0_0 = 162
  ·rw [if_pos c4] at H
   have c4b0 : (a0_0 == 162) = true := beq_iff_eq.mpr c4
   have c4b1 : (a0_0 != 162) = false := bne_eq_false_iff_eq.mpr c4
   clear c4
   (first | rw [c4b0] | (simp only [i64_w, i32_w]; rw [c4b0]) | skip)
   have H' := Aside0.mk H
   clear H
   obtain ⟨hcz5_0, hcz5_1, hcz5_2, hcz5_3, hcz5_4⟩ := cells5_ BK131.out
   obtain ⟨hfz5_0, hfz5_1, hfz5_2, hfz5_3, hfz5_4⟩ := frozen5_ BK131.out
   go_wp2
   go_meet
   case rel => exact ⟨_, (true), Zq12, H', ⟨Zy76⟩, ⟨Zy63⟩, ⟨Zy39⟩⟩
  ·rw [if_neg c4] at H
   have c4b0 : (a0_0 == 162) = false := beq_eq_false_iff_ne.mpr c4
   have c4b1 : (a0_0 != 162) = true := bne_iff_ne.mpr c4
   (first | rw [c4b0] | (simp only [i64_w, i32_w]; rw [c4b0]) | skip)
   by_cases c6 : a0_0 = 166
   ·rw [if_pos c6] at H
    have c6b0 : (a0_0 == 166) = true := beq_iff_eq.mpr c6
    have c6b1 : (a0_0 != 166) = false := bne_eq_false_iff_eq.mpr c6
    clear c6
    have H' := Aside0.mk H
    clear H
    obtain ⟨hcz7_0, hcz7_1, hcz7_2, hcz7_3, hcz7_4⟩ := cells5_ BK131.out
    obtain ⟨hfz7_0, hfz7_1, hfz7_2, hfz7_3, hfz7_4⟩ := frozen5_ BK131.out
    go_wp2
    go_meet
    case rel => exact ⟨_, (true), Zq12, H', ⟨Zy76⟩, ⟨Zy63⟩, ⟨Zy39⟩⟩
   ·rw [if_neg c6] at H
    have c6b0 : (a0_0 == 166) = false := beq_eq_false_iff_ne.mpr c6
    have c6b1 : (a0_0 != 166) = true := bne_iff_ne.mpr c6
    have H' := Aside0.mk H
    clear H
    obtain ⟨hcz8_0, hcz8_1, hcz8_2, hcz8_3, hcz8_4⟩ := cells5_ BK131.out
    obtain ⟨hfz8_0, hfz8_1, hfz8_2, hfz8_3, hfz8_4⟩ := frozen5_ BK131.out
    go_wp2
    go_meet
    case rel => exact ⟨_, ((a0_0 == 167)), Zq12, H', ⟨Zy76⟩, ⟨Zy63⟩, ⟨Zy39⟩⟩
 case rest =>
  clear HC2
  (try clear c1); (try clear p2); (try clear c4); (try clear c4b0); (try clear c4b1); (try clear c6); (try clear c6b0); (try clear c6b1); (try clear hcz5_0); (try clear hcz5_1); (try clear hcz5_2); (try clear hcz5_3); (try clear hcz5_4); (try clear hcz7_0); (try clear hcz7_1); (try clear hcz7_2); (try clear hcz7_3); (try clear hcz7_4); (try clear hcz8_0); (try clear hcz8_1); (try clear hcz8_2); (try clear hcz8_3); (try clear hcz8_4); (try clear hfz5_0); (try clear hfz5_1); (try clear hfz5_2); (try clear hfz5_3); (try clear hfz5_4); (try clear hfz7_0); (try clear hfz7_1); (try clear hfz7_2); (try clear hfz7_3); (try clear hfz7_4); (try clear hfz8_0); (try clear hfz8_1); (try clear hfz8_2); (try clear hfz8_3); (try clear hfz8_4)
  obtain ⟨kq, x3_1, rfl, HA, HJ1, BK131, HB⟩ := hcut
  cases kq with
  | zero => exact absurd HA.out (by simp [pdu_Check.j0])
  | succ kj1 =>
   have H := HA.out
   clear HA
   simp only [pdu_Check.j0] at H
   have HC9 := Aside0.mk H
   clear H
   go_upto_region 2 with (fail)
   go_cut [44] (fun v44 wc => ∃ (kq : Nat) (x44_8 : Bool), v44 = .bool x44_8 ∧ Aside0 (pdu_Check.j1 kq x44_8 a0_0 a0_1 a0_2 a0_3 l0_4 = some r) ∧ Aside0 (kq ≤ kj1) ∧ Aside0 (wc.heap[gb131]? = some (.cells #[.int .i64 a0_0, .int .i64 a0_1, .int .i64 a0_2, .int .i64 a0_3, (.slice A0_4 l0_4.length c0_4)] 43 (0, 0))) ∧ Aside0 (Below w.heap.size w wc))
   case first =>
    have H := HC9.out
    clear HC9
    by_cases c10 : x3_1 = true
    ·subst c10
     have H1 : ((pdu_within.f a0_1 (-2147483648)).bind fun t132 => (if t132 = true then ((pdu_within.f a0_2 0).bind fun t133 => (if t133 = true then ((pdu_within.f a0_3 0).bind fun t134 => (if t134 = true then (pdu_Check.j1 kj1 (decide ((l0_4.length : Int) > 4096)) a0_0 a0_1 a0_2 a0_3 l0_4) else (pdu_Check.j1 kj1 true a0_0 a0_1 a0_2 a0_3 l0_4))) else (pdu_Check.j1 kj1 true a0_0 a0_1 a0_2 a0_3 l0_4))) else (pdu_Check.j1 kj1 true a0_0 a0_1 a0_2 a0_3 l0_4))) = some r := by rw [if_pos rfl] at H; exact H
     clear H
     have H := H1
     clear H1
     replace H := Option.bind_eq_some_iff.mp H
     obtain ⟨t132, A110, H⟩ := H
     replace H : (if t132 = true then ((pdu_within.f a0_2 0).bind fun t133 => (if t133 = true then ((pdu_within.f a0_3 0).bind fun t134 => (if t134 = true then (pdu_Check.j1 kj1 (decide ((l0_4.length : Int) > 4096)) a0_0 a0_1 a0_2 a0_3 l0_4) else (pdu_Check.j1 kj1 true a0_0 a0_1 a0_2 a0_3 l0_4))) else (pdu_Check.j1 kj1 true a0_0 a0_1 a0_2 a0_3 l0_4))) else (pdu_Check.j1 kj1 true a0_0 a0_1 a0_2 a0_3 l0_4)) = some r := H
     have A11 := Aside0.mk A110
     clear A110
     by_cases c12 : t132 = true
     ·subst c12
      have H1 : ((pdu_within.f a0_2 0).bind fun t133 => (if t133 = true then ((pdu_within.f a0_3 0).bind fun t134 => (if t134 = true then (pdu_Check.j1 kj1 (decide ((l0_4.length : Int) > 4096)) a0_0 a0_1 a0_2 a0_3 l0_4) else (pdu_Check.j1 kj1 true a0_0 a0_1 a0_2 a0_3 l0_4))) else (pdu_Check.j1 kj1 true a0_0 a0_1 a0_2 a0_3 l0_4))) = some r := by rw [if_pos rfl] at H; exact H
      clear H
      have H := H1
      clear H1
      replace H := Option.bind_eq_some_iff.mp H
      obtain ⟨t133, A130, H⟩ := H
      replace H : (if t133 = true then ((pdu_within.f a0_3 0).bind fun t134 => (if t134 = true then (pdu_Check.j1 kj1 (decide ((l0_4.length : Int) > 4096)) a0_0 a0_1 a0_2 a0_3 l0_4) else (pdu_Check.j1 kj1 true a0_0 a0_1 a0_2 a0_3 l0_4))) else (pdu_Check.j1 kj1 true a0_0 a0_1 a0_2 a0_3 l0_4)) = some r := H
      have A13 := Aside0.mk A130
      clear A130
      by_cases c14 : t133 = true
      ·subst c14
       have H1 : ((pdu_within.f a0_3 0).bind fun t134 => (if t134 = true then (pdu_Check.j1 kj1 (decide ((l0_4.length : Int) > 4096)) a0_0 a0_1 a0_2 a0_3 l0_4) else (pdu_Check.j1 kj1 true a0_0 a0_1 a0_2 a0_3 l0_4))) = some r := by rw [if_pos rfl] at H; exact H
       clear H
       have H := H1
       clear H1
       replace H := Option.bind_eq_some_iff.mp H
       obtain ⟨t134, A150, H⟩ := H
       replace H : (if t134 = true then (pdu_Check.j1 kj1 (decide ((l0_4.length : Int) > 4096)) a0_0 a0_1 a0_2 a0_3 l0_4) else (pdu_Check.j1 kj1 true a0_0 a0_1 a0_2 a0_3 l0_4)) = some r := H
       have A15 := Aside0.mk A150
       clear A150
       by_cases c16 : t134 = true
       ·subst c16
        have H1 : (pdu_Check.j1 kj1 (decide ((l0_4.length : Int) > 4096)) a0_0 a0_1 a0_2 a0_3 l0_4) = some r := by rw [if_pos rfl] at H; exact H
        clear H
        have H := H1
        clear H1
        have H' := Aside0.mk H
        clear H
        obtain ⟨hcz17_0, hcz17_1, hcz17_2, hcz17_3, hcz17_4⟩ := cells5_ BK131.out
        obtain ⟨hfz17_0, hfz17_1, hfz17_2, hfz17_3, hfz17_4⟩ := frozen5_ BK131.out
        go_wp2_with (first | (go_at_call 32; (with_reducible refine (pdu_within.calls a0_1 (-2147483648) true _ A11.out).mono ?_); rintro e w' ⟨rfl, ⟨nd, rfl⟩⟩) | (go_at_call 32; (with_reducible refine (pdu_within.calls a0_2 0 true _ A13.out).mono ?_); rintro e w' ⟨rfl, ⟨nd, rfl⟩⟩) | (go_at_call 32; (with_reducible refine (pdu_within.calls a0_3 0 true _ A15.out).mono ?_); rintro e w' ⟨rfl, ⟨nd, rfl⟩⟩))
        go_meet
        case rel => exact ⟨_, (decide ((l0_4.length : Int) > 4096)), Zq12, H', ⟨Zy73⟩, ⟨Zy63⟩, ⟨Zy39⟩⟩
       ·replace c16 := Bool.eq_false_iff.mpr c16
        subst c16
        have H1 : (pdu_Check.j1 kj1 true a0_0 a0_1 a0_2 a0_3 l0_4) = some r := by rw [if_neg (show ¬ (false = true) by decide)] at H; exact H
        clear H
        have H := H1
        clear H1
        have H' := Aside0.mk H
        clear H
        obtain ⟨hcz18_0, hcz18_1, hcz18_2, hcz18_3, hcz18_4⟩ := cells5_ BK131.out
        obtain ⟨hfz18_0, hfz18_1, hfz18_2, hfz18_3, hfz18_4⟩ := frozen5_ BK131.out
        go_wp2_with (first | (go_at_call 32; (with_reducible refine (pdu_within.calls a0_1 (-2147483648) true _ A11.out).mono ?_); rintro e w' ⟨rfl, ⟨nd, rfl⟩⟩) | (go_at_call 32; (with_reducible refine (pdu_within.calls a0_2 0 true _ A13.out).mono ?_); rintro e w' ⟨rfl, ⟨nd, rfl⟩⟩) | (go_at_call 32; (with_reducible refine (pdu_within.calls a0_3 0 false _ A15.out).mono ?_); rintro e w' ⟨rfl, ⟨nd, rfl⟩⟩))
        go_meet
        case rel => exact ⟨_, (true), Zq12, H', ⟨Zy73⟩, ⟨Zy63⟩, ⟨Zy39⟩⟩
      ·replace c14 := Bool.eq_false_iff.mpr c14
       subst c14
       have H1 : (pdu_Check.j1 kj1 true a0_0 a0_1 a0_2 a0_3 l0_4) = some r := by rw [if_neg (show ¬ (false = true) by decide)] at H; exact H
       clear H
       have H := H1
       clear H1
       have H' := Aside0.mk H
       clear H
       obtain ⟨hcz19_0, hcz19_1, hcz19_2, hcz19_3, hcz19_4⟩ := cells5_ BK131.out
       obtain ⟨hfz19_0, hfz19_1, hfz19_2, hfz19_3, hfz19_4⟩ := frozen5_ BK131.out
       go_wp2_with (first | (go_at_call 32; (with_reducible refine (pdu_within.calls a0_1 (-2147483648) true _ A11.out).mono ?_); rintro e w' ⟨rfl, ⟨nd, rfl⟩⟩) | (go_at_call 32; (with_reducible refine (pdu_within.calls a0_2 0 false _ A13.out).mono ?_); rintro e w' ⟨rfl, ⟨nd, rfl⟩⟩))
       go_meet
       case rel => exact ⟨_, (true), Zq12, H', ⟨Zy73⟩, ⟨Zy63⟩, ⟨Zy39⟩⟩
     ·replace c12 := Bool.eq_false_iff.mpr c12
      subst c12
      have H1 : (pdu_Check.j1 kj1 true a0_0 a0_1 a0_2 a0_3 l0_4) = some r := by rw [if_neg (show ¬ (false = true) by decide)] at H; exact H
      clear H
      have H := H1
      clear H1
      have H' := Aside0.mk H
      clear H
      obtain ⟨hcz20_0, hcz20_1, hcz20_2, hcz20_3, hcz20_4⟩ := cells5_ BK131.out
      obtain ⟨hfz20_0, hfz20_1, hfz20_2, hfz20_3, hfz20_4⟩ := frozen5_ BK131.out
      go_wp2_with (first | (go_at_call 32; (with_reducible refine (pdu_within.calls a0_1 (-2147483648) false _ A11.out).mono ?_); rintro e w' ⟨rfl, ⟨nd, rfl⟩⟩))
      go_meet
      case rel => exact ⟨_, (true), Zq12, H', ⟨Zy73⟩, ⟨Zy63⟩, ⟨Zy39⟩⟩
    ·replace c10 := Bool.eq_false_iff.mpr c10
     subst c10
     have H1 : (pdu_Check.j1 kj1 true a0_0 a0_1 a0_2 a0_3 l0_4) = some r := by rw [if_neg (show ¬ (false = true) by decide)] at H; exact H
     clear H
     have H := H1
     clear H1
     have H' := Aside0.mk H
     clear H
     go_wp2
     go_meet
     case rel => exact ⟨_, (true), Zq12, H', ⟨Zy73⟩, ⟨Zy63⟩, ⟨Zy39⟩⟩
   case rest =>
    clear HC9
    (try clear c1); (try clear p2); (try clear c4); (try clear c4b0); (try clear c4b1); (try clear c6); (try clear c6b0); (try clear c6b1); (try clear c10); (try clear c12); (try clear c14); (try clear c16); (try clear c18); (try clear hcz17_0); (try clear hcz17_1); (try clear hcz17_2); (try clear hcz17_3); (try clear hcz17_4); (try clear hcz18_0); (try clear hcz18_1); (try clear hcz18_2); (try clear hcz18_3); (try clear hcz18_4); (try clear hcz19_0); (try clear hcz19_1); (try clear hcz19_2); (try clear hcz19_3); (try clear hcz19_4); (try clear hcz20_0); (try clear hcz20_1); (try clear hcz20_2); (try clear hcz20_3); (try clear hcz20_4); (try clear hcz5_0); (try clear hcz5_1); (try clear hcz5_2); (try clear hcz5_3); (try clear hcz5_4); (try clear hcz7_0); (try clear hcz7_1); (try clear hcz7_2); (try clear hcz7_3); (try clear hcz7_4); (try clear hcz8_0); (try clear hcz8_1); (try clear hcz8_2); (try clear hcz8_3); (try clear hcz8_4); (try clear hfz17_0); (try clear hfz17_1); (try clear hfz17_2); (try clear hfz17_3); (try clear hfz17_4); (try clear hfz18_0); (try clear hfz18_1); (try clear hfz18_2); (try clear hfz18_3); (try clear hfz18_4); (try clear hfz19_0); (try clear hfz19_1); (try clear hfz19_2); (try clear hfz19_3); (try clear hfz19_4); (try clear hfz20_0); (try clear hfz20_1); (try clear hfz20_2); (try clear hfz20_3); (try clear hfz20_4); (try clear hfz5_0); (try clear hfz5_1); (try clear hfz5_2); (try clear hfz5_3); (try clear hfz5_4); (try clear hfz7_0); (try clear hfz7_1); (try clear hfz7_2); (try clear hfz7_3); (try clear hfz7_4); (try clear hfz8_0); (try clear hfz8_1); (try clear hfz8_2); (try clear hfz8_3); (try clear hfz8_4)
    obtain ⟨kq, x44_8, rfl, HA, HJ8, BK131, HB⟩ := hcut
    cases kq with
    | zero => exact absurd HA.out (by simp [pdu_Check.j1])
    | succ kj8 =>
     have H := HA.out
     clear HA
     simp only [pdu_Check.j1] at H
     by_cases c21 : x44_8 = true
     ·subst c21
      have H1 : (some 80) = some r := by rw [if_pos rfl] at H; exact H
      clear H
      have H := H1
      clear H1
      obtain rfl := Option.some.inj H
      go_wp2
      go_ret
      exact ⟨Zy51, Zy39⟩
     ·replace c21 := Bool.eq_false_iff.mpr c21
      subst c21
      have H1 : (pdu_Check.l0 kj8 l0_4 (l0_4.length : Int) 0) = some r := by rw [if_neg (show ¬ (false = true) by decide)] at H; exact H
      clear H
      have H := H1
      clear H1
      have H' := Aside0.mk H
      clear H
      obtain ⟨hcz22_0, hcz22_1, hcz22_2, hcz22_3, hcz22_4⟩ := cells5_ BK131.out
      obtain ⟨hfz22_0, hfz22_1, hfz22_2, hfz22_3, hfz22_4⟩ := frozen5_ BK131.out
      go_wp2
      go_loopg [48] kj8 (fun kq v48 w' => ∃ (x48_3 : Int), v48 = .int .i64 x48_3 ∧ Aside0 (pdu_Check.l0 kq l0_4 (l0_4.length : Int) x48_3 = some r) ∧ Aside0 (kq ≤ kj8) ∧ Aside0 (w'.heap[gb131]? = some (.cells #[.int .i64 a0_0, .int .i64 a0_1, .int .i64 a0_2, .int .i64 a0_3, (.slice A0_4 l0_4.length c0_4)] 43 (0, 0))) ∧ Aside0 (Below w.heap.size w w'))
      case atStart => exact ⟨(0), Zq12, H', ⟨Nat.le_refl _⟩, ⟨Zy63⟩, ⟨Zy39⟩⟩
      case round =>
       clear H'
       (try clear c1); (try clear c2); (try clear p2); (try clear c4); (try clear c4b0); (try clear c4b1); (try clear c6); (try clear c6b0); (try clear c6b1); (try clear c10); (try clear c12); (try clear c14); (try clear c16); (try clear c18); (try clear c21); (try clear hcz17_0); (try clear hcz17_1); (try clear hcz17_2); (try clear hcz17_3); (try clear hcz17_4); (try clear hcz18_0); (try clear hcz18_1); (try clear hcz18_2); (try clear hcz18_3); (try clear hcz18_4); (try clear hcz19_0); (try clear hcz19_1); (try clear hcz19_2); (try clear hcz19_3); (try clear hcz19_4); (try clear hcz20_0); (try clear hcz20_1); (try clear hcz20_2); (try clear hcz20_3); (try clear hcz20_4); (try clear hcz22_0); (try clear hcz22_1); (try clear hcz22_2); (try clear hcz22_3); (try clear hcz22_4); (try clear hcz5_0); (try clear hcz5_1); (try clear hcz5_2); (try clear hcz5_3); (try clear hcz5_4); (try clear hcz7_0); (try clear hcz7_1); (try clear hcz7_2); (try clear hcz7_3); (try clear hcz7_4); (try clear hcz8_0); (try clear hcz8_1); (try clear hcz8_2); (try clear hcz8_3); (try clear hcz8_4); (try clear hfz17_0); (try clear hfz17_1); (try clear hfz17_2); (try clear hfz17_3); (try clear hfz17_4); (try clear hfz18_0); (try clear hfz18_1); (try clear hfz18_2); (try clear hfz18_3); (try clear hfz18_4); (try clear hfz19_0); (try clear hfz19_1); (try clear hfz19_2); (try clear hfz19_3); (try clear hfz19_4); (try clear hfz20_0); (try clear hfz20_1); (try clear hfz20_2); (try clear hfz20_3); (try clear hfz20_4); (try clear hfz22_0); (try clear hfz22_1); (try clear hfz22_2); (try clear hfz22_3); (try clear hfz22_4); (try clear hfz5_0); (try clear hfz5_1); (try clear hfz5_2); (try clear hfz5_3); (try clear hfz5_4); (try clear hfz7_0); (try clear hfz7_1); (try clear hfz7_2); (try clear hfz7_3); (try clear hfz7_4); (try clear hfz8_0); (try clear hfz8_1); (try clear hfz8_2); (try clear hfz8_3); (try clear hfz8_4)
       obtain ⟨x48_3, rfl, HA, HK3, BK131, HB⟩ := hrel
       cases gk with
       | zero => exact absurd HA.out (by simp [pdu_Check.l0])
       | succ k3 =>
        have H := HA.out
        clear HA
        simp only [pdu_Check.l0] at H
        by_cases c23 : x48_3 < (l0_4.length : Int)
        ·rw [if_pos c23] at H
         have c23b0 : decide (x48_3 < (l0_4.length : Int)) = true := decide_eq_true c23
         clear c23
         by_cases c24 : 0 ≤ x48_3
         ·rw [if_pos c24] at H
          have c24b0 : decide (0 ≤ x48_3) = true := decide_eq_true c24
          clear c24
          by_cases c25 : x48_3 < (l0_4.length : Int)
          ·rw [if_pos c25] at H
           have c25b0 : decide (x48_3 < (l0_4.length : Int)) = true := decide_eq_true c25
           clear c25
           replace H := Option.bind_eq_some_iff.mp H
           obtain ⟨t137, A260, H⟩ := H
           replace H : (if t137 = true then (pdu_Check.l0 k3 l0_4 (l0_4.length : Int) (wrap64 (x48_3 + 1))) else (some 80)) = some r := H
           have A26 := Aside0.mk A260
           clear A260
           by_cases c27 : t137 = true
           ·subst c27
            have H1 : (pdu_Check.l0 k3 l0_4 (l0_4.length : Int) (wrap64 (x48_3 + 1))) = some r := by rw [if_pos rfl] at H; exact H
            clear H
            have H := H1
            clear H1
            have H' := Aside0.mk H
            clear H
            have p135 : 0 ≤ (x48_3 : Int) := of_decide_eq_true Zq1
            have q135 : x48_3 < (l0_4.length : Int) := of_decide_eq_true Zq1
            obtain ⟨ad135, e135, hx135_0, hx135_1, hx135_2, hx135_3⟩ := at_T40 HR0_4.out x48_3 p135 q135
            cases e135
            replace hx135_0 := (HB.out.cell (World.block_lt_of_cell? w _ hx135_0)).trans hx135_0
            replace hx135_1 := (HB.out.cell (World.block_lt_of_cell? w _ hx135_1)).trans hx135_1
            replace hx135_2 := (HB.out.cell (World.block_lt_of_cell? w _ hx135_2)).trans hx135_2
            replace hx135_3 := (HB.out.cell (World.block_lt_of_cell? w _ hx135_3)).trans hx135_3
            replace p135 := eq_true p135
            replace q135 := eq_true q135
            go_wp2_with (first | ((with_reducible refine gate_dst (N := 5) rfl ?_); (try (refine gate_guard (by rfl) ?_; dsimp only)); refine box_event ?hg (N := 5) ?hd (cs := #[.string (⟨#[]⟩ : ByteArray), .int .i64 0, .int .i64 0, .string (⟨#[]⟩ : ByteArray)]) (t := 40) ?hr ?_; (case hd => rfl); (case hg => rfl); (case hr => exact Zq2); intro gb136 hg w28 hbox hb; have BK136 := Aside0.mk (hbox); have GW136 := Aside0.mk ((by rw [hg]; exact (below_size Zq18) : w.heap.size ≤ gb136)); have GE136 := Aside0.mk ((by rw [hg]; exact (below_size Zq18) : w.heap.size ≤ gb136)); have NB131_136 := Aside0.mk ((Zq80 : gb131 ≠ gb136)); have NB136_131 := Aside0.mk ((Zq73 : gb136 ≠ gb131)); replace BK131 := Aside0.mk (blkb_ BK131.out Zq52 hb); replace HB := Aside0.mk (below_step Zq18 hb); clear hb hbox hg; have hnb29 := NB136_131.out; have hnc29 := NB131_136.out; obtain ⟨hcz30_0, hcz30_1, hcz30_2, hcz30_3⟩ := cells4_ BK136.out; obtain ⟨hfz30_0, hfz30_1, hfz30_2, hfz30_3⟩ := frozen4_ BK136.out) | ((with_reducible refine gate_callee (f := 33) rfl ?_); refine goesL_ (some 53) rfl rfl Tryz.func33 (by kernel_rfl) rfl #[.agg #[.string ((rd_T40 l0_4 x48_3).f0), .int .i64 ((rd_T40 l0_4 x48_3).f1.f0), .int .i64 ((rd_T40 l0_4 x48_3).f1.f1), .string ((rd_T40 l0_4 x48_3).f1.f2)]] rfl Zq14 ?_; (with_reducible refine (pdu_isBind.calls k3 ((rd_T40 l0_4 x48_3).f0) ((rd_T40 l0_4 x48_3).f1.f0) ((rd_T40 l0_4 x48_3).f1.f1) ((rd_T40 l0_4 x48_3).f1.f2) true _ ?side1 A26.out).mono ?_); (case side1 => exact Zq71); rintro e w31 ⟨rfl, hb⟩; refine ⟨_, rfl, ?_⟩; replace BK131 := Aside0.mk (blkb_ BK131.out Zq52 hb); replace BK136 := Aside0.mk (blk_below (g := gb136) (o := .cells #[.string ((rd_T40 l0_4 x48_3).f0), .int .i64 ((rd_T40 l0_4 x48_3).f1.f0), .int .i64 ((rd_T40 l0_4 x48_3).f1.f1), .string ((rd_T40 l0_4 x48_3).f1.f2)] 40 (0, 0)) Zq57 hb); replace HB := Aside0.mk (below_step Zq44 hb); (try clear hb); (try clear hb2); (try clear hk); (try clear hi)))
            go_roundg k3
            case measure => have := HJ1.out; have := HJ8.out; have := HK3.out; omega
            case rel => exact ⟨(wrap64 (x48_3 + 1)), Zq12, H', ⟨by have := HJ1.out; have := HJ8.out; have := HK3.out; omega⟩, ⟨Zy63⟩, ⟨Zy23⟩⟩
           ·replace c27 := Bool.eq_false_iff.mpr c27
            subst c27
            have H1 : (some 80) = some r := by rw [if_neg (show ¬ (false = true) by decide)] at H; exact H
            clear H
            have H := H1
            clear H1
            obtain rfl := Option.some.inj H
            have p135 : 0 ≤ (x48_3 : Int) := of_decide_eq_true Zq1
            have q135 : x48_3 < (l0_4.length : Int) := of_decide_eq_true Zq1
            obtain ⟨ad135, e135, hx135_0, hx135_1, hx135_2, hx135_3⟩ := at_T40 HR0_4.out x48_3 p135 q135
            cases e135
            replace hx135_0 := (HB.out.cell (World.block_lt_of_cell? w _ hx135_0)).trans hx135_0
            replace hx135_1 := (HB.out.cell (World.block_lt_of_cell? w _ hx135_1)).trans hx135_1
            replace hx135_2 := (HB.out.cell (World.block_lt_of_cell? w _ hx135_2)).trans hx135_2
            replace hx135_3 := (HB.out.cell (World.block_lt_of_cell? w _ hx135_3)).trans hx135_3
            replace p135 := eq_true p135
            replace q135 := eq_true q135
            go_wp2_with (first | ((with_reducible refine gate_dst (N := 5) rfl ?_); (try (refine gate_guard (by rfl) ?_; dsimp only)); refine box_event ?hg (N := 5) ?hd (cs := #[.string (⟨#[]⟩ : ByteArray), .int .i64 0, .int .i64 0, .string (⟨#[]⟩ : ByteArray)]) (t := 40) ?hr ?_; (case hd => rfl); (case hg => rfl); (case hr => exact Zq2); intro gb136 hg w32 hbox hb; have BK136 := Aside0.mk (hbox); have GW136 := Aside0.mk ((by rw [hg]; exact (below_size Zq18) : w.heap.size ≤ gb136)); have GE136 := Aside0.mk ((by rw [hg]; exact (below_size Zq18) : w.heap.size ≤ gb136)); have NB131_136 := Aside0.mk ((Zq80 : gb131 ≠ gb136)); have NB136_131 := Aside0.mk ((Zq73 : gb136 ≠ gb131)); replace BK131 := Aside0.mk (blkb_ BK131.out Zq52 hb); replace HB := Aside0.mk (below_step Zq18 hb); clear hb hbox hg; have hnb33 := NB136_131.out; have hnc33 := NB131_136.out; obtain ⟨hcz34_0, hcz34_1, hcz34_2, hcz34_3⟩ := cells4_ BK136.out; obtain ⟨hfz34_0, hfz34_1, hfz34_2, hfz34_3⟩ := frozen4_ BK136.out) | ((with_reducible refine gate_callee (f := 33) rfl ?_); refine goesL_ (some 53) rfl rfl Tryz.func33 (by kernel_rfl) rfl #[.agg #[.string ((rd_T40 l0_4 x48_3).f0), .int .i64 ((rd_T40 l0_4 x48_3).f1.f0), .int .i64 ((rd_T40 l0_4 x48_3).f1.f1), .string ((rd_T40 l0_4 x48_3).f1.f2)]] rfl Zq14 ?_; (with_reducible refine (pdu_isBind.calls k3 ((rd_T40 l0_4 x48_3).f0) ((rd_T40 l0_4 x48_3).f1.f0) ((rd_T40 l0_4 x48_3).f1.f1) ((rd_T40 l0_4 x48_3).f1.f2) false _ ?side1 A26.out).mono ?_); (case side1 => exact Zq71); rintro e w35 ⟨rfl, hb⟩; refine ⟨_, rfl, ?_⟩; replace BK131 := Aside0.mk (blkb_ BK131.out Zq52 hb); replace BK136 := Aside0.mk (blk_below (g := gb136) (o := .cells #[.string ((rd_T40 l0_4 x48_3).f0), .int .i64 ((rd_T40 l0_4 x48_3).f1.f0), .int .i64 ((rd_T40 l0_4 x48_3).f1.f1), .string ((rd_T40 l0_4 x48_3).f1.f2)] 40 (0, 0)) Zq57 hb); replace HB := Aside0.mk (below_step Zq44 hb); (try clear hb); (try clear hb2); (try clear hk); (try clear hi)))
            go_ret
            exact ⟨Zy51, Zy23⟩
          ·rw [if_neg c25] at H
           exact absurd H (by simp)
         ·rw [if_neg c24] at H
          exact absurd H (by simp)
        ·rw [if_neg c23] at H
         have c23b0 : decide (x48_3 < (l0_4.length : Int)) = false := decide_eq_false c23
         clear c23
         obtain rfl := Option.some.inj H
         go_wp2
         go_ret
         exact ⟨Zy51, Zy39⟩
def trap_Check.f (k : Nat) (a0_0 : ByteArray) (a0_1 : Bool) (a0_2 : Int) (a0_3 : Int) (a0_4 : ByteArray) (l0_5 : List (S40)) : Option (Int) := if a0_0.toList = ([] : List UInt8) then (some 90) else (if (a0_0.size : Int) > 64 then (some 90) else ((trap_unit.f a0_0 a0_1 a0_2 a0_3 a0_4 l0_5).bind fun bt139 => ((pdu_Check.f k bt139.1 bt139.2.1 bt139.2.2.1 bt139.2.2.2.1 bt139.2.2.2.2).bind fun t146 => (if t146 = 0 then (some 0) else (some 90)))))
set_option maxHeartbeats 8000000 in
set_option maxRecDepth 100000 in
theorem trap_Check.calls (k : Nat) (a0_0 : ByteArray) (a0_1 : Bool) (a0_2 : Int) (a0_3 : Int) (a0_4 : ByteArray) (A0_5 : Option Addr) (c0_5 : Nat) (l0_5 : List (S40)) (r : Int) (w : World) (hG : Gl w) (hr0_5 : Kd.C k40 w A0_5 l0_5.length l0_5) (hc0_5 : l0_5.length ≤ c0_5) (h : trap_Check.f k a0_0 a0_1 a0_2 a0_3 a0_4 l0_5 = some r) :
  Calls Tryz.prog 9 #[.agg #[.string a0_0, .bool a0_1, .int .i64 a0_2, .int .i64 a0_3, .string a0_4, .slice A0_5 l0_5.length c0_5]] w fun e w' => e = .returned (.int .i64 r) ∧ Below w.heap.size w w' := by
 have HGl := Aside0.mk hG
 clear hG
 have hu24 := Tryz.underlying24
 have HR0_5 := Aside0.mk hr0_5
 have HC0_5 := Aside0.mk hc0_5
 clear hr0_5 hc0_5
 have HB := Aside0.mk (Below.refl w.heap.size w)
 have H : (if a0_0.toList = ([] : List UInt8) then (some 90) else (if (a0_0.size : Int) > 64 then (some 90) else ((trap_unit.f a0_0 a0_1 a0_2 a0_3 a0_4 l0_5).bind fun bt139 => ((pdu_Check.f k bt139.1 bt139.2.1 bt139.2.2.1 bt139.2.2.2.1 bt139.2.2.2.2).bind fun t146 => (if t146 = 0 then (some 0) else (some 90)))))) = some r := h
 clear h
 by_cases c2 : a0_0.toList = ([] : List UInt8)
 ·rw [if_pos c2] at H
  have c2b0 : (a0_0.toList == ([] : List UInt8)) = true := beq_iff_eq.mpr c2
  have c2b1 : (a0_0.toList != ([] : List UInt8)) = false := bne_eq_false_iff_eq.mpr c2
  clear c2
  obtain rfl := Option.some.inj H
  go_enter Tryz.func9, Tryz.ntmps9
  go_wp2_with (first | ((with_reducible refine gate_dst (N := 1) rfl ?_); (try (refine gate_guard (by rfl) ?_; dsimp only)); refine box_event ?hg (N := 1) ?hd (cs := #[.string a0_0, .bool a0_1, .int .i64 a0_2, .int .i64 a0_3, .string a0_4, .slice A0_5 l0_5.length c0_5]) (t := 24) ?hr ?_; (case hd => rfl); (case hg => rfl); (case hr => exact Zq2); intro gb138 hg w3 hbox hb; have BK138 := Aside0.mk (hbox); have GW138 := Aside0.mk ((Zq67 : w.heap.size ≤ gb138)); have GE138 := Aside0.mk ((Zq67 : w.heap.size ≤ gb138)); replace HB := Aside0.mk (below_step Zq13 hb); clear hb hbox hg; obtain ⟨hcz4_0, hcz4_1, hcz4_2, hcz4_3, hcz4_4, hcz4_5⟩ := cells6_ BK138.out; obtain ⟨hfz4_0, hfz4_1, hfz4_2, hfz4_3, hfz4_4, hfz4_5⟩ := frozen6_ BK138.out))
  go_ret
  exact ⟨Zy51, Zy40⟩
 rw [if_neg c2] at H
 have c2b0 : (a0_0.toList == ([] : List UInt8)) = false := beq_eq_false_iff_ne.mpr c2
 have c2b1 : (a0_0.toList != ([] : List UInt8)) = true := bne_iff_ne.mpr c2
 by_cases c5 : (a0_0.size : Int) > 64
 ·rw [if_pos c5] at H
  have c5b0 : decide (64 < (a0_0.size : Int)) = true := decide_eq_true c5
  have c5b1 : decide (64 < a0_0.size) = true := decide_eq_true (by omega)
  clear c5
  obtain rfl := Option.some.inj H
  go_enter Tryz.func9, Tryz.ntmps9
  go_wp2_with (first | ((with_reducible refine gate_dst (N := 1) rfl ?_); (try (refine gate_guard (by rfl) ?_; dsimp only)); refine box_event ?hg (N := 1) ?hd (cs := #[.string a0_0, .bool a0_1, .int .i64 a0_2, .int .i64 a0_3, .string a0_4, .slice A0_5 l0_5.length c0_5]) (t := 24) ?hr ?_; (case hd => rfl); (case hg => rfl); (case hr => exact Zq2); intro gb138 hg w6 hbox hb; have BK138 := Aside0.mk (hbox); have GW138 := Aside0.mk ((Zq67 : w.heap.size ≤ gb138)); have GE138 := Aside0.mk ((Zq67 : w.heap.size ≤ gb138)); replace HB := Aside0.mk (below_step Zq13 hb); clear hb hbox hg; obtain ⟨hcz7_0, hcz7_1, hcz7_2, hcz7_3, hcz7_4, hcz7_5⟩ := cells6_ BK138.out; obtain ⟨hfz7_0, hfz7_1, hfz7_2, hfz7_3, hfz7_4, hfz7_5⟩ := frozen6_ BK138.out))
  go_ret
  exact ⟨Zy51, Zy40⟩
 rw [if_neg c5] at H
 have c5b0 : decide (64 < (a0_0.size : Int)) = false := decide_eq_false c5
 have c5b1 : decide (64 < a0_0.size) = false := decide_eq_false (by omega)
 clear c5
 replace H := Option.bind_eq_some_iff.mp H
 obtain ⟨⟨t139, t140, t141, t142, t143⟩, A80, H⟩ := H
 replace H : ((pdu_Check.f k t139 t140 t141 t142 t143).bind fun t146 => (if t146 = 0 then (some 0) else (some 90))) = some r := H
 have A8 := Aside0.mk A80
 clear A80
 replace H := Option.bind_eq_some_iff.mp H
 obtain ⟨t146, A90, H⟩ := H
 replace H : (if t146 = 0 then (some 0) else (some 90)) = some r := H
 have A9 := Aside0.mk A90
 clear A90
 by_cases c10 : t146 = 0
 rotate_left
 ·rw [if_neg c10] at H
  have c10b0 : (t146 == 0) = false := beq_eq_false_iff_ne.mpr c10
  have c10b1 : (t146 != 0) = true := bne_iff_ne.mpr c10
  obtain rfl := Option.some.inj H
  go_enter Tryz.func9, Tryz.ntmps9
  go_wp2_with (first | ((with_reducible refine gate_dst (N := 1) rfl ?_); (try (refine gate_guard (by rfl) ?_; dsimp only)); refine box_event ?hg (N := 1) ?hd (cs := #[.string a0_0, .bool a0_1, .int .i64 a0_2, .int .i64 a0_3, .string a0_4, .slice A0_5 l0_5.length c0_5]) (t := 24) ?hr ?_; (case hd => rfl); (case hg => rfl); (case hr => exact Zq2); intro gb138 hg w16 hbox hb; have BK138 := Aside0.mk (hbox); have GW138 := Aside0.mk ((Zq67 : w.heap.size ≤ gb138)); have GE138 := Aside0.mk ((Zq67 : w.heap.size ≤ gb138)); replace HB := Aside0.mk (below_step Zq13 hb); clear hb hbox hg; obtain ⟨hcz17_0, hcz17_1, hcz17_2, hcz17_3, hcz17_4, hcz17_5⟩ := cells6_ BK138.out; obtain ⟨hfz17_0, hfz17_1, hfz17_2, hfz17_3, hfz17_4, hfz17_5⟩ := frozen6_ BK138.out) | (go_at_call 17; (with_reducible refine (trap_unit.calls a0_0 a0_1 a0_2 a0_3 a0_4 _ _ l0_5 t139 t140 t141 t142 t143 _ ?side1 ?side2 A8.out).mono ?_); (case side1 => exact Zq35); (case side2 => exact HC0_5.out); rintro e w18 ⟨v144, rfl, ho0, hb⟩; have HO145 := Aside0.mk (Kd.R_lower ho0 (below_size Zq19)); replace BK138 := Aside0.mk (blkb_ BK138.out Zq52 hb); replace HB := Aside0.mk (below_step Zq19 hb); (try clear hb); (try clear hb2); (try clear hk); (try clear hi); (try clear ho0); obtain ⟨Ao19, co19, eo19⟩ := Kd.R_slice HO145.out; subst eo19) | (go_at_call 18; (with_reducible refine (pdu_Check.calls k t139 t140 t141 t142 _ _ t143 t146 _ ?side3 ?side1 ?side2 A9.out).mono ?_); (case side1 => repeat (first | exact (Kd.R_reads' HO145.out).2.2 | (with_reducible refine Kd.C_alloc ?_ _) | (with_reducible refine Kd.C_drewN ?_ _) | (with_reducible refine Kd.C_drew ?_))); (case side2 => exact (Kd.R_reads' HO145.out).2.1); (case side3 => exact Zq71); rintro e w20 ⟨rfl, hb⟩; replace HO145 := Aside0.mk (Kd.R_below (by (with_reducible repeat (first | apply Kd.R_alloc | apply Kd.R_drewN | apply Kd.R_drew)); exact HO145.out) hb); replace BK138 := Aside0.mk (blkb_ BK138.out Zq52 hb); replace HB := Aside0.mk (below_step Zq19 hb); (try clear hb); (try clear hb2); (try clear hk); (try clear hi)))
  go_ret
  exact ⟨Zy51, Zy40⟩
 rw [if_pos c10] at H
 have c10b0 : (t146 == 0) = true := beq_iff_eq.mpr c10
 have c10b1 : (t146 != 0) = false := bne_eq_false_iff_eq.mpr c10
 clear c10
 obtain rfl := Option.some.inj H
 go_enter Tryz.func9, Tryz.ntmps9
 go_wp2_with (first | ((with_reducible refine gate_dst (N := 1) rfl ?_); (try (refine gate_guard (by rfl) ?_; dsimp only)); refine box_event ?hg (N := 1) ?hd (cs := #[.string a0_0, .bool a0_1, .int .i64 a0_2, .int .i64 a0_3, .string a0_4, .slice A0_5 l0_5.length c0_5]) (t := 24) ?hr ?_; (case hd => rfl); (case hg => rfl); (case hr => exact Zq2); intro gb138 hg w11 hbox hb; have BK138 := Aside0.mk (hbox); have GW138 := Aside0.mk ((Zq67 : w.heap.size ≤ gb138)); have GE138 := Aside0.mk ((Zq67 : w.heap.size ≤ gb138)); replace HB := Aside0.mk (below_step Zq13 hb); clear hb hbox hg; obtain ⟨hcz12_0, hcz12_1, hcz12_2, hcz12_3, hcz12_4, hcz12_5⟩ := cells6_ BK138.out; obtain ⟨hfz12_0, hfz12_1, hfz12_2, hfz12_3, hfz12_4, hfz12_5⟩ := frozen6_ BK138.out) | (go_at_call 17; (with_reducible refine (trap_unit.calls a0_0 a0_1 a0_2 a0_3 a0_4 _ _ l0_5 t139 t140 t141 t142 t143 _ ?side1 ?side2 A8.out).mono ?_); (case side1 => exact Zq35); (case side2 => exact HC0_5.out); rintro e w13 ⟨v144, rfl, ho0, hb⟩; have HO145 := Aside0.mk (Kd.R_lower ho0 (below_size Zq19)); replace BK138 := Aside0.mk (blkb_ BK138.out Zq52 hb); replace HB := Aside0.mk (below_step Zq19 hb); (try clear hb); (try clear hb2); (try clear hk); (try clear hi); (try clear ho0); obtain ⟨Ao14, co14, eo14⟩ := Kd.R_slice HO145.out; subst eo14) | (go_at_call 18; (with_reducible refine (pdu_Check.calls k t139 t140 t141 t142 _ _ t143 t146 _ ?side3 ?side1 ?side2 A9.out).mono ?_); (case side1 => repeat (first | exact (Kd.R_reads' HO145.out).2.2 | (with_reducible refine Kd.C_alloc ?_ _) | (with_reducible refine Kd.C_drewN ?_ _) | (with_reducible refine Kd.C_drew ?_))); (case side2 => exact (Kd.R_reads' HO145.out).2.1); (case side3 => exact Zq71); rintro e w15 ⟨rfl, hb⟩; replace HO145 := Aside0.mk (Kd.R_below (by (with_reducible repeat (first | apply Kd.R_alloc | apply Kd.R_drewN | apply Kd.R_drew)); exact HO145.out) hb); replace BK138 := Aside0.mk (blkb_ BK138.out Zq52 hb); replace HB := Aside0.mk (below_step Zq19 hb); (try clear hb); (try clear hb2); (try clear hk); (try clear hi)))
 go_ret
 exact ⟨Zy51, Zy40⟩
end Go.Proofs.YtfmhghlmljlfgaaGreatDoor.XTrS
