-- Laid by extprint.py (the session's own driver): functions told by the kit's printer and by hand.
import Derived.Test.YtfgdnnbhlnbojaaGreatDoorXPdRx0
import Derived.Test.YtfgdnnbhlnbojaaGreatDoorXPdRx14
namespace Go.Proofs.YtfgdnnbhlnbojaaGreatDoor.XPdR
open Go.RowKit Gong Go.Proofs.YtfgdnnbhlnbojaaGreatDoorW.PrintWords Go.Proofs.YtfgdnnbhlnbojaaGreatDoorW.PrintLast Go.Proofs.YtfgdnnbhlnbojaaGreatDoorW.PrintMore
attribute [local go_sem] max2_int min2_int max_two min_two max_three min_three max_four min_four   -- for this text's walks alone
set_option linter.unusedVariables false
set_option linter.unusedSimpArgs false
def IsS133 (w0 W : World) (g : Nat) (f0 : ByteArray) (f1 : Int) (f2 : Int) : Prop := W.heap[g]? = some (.cells #[.string f0, .int .i64 f1, .int .i64 f2] 133 (0, 0)) ∧ w0.heap.size ≤ g
theorem IsS133.grown {w0 W : World} {g : Nat} {f0 : ByteArray} {f1 : Int} {f2 : Int} {W1 : World} {row : Option Nat} (h : IsS133 w0 W g f0 f1 f2) (hw : W.grownBy W1 row) (hne : some g ≠ row) : IsS133 w0 W1 g f0 f1 f2 := by
 obtain ⟨hb, hg⟩ := h
 exact ⟨blk_grown hb hw hne, hg⟩
theorem IsS133.fresh {w0 W : World} {g : Nat} {f0 : ByteArray} {f1 : Int} {f2 : Int} (h : IsS133 w0 W g f0 f1 f2) : ∀ k, W.heap.size ≤ k → k ≠ g := by
 obtain ⟨hb, hg⟩ := h
 exact Kd.freshB hb
theorem IsS133.kept {w0 W : World} {g : Nat} {f0 : ByteArray} {f1 : Int} {f2 : Int} {W1 : World} {S : Nat → Prop} (h : IsS133 w0 W g f0 f1 f2) (hk : Kept W W1 S) (hne : ¬ S g) : IsS133 w0 W1 g f0 f1 f2 := by
 obtain ⟨hb, hg⟩ := h
 exact ⟨blk_kept hb hk hne, hg⟩
theorem IsS133.below {w0 W : World} {g : Nat} {f0 : ByteArray} {f1 : Int} {f2 : Int} {W1 : World} (h : IsS133 w0 W g f0 f1 f2) (hw : Below W.heap.size W W1) : IsS133 w0 W1 g f0 f1 f2 := h.grown (grown_of_below hw none) (by simp)
theorem IsS133.alloc {w0 W : World} {g : Nat} {f0 : ByteArray} {f1 : Int} {f2 : Int} (h : IsS133 w0 W g f0 f1 f2) (o : Obj) : IsS133 w0 (W.alloc o) g f0 f1 f2 := h.below (below_alloc (Below.refl _ _) o)
theorem IsS133.drewN {w0 W : World} {g : Nat} {f0 : ByteArray} {f1 : Int} {f2 : Int} (h : IsS133 w0 W g f0 f1 f2) (m : Nat) : IsS133 w0 (W.drewN m) g f0 f1 f2 := h
theorem IsS133.drew {w0 W : World} {g : Nat} {f0 : ByteArray} {f1 : Int} {f2 : Int} (h : IsS133 w0 W g f0 f1 f2) : IsS133 w0 W.drew g f0 f1 f2 := h
theorem IsS133.at_ {w0 W : World} {g : Nat} {f0 : ByteArray} {f1 : Int} {f2 : Int} {w' : World} {m : Nat} (hq : W.drewN m = w') (h : IsS133 w0 W g f0 f1 f2) : IsS133 w0 w' g f0 f1 f2 := by subst hq; exact IsS133.drewN h m
theorem IsS133.apart {w0 W : World} {g : Nat} {f0 : ByteArray} {f1 : Int} {f2 : Int} {α : Type} {d : Kd α} {e : Nat} {base : Nat} {ok : Nat → Prop} {v : Value} {xs : List α} (h : IsS133 w0 W g f0 f1 f2) (ho : d.R e W base ok v xs) (ht : ∀ q, q ∈ e :: d.E → q ≠ 133) : d.R e W base (fun k => ok k ∧ k ≠ g) v xs := by
 obtain ⟨hb, hg⟩ := h
 exact Kd.R_types ho hb ht
theorem IsS133.own_ne {w0 W : World} {g : Nat} {f0 : ByteArray} {f1 : Int} {f2 : Int} {α : Type} {d : Kd α} {e : Nat} {base : Nat} {ok : Nat → Prop} {v : Value} {xs : List α} (h : IsS133 w0 W g f0 f1 f2) (ho : d.R e W base ok v xs) (ht : e ≠ 133) : some g ≠ v.ownBlock := by
 obtain ⟨hb, hg⟩ := h
 exact Kd.R_ne ho hb ht
theorem IsS133.lt {w0 W : World} {g : Nat} {f0 : ByteArray} {f1 : Int} {f2 : Int} (h : IsS133 w0 W g f0 f1 f2) : g < W.heap.size := by
 obtain ⟨hb, hg⟩ := h
 exact blk_lt hb
theorem IsS133.ge {w0 W : World} {g : Nat} {f0 : ByteArray} {f1 : Int} {f2 : Int} (h : IsS133 w0 W g f0 f1 f2) : w0.heap.size ≤ g := by
 obtain ⟨hb, hg⟩ := h
 exact hg
theorem cellS133_0 {W : World} {g : Nat} {f0 : ByteArray} {f1 : Int} {f2 : Int} (h : W.heap[g]? = some (.cells #[.string f0, .int .i64 f1, .int .i64 f2] 133 (0, 0))) : W.cell? ⟨g, 0, none⟩ = some (.string f0) := (blk_cell h 0).trans rfl
theorem IsS133.set_0 {w0 W : World} {g : Nat} {f0 : ByteArray} {f1 : Int} {f2 : Int} (h : IsS133 w0 W g f0 f1 f2) (x : ByteArray) : IsS133 w0 (W.setCell ⟨g, 0, none⟩ (.string x)) g x f1 f2 := by
 obtain ⟨hb, hg⟩ := h
 exact ⟨by simpa using blk_set hb 0 (.string x), hg⟩
theorem cellS133_1 {W : World} {g : Nat} {f0 : ByteArray} {f1 : Int} {f2 : Int} (h : W.heap[g]? = some (.cells #[.string f0, .int .i64 f1, .int .i64 f2] 133 (0, 0))) : W.cell? ⟨g, 1, none⟩ = some (.int .i64 f1) := (blk_cell h 1).trans rfl
theorem IsS133.set_1 {w0 W : World} {g : Nat} {f0 : ByteArray} {f1 : Int} {f2 : Int} (h : IsS133 w0 W g f0 f1 f2) (x : Int) : IsS133 w0 (W.setCell ⟨g, 1, none⟩ (.int .i64 x)) g f0 x f2 := by
 obtain ⟨hb, hg⟩ := h
 exact ⟨by simpa using blk_set hb 1 (.int .i64 x), hg⟩
theorem cellS133_2 {W : World} {g : Nat} {f0 : ByteArray} {f1 : Int} {f2 : Int} (h : W.heap[g]? = some (.cells #[.string f0, .int .i64 f1, .int .i64 f2] 133 (0, 0))) : W.cell? ⟨g, 2, none⟩ = some (.int .i64 f2) := (blk_cell h 2).trans rfl
theorem IsS133.set_2 {w0 W : World} {g : Nat} {f0 : ByteArray} {f1 : Int} {f2 : Int} (h : IsS133 w0 W g f0 f1 f2) (x : Int) : IsS133 w0 (W.setCell ⟨g, 2, none⟩ (.int .i64 x)) g f0 f1 x := by
 obtain ⟨hb, hg⟩ := h
 exact ⟨by simpa using blk_set hb 2 (.int .i64 x), hg⟩
theorem IsS133.new (w0 W : World) (f0 : ByteArray) (f1 : Int) (f2 : Int) (hB : Below w0.heap.size w0 W) : IsS133 w0 (W.alloc (.cells #[.string f0, .int .i64 f1, .int .i64 f2] 133)) W.heap.size f0 f1 f2 := ⟨by simpa using heap_alloc_new W _, hB.size⟩
mutual
def gongref01_Reader_Groups.l0 : Nat → Int → Int → Int → ByteArray → Int → Int → Option (Int × ByteArray × Int × Int)
 | 0, _, _, _, _, _, _ => none
 | k + 1, x1, x5, x6, x1000, x1001, x1002 => if x6 < 9 then (if (wrap64 (x1001 + x6)) ≥ (x1000.size : Int) then (some (0, x1000, x1001, 10)) else (if 0 ≤ (wrap64 (x1001 + x6)) then (if (wrap64 (x1001 + x6)) < (x1000.size : Int) then (if x6 = 0 then (gongref01_Reader_Groups.j1 k x1 x5 x6 (wrap64 (bt x1000 (wrap64 (x1001 + x6)))) ((wrap64 (bt x1000 (wrap64 (x1001 + x6)))) == 128) x1000 x1001 x1002) else (gongref01_Reader_Groups.j1 k x1 x5 x6 (wrap64 (bt x1000 (wrap64 (x1001 + x6)))) false x1000 x1001 x1002)) else (none)) else (none))) else (some (0, x1000, x1001, 3))
def gongref01_Reader_Groups.j1 : Nat → Int → Int → Int → Int → Bool → ByteArray → Int → Int → Option (Int × ByteArray × Int × Int)
 | 0, _, _, _, _, _, _, _, _ => none
 | k + 1, x1, x5, x6, x7, x49, x1000, x1001, x1002 => if x49 = true then (some (0, x1000, x1001, 3)) else (if (wrap64 ((wrap64 (x5 * 128)) + (Int.tmod x7 128))) > x1 then (some (0, x1000, x1001, 2)) else (if x7 < 128 then (some (wrap64 ((wrap64 (x5 * 128)) + (Int.tmod x7 128)), x1000, wrap64 ((wrap64 (x1001 + x6)) + 1), x1002)) else (gongref01_Reader_Groups.l0 k x1 (wrap64 ((wrap64 (x5 * 128)) + (Int.tmod x7 128))) (wrap64 (x6 + 1)) x1000 x1001 x1002)))
end
def gongref01_Reader_Groups.f (k : Nat) (s0_0 : ByteArray) (s0_1 : Int) (s0_2 : Int) (a1 : Int) : Option (Int × ByteArray × Int × Int) := if s0_2 = 0 then (gongref01_Reader_Groups.l0 k a1 0 0 s0_0 s0_1 s0_2) else (some (0, s0_0, s0_1, s0_2))
theorem gongref01_Reader_Groups.mono_l : ∀ k, (∀ y0 y1 y2 y3 y4 y5, LeO (gongref01_Reader_Groups.l0 k y0 y1 y2 y3 y4 y5) (gongref01_Reader_Groups.l0 (k + 1) y0 y1 y2 y3 y4 y5)) ∧ (∀ y0 y1 y2 y3 y4 y5 y6 y7, LeO (gongref01_Reader_Groups.j1 k y0 y1 y2 y3 y4 y5 y6 y7) (gongref01_Reader_Groups.j1 (k + 1) y0 y1 y2 y3 y4 y5 y6 y7))
 | 0 => ⟨fun _ _ _ _ _ _ r h => by simp [gongref01_Reader_Groups.l0] at h, fun _ _ _ _ _ _ _ _ r h => by simp [gongref01_Reader_Groups.j1] at h⟩
 | k + 1 => by
  obtain ⟨ih0, ih1⟩ := gongref01_Reader_Groups.mono_l k
  refine ⟨?_, ?_⟩
  ·intro y0 y1 y2 y3 y4 y5
   unfold gongref01_Reader_Groups.l0
   repeat' first
   | (with_reducible exact ih0 _ _ _ _ _ _)
   | (with_reducible exact ih1 _ _ _ _ _ _ _ _)
   | (with_reducible exact LeO.refl _)
   | (with_reducible exact LeO.none _)
   | (with_reducible refine LeO.ite ?_ ?_)
   | (with_reducible refine LeO.bind ?_ (fun _ => ?_))
   | exact ih0 _ _ _ _ _ _
   | exact ih1 _ _ _ _ _ _ _ _
   | exact LeO.none _
   | refine LeO.ite ?_ ?_
   | refine LeO.bind ?_ (fun _ => ?_)
  ·intro y0 y1 y2 y3 y4 y5 y6 y7
   unfold gongref01_Reader_Groups.j1
   repeat' first
   | (with_reducible exact ih0 _ _ _ _ _ _)
   | (with_reducible exact ih1 _ _ _ _ _ _ _ _)
   | (with_reducible exact LeO.refl _)
   | (with_reducible exact LeO.none _)
   | (with_reducible refine LeO.ite ?_ ?_)
   | (with_reducible refine LeO.bind ?_ (fun _ => ?_))
   | exact ih0 _ _ _ _ _ _
   | exact ih1 _ _ _ _ _ _ _ _
   | exact LeO.none _
   | refine LeO.ite ?_ ?_
   | refine LeO.bind ?_ (fun _ => ?_)
theorem gongref01_Reader_Groups.mono : ∀ a0 a1 a2 a3 k, LeO (gongref01_Reader_Groups.f k a0 a1 a2 a3) (gongref01_Reader_Groups.f (k + 1) a0 a1 a2 a3) := by
 intro a0 a1 a2 a3 k
 obtain ⟨ih0, ih1⟩ := gongref01_Reader_Groups.mono_l k
 unfold gongref01_Reader_Groups.f
 repeat' first
   | (with_reducible exact ih0 _ _ _ _ _ _)
   | (with_reducible exact ih1 _ _ _ _ _ _ _ _)
   | (with_reducible exact LeO.refl _)
   | (with_reducible exact LeO.none _)
   | (with_reducible refine LeO.ite ?_ ?_)
   | (with_reducible refine LeO.bind ?_ (fun _ => ?_))
   | exact ih0 _ _ _ _ _ _
   | exact ih1 _ _ _ _ _ _ _ _
   | exact LeO.none _
   | refine LeO.ite ?_ ?_
   | refine LeO.bind ?_ (fun _ => ?_)
set_option maxHeartbeats 8000000 in
set_option maxRecDepth 100000 in
theorem gongref01_Reader_Groups.calls (k : Nat) (g : Nat) (s0_0 : ByteArray) (s0_1 : Int) (s0_2 : Int) (a1 : Int) (r1 : Int) (r2 : ByteArray) (r3 : Int) (r4 : Int) (w0 w : World) (hI : IsS133 w0 w g s0_0 s0_1 s0_2) (hB : Below w0.heap.size w0 w) (h : gongref01_Reader_Groups.f k s0_0 s0_1 s0_2 a1 = some (r1, r2, r3, r4)) :
  Calls Tryz.prog 88 #[.pointer (some ⟨g, 0, none⟩), .int .i64 a1] w fun e w' => e = .returned (.int .i64 r1) ∧ IsS133 w0 w' g r2 r3 r4 ∧ Below w0.heap.size w0 w' ∧ KeepBut w w' g none := by
 have HI0 := Aside0.mk hI
 have HK := Aside0.mk (KeepBut.refl w g none)
 have HL := Aside0.mk hB.size
 clear hI
 have HW0 := Aside0.mk hB.size
 have HB := Aside0.mk hB
 clear hB
 have H : (if s0_2 = 0 then (gongref01_Reader_Groups.l0 k a1 0 0 s0_0 s0_1 s0_2) else (some (0, s0_0, s0_1, s0_2))) = some (r1, r2, r3, r4) := h
 clear h
 by_cases c3 : s0_2 = 0
 rotate_left
 ·rw [if_neg c3] at H
  have c3b0 : (s0_2 == 0) = false := beq_eq_false_iff_ne.mpr c3
  have c3b1 : (s0_2 != 0) = true := bne_iff_ne.mpr c3
  simp only [Option.some.injEq, Prod.mk.injEq] at H
  obtain ⟨rfl, rfl, rfl, rfl⟩ := H
  obtain ⟨HGz22, hgz22⟩ := HI0.out
  have hcz22_0 := cellS133_0 HGz22
  have hcz22_1 := cellS133_1 HGz22
  have hcz22_2 := cellS133_2 HGz22
  have hfz22_0 := blk_frozen HGz22 0
  have hfz22_1 := blk_frozen HGz22 1
  have hfz22_2 := blk_frozen HGz22 2
  clear HGz22 hgz22
  go_enter Tryz.func88, Tryz.ntmps88
  go_wp2
  repeat (go_quiet (fail); try go_wp2)
  go_ret
  exact ⟨Zy41, Zy9, Zy20, Zy34⟩
 rw [if_pos c3] at H
 have c3b0 : (s0_2 == 0) = true := beq_iff_eq.mpr c3
 have c3b1 : (s0_2 != 0) = false := bne_eq_false_iff_eq.mpr c3
 clear c3
 have H' := Aside0.mk H
 clear H
 obtain ⟨HGz4, hgz4⟩ := HI0.out
 have hcz4_0 := cellS133_0 HGz4
 have hcz4_1 := cellS133_1 HGz4
 have hcz4_2 := cellS133_2 HGz4
 have hfz4_0 := blk_frozen HGz4 0
 have hfz4_1 := blk_frozen HGz4 1
 have hfz4_2 := blk_frozen HGz4 2
 clear HGz4 hgz4
 go_enter Tryz.func88, Tryz.ntmps88
 go_wp2
 repeat (go_quiet (fail); try go_wp2)
 go_loopg [5, 6] k (fun kq v5 v6 w' => ∃ (x5_1 : Int) (x6_1 : Int) (x1001_1 : Int) (x1002_1 : Int), v5 = .int .i64 x5_1 ∧ v6 = .int .i64 x6_1 ∧ Aside0 (gongref01_Reader_Groups.l0 kq a1 x5_1 x6_1 s0_0 x1001_1 x1002_1 = some (r1, r2, r3, r4)) ∧ Aside0 (kq ≤ k) ∧ Aside0 (IsS133 w0 w' g s0_0 x1001_1 x1002_1) ∧ Aside0 (KeepBut w w' g none) ∧ Aside0 (Below w0.heap.size w0 w'))
 case atStart => exact ⟨(0), (0), (s0_1), (s0_2), Zq11, Zq11, H', ⟨Nat.le_refl _⟩, ⟨Zy9⟩, ⟨Zy34⟩, ⟨Zy20⟩⟩
 case round =>
  clear H'
  (try clear p2); (try clear c3); (try clear c3b0); (try clear c3b1); (try clear hcz4_0); (try clear hcz4_1); (try clear hcz4_2); (try clear hfz4_0); (try clear hfz4_1); (try clear hfz4_2)
  obtain ⟨x5_1, x6_1, x1001_1, x1002_1, rfl, rfl, HA, HK1, HI0, HK, HB⟩ := hrel
  cases gk with
  | zero => exact absurd HA.out (by simp [gongref01_Reader_Groups.l0])
  | succ k1 =>
   have H := HA.out
   clear HA
   simp only [gongref01_Reader_Groups.l0] at H
   by_cases c5 : x6_1 < 9
   ·rw [if_pos c5] at H
    have c5b0 : decide (x6_1 < 9) = true := decide_eq_true c5
    clear c5
    by_cases c6 : (wrap64 (x1001_1 + x6_1)) ≥ (s0_0.size : Int)
    ·rw [if_pos c6] at H
     have c6b0 : decide ((s0_0.size : Int) ≤ (wrap64 (x1001_1 + x6_1))) = true := decide_eq_true c6
     clear c6
     simp only [Option.some.injEq, Prod.mk.injEq] at H
     obtain ⟨rfl, rfl, rfl, rfl⟩ := H
     obtain ⟨HGz7, hgz7⟩ := HI0.out
     have hcz7_0 := cellS133_0 HGz7
     have hcz7_1 := cellS133_1 HGz7
     have hcz7_2 := cellS133_2 HGz7
     have hfz7_0 := blk_frozen HGz7 0
     have hfz7_1 := blk_frozen HGz7 1
     have hfz7_2 := blk_frozen HGz7 2
     clear HGz7 hgz7
     go_wp2
     repeat (go_quiet (fail); try go_wp2)
     go_ret
     exact ⟨Zy41, Zy9, Zy20, Zy34⟩
    ·rw [if_neg c6] at H
     have c6b0 : decide ((s0_0.size : Int) ≤ (wrap64 (x1001_1 + x6_1))) = false := decide_eq_false c6
     clear c6
     obtain ⟨ji8, hji8⟩ : ∃ j_ : Int, (wrap64 (x1001_1 + x6_1)) = j_ := ⟨_, rfl⟩
     replace H : (if 0 ≤ (ji8) then (if (ji8) < (s0_0.size : Int) then (if x6_1 = 0 then (gongref01_Reader_Groups.j1 k1 a1 x5_1 x6_1 (wrap64 (bt s0_0 (ji8))) ((wrap64 (bt s0_0 (ji8))) == 128) s0_0 x1001_1 x1002_1) else (gongref01_Reader_Groups.j1 k1 a1 x5_1 x6_1 (wrap64 (bt s0_0 (ji8))) false s0_0 x1001_1 x1002_1)) else (none)) else (none)) = some (r1, r2, r3, r4) := by first | (rw [hji8] at H; exact H) | (simp only [hji8] at H ⊢; exact H)
     (try rw [hji8] at c6b0)
     have hji8w : (IntKind.i64.wrap (x1001_1 + x6_1)) = ji8 := (i64_w _).trans hji8
     by_cases c9 : 0 ≤ (ji8)
     ·rw [if_pos c9] at H
      have c9b0 : decide (0 ≤ (ji8)) = true := decide_eq_true c9
      clear c9
      by_cases c10 : (ji8) < (s0_0.size : Int)
      ·rw [if_pos c10] at H
       have c10b0 : decide ((ji8) < (s0_0.size : Int)) = true := decide_eq_true c10
       clear c10
       have HC12 := Aside0.mk H
       clear H
       obtain ⟨HGz13, hgz13⟩ := HI0.out
       have hcz13_0 := cellS133_0 HGz13
       have hcz13_1 := cellS133_1 HGz13
       have hcz13_2 := cellS133_2 HGz13
       have hfz13_0 := blk_frozen HGz13 0
       have hfz13_1 := blk_frozen HGz13 1
       have hfz13_2 := blk_frozen HGz13 2
       clear HGz13 hgz13
       have p11 : 0 ≤ ((ji8) : Int) := of_decide_eq_true Zq1
       have q11 : (ji8) < (s0_0.size : Int) := of_decide_eq_true Zq1
       have hx11 := bt_at s0_0 (ji8)
       replace p11 := eq_true p11
       replace q11 := eq_true q11
       go_upto_region 11 with (fail)
       repeat (go_quiet (fail); go_upto_region 11 with (fail))
       go_cut [49] (fun v49 wc => ∃ (kq : Nat) (x49_11 : Bool), v49 = .bool x49_11 ∧ Aside0 (gongref01_Reader_Groups.j1 kq a1 x5_1 x6_1 (wrap64 (bt s0_0 (ji8))) x49_11 s0_0 x1001_1 x1002_1 = some (r1, r2, r3, r4)) ∧ Aside0 (kq ≤ k1) ∧ Aside0 (IsS133 w0 wc g s0_0 x1001_1 x1002_1) ∧ Aside0 (KeepBut w wc g none) ∧ Aside0 (Below w0.heap.size w0 wc))
       case first =>
        have H := HC12.out
        clear HC12
        by_cases c14 : x6_1 = 0
        ·rw [if_pos c14] at H
         have c14b0 : (x6_1 == 0) = true := beq_iff_eq.mpr c14
         have c14b1 : (x6_1 != 0) = false := bne_eq_false_iff_eq.mpr c14
         clear c14
         (first | rw [c14b0] | (simp only [i64_w, i32_w]; rw [c14b0]) | skip)
         have H' := Aside0.mk H
         clear H
         go_wp2
         repeat (go_quiet (fail); try go_wp2)
         go_meet
         case rel => exact ⟨_, (((wrap64 (bt s0_0 (ji8))) == 128)), (by first | rfl | (simp; done) | (simp only [← hji8] <;> (first | rfl | simp)) | (simp [*]; done)), H', ⟨Zy57⟩, ⟨Zy9⟩, ⟨Zy34⟩, ⟨Zy20⟩⟩
        ·rw [if_neg c14] at H
         have c14b0 : (x6_1 == 0) = false := beq_eq_false_iff_ne.mpr c14
         have c14b1 : (x6_1 != 0) = true := bne_iff_ne.mpr c14
         (first | rw [c14b0] | (simp only [i64_w, i32_w]; rw [c14b0]) | skip)
         have H' := Aside0.mk H
         clear H
         go_wp2
         repeat (go_quiet (fail); try go_wp2)
         go_meet
         case rel => exact ⟨_, (false), Zq11, H', ⟨Zy57⟩, ⟨Zy9⟩, ⟨Zy34⟩, ⟨Zy20⟩⟩
       case rest =>
        clear HC12
        (try clear c1); (try clear p1); (try clear q1); (try clear hx1); (try clear p2); (try clear c3); (try clear c3b0); (try clear c3b1); (try clear c5); (try clear c5b0); (try clear c6); (try clear c6b0); (try clear p6); (try clear c8); (try clear c9); (try clear c9b0); (try clear c10); (try clear c10b0); (try clear p11); (try clear q11); (try clear hx11); (try clear c14); (try clear c14b0); (try clear c14b1); (try clear hcz13_0); (try clear hcz13_1); (try clear hcz13_2); (try clear hcz4_0); (try clear hcz4_1); (try clear hcz4_2); (try clear hcz7_0); (try clear hcz7_1); (try clear hcz7_2); (try clear hfz13_0); (try clear hfz13_1); (try clear hfz13_2); (try clear hfz4_0); (try clear hfz4_1); (try clear hfz4_2); (try clear hfz7_0); (try clear hfz7_1); (try clear hfz7_2)
        obtain ⟨kq, x49_11, rfl, HA, HJ11, HI0, HK, HB⟩ := hcut
        cases kq with
        | zero => exact absurd HA.out (by simp [gongref01_Reader_Groups.j1])
        | succ kj11 =>
         have H := HA.out
         clear HA
         simp only [gongref01_Reader_Groups.j1] at H
         by_cases c15 : x49_11 = true
         ·subst c15
          have H1 : (some (0, s0_0, x1001_1, 3)) = some (r1, r2, r3, r4) := by rw [if_pos rfl] at H; exact H
          clear H
          have H := H1
          clear H1
          simp only [Option.some.injEq, Prod.mk.injEq] at H
          obtain ⟨rfl, rfl, rfl, rfl⟩ := H
          obtain ⟨HGz16, hgz16⟩ := HI0.out
          have hcz16_0 := cellS133_0 HGz16
          have hcz16_1 := cellS133_1 HGz16
          have hcz16_2 := cellS133_2 HGz16
          have hfz16_0 := blk_frozen HGz16 0
          have hfz16_1 := blk_frozen HGz16 1
          have hfz16_2 := blk_frozen HGz16 2
          clear HGz16 hgz16
          go_wp2
          repeat (go_quiet (fail); try go_wp2)
          go_ret
          exact ⟨Zy7, Zy5, Zy20, Zy34⟩
         ·replace c15 := Bool.eq_false_iff.mpr c15
          subst c15
          have H1 : (if (wrap64 ((wrap64 (x5_1 * 128)) + (Int.tmod (wrap64 (bt s0_0 (ji8))) 128))) > a1 then (some (0, s0_0, x1001_1, 2)) else (if (wrap64 (bt s0_0 (ji8))) < 128 then (some (wrap64 ((wrap64 (x5_1 * 128)) + (Int.tmod (wrap64 (bt s0_0 (ji8))) 128)), s0_0, wrap64 ((wrap64 (x1001_1 + x6_1)) + 1), x1002_1)) else (gongref01_Reader_Groups.l0 kj11 a1 (wrap64 ((wrap64 (x5_1 * 128)) + (Int.tmod (wrap64 (bt s0_0 (ji8))) 128))) (wrap64 (x6_1 + 1)) s0_0 x1001_1 x1002_1))) = some (r1, r2, r3, r4) := by rw [if_neg (show ¬ (false = true) by decide)] at H; exact H
          clear H
          have H := H1
          clear H1
          by_cases c17 : (wrap64 ((wrap64 (x5_1 * 128)) + (Int.tmod (wrap64 (bt s0_0 (ji8))) 128))) > a1
          ·rw [if_pos c17] at H
           have c17b0 : decide (a1 < (wrap64 ((wrap64 (x5_1 * 128)) + (Int.tmod (wrap64 (bt s0_0 (ji8))) 128)))) = true := decide_eq_true c17
           clear c17
           simp only [Option.some.injEq, Prod.mk.injEq] at H
           obtain ⟨rfl, rfl, rfl, rfl⟩ := H
           obtain ⟨HGz18, hgz18⟩ := HI0.out
           have hcz18_0 := cellS133_0 HGz18
           have hcz18_1 := cellS133_1 HGz18
           have hcz18_2 := cellS133_2 HGz18
           have hfz18_0 := blk_frozen HGz18 0
           have hfz18_1 := blk_frozen HGz18 1
           have hfz18_2 := blk_frozen HGz18 2
           clear HGz18 hgz18
           go_wp2
           repeat (go_quiet (fail); try go_wp2)
           go_ret
           exact ⟨Zy7, Zy5, Zy20, Zy34⟩
          ·rw [if_neg c17] at H
           have c17b0 : decide (a1 < (wrap64 ((wrap64 (x5_1 * 128)) + (Int.tmod (wrap64 (bt s0_0 (ji8))) 128)))) = false := decide_eq_false c17
           clear c17
           by_cases c19 : (wrap64 (bt s0_0 (ji8))) < 128
           ·rw [if_pos c19] at H
            have c19b0 : decide ((wrap64 (bt s0_0 (ji8))) < 128) = true := decide_eq_true c19
            clear c19
            simp only [Option.some.injEq, Prod.mk.injEq] at H
            obtain ⟨rfl, rfl, rfl, rfl⟩ := H
            obtain ⟨HGz20, hgz20⟩ := HI0.out
            have hcz20_0 := cellS133_0 HGz20
            have hcz20_1 := cellS133_1 HGz20
            have hcz20_2 := cellS133_2 HGz20
            have hfz20_0 := blk_frozen HGz20 0
            have hfz20_1 := blk_frozen HGz20 1
            have hfz20_2 := blk_frozen HGz20 2
            clear HGz20 hgz20
            go_wp2
            repeat (go_quiet (fail); try go_wp2)
            go_ret
            exact ⟨Zy7, Zy5, Zy20, Zy34⟩
           ·rw [if_neg c19] at H
            have c19b0 : decide ((wrap64 (bt s0_0 (ji8))) < 128) = false := decide_eq_false c19
            clear c19
            have H' := Aside0.mk H
            clear H
            go_wp2
            repeat (go_quiet (fail); try go_wp2)
            go_roundg kj11
            case measure => have := HK1.out; have := HJ11.out; omega
            case rel => exact ⟨(wrap64 ((wrap64 (x5_1 * 128)) + (Int.tmod (wrap64 (bt s0_0 (ji8))) 128))), (wrap64 (x6_1 + 1)), (x1001_1), (x1002_1), (by first | rfl | (simp; done) | (simp only [← hji8] <;> (first | rfl | simp)) | (simp [*]; done)), Zq11, H', ⟨by have := HK1.out; have := HJ11.out; omega⟩, ⟨Zy9⟩, ⟨Zy34⟩, ⟨Zy20⟩⟩
      ·rw [if_neg c10] at H
       exact absurd H (by simp)
     ·rw [if_neg c9] at H
      exact absurd H (by simp)
   ·rw [if_neg c5] at H
    have c5b0 : decide (x6_1 < 9) = false := decide_eq_false c5
    clear c5
    simp only [Option.some.injEq, Prod.mk.injEq] at H
    obtain ⟨rfl, rfl, rfl, rfl⟩ := H
    obtain ⟨HGz21, hgz21⟩ := HI0.out
    have hcz21_0 := cellS133_0 HGz21
    have hcz21_1 := cellS133_1 HGz21
    have hcz21_2 := cellS133_2 HGz21
    have hfz21_0 := blk_frozen HGz21 0
    have hfz21_1 := blk_frozen HGz21 1
    have hfz21_2 := blk_frozen HGz21 2
    clear HGz21 hgz21
    go_wp2
    repeat (go_quiet (fail); try go_wp2)
    go_ret
    exact ⟨Zy41, Zy9, Zy20, Zy34⟩
def gongref01_Reader_Left.f (s0_0 : ByteArray) (s0_1 : Int) (s0_2 : Int) : Option (Int × ByteArray × Int × Int) := some (wrap64 ((s0_0.size : Int) - s0_1), s0_0, s0_1, s0_2)
set_option maxHeartbeats 8000000 in
set_option maxRecDepth 100000 in
theorem gongref01_Reader_Left.calls (g : Nat) (s0_0 : ByteArray) (s0_1 : Int) (s0_2 : Int) (r1 : Int) (r2 : ByteArray) (r3 : Int) (r4 : Int) (w0 w : World) (hI : IsS133 w0 w g s0_0 s0_1 s0_2) (hB : Below w0.heap.size w0 w) (h : gongref01_Reader_Left.f s0_0 s0_1 s0_2 = some (r1, r2, r3, r4)) :
  Calls Tryz.prog 89 #[.pointer (some ⟨g, 0, none⟩)] w fun e w' => e = .returned (.int .i64 r1) ∧ IsS133 w0 w' g r2 r3 r4 ∧ Below w0.heap.size w0 w' ∧ KeepBut w w' g none := by
 have HI0 := Aside0.mk hI
 have HK := Aside0.mk (KeepBut.refl w g none)
 have HL := Aside0.mk hB.size
 clear hI
 have HW0 := Aside0.mk hB.size
 have HB := Aside0.mk hB
 clear hB
 have H : (some (wrap64 ((s0_0.size : Int) - s0_1), s0_0, s0_1, s0_2)) = some (r1, r2, r3, r4) := h
 clear h
 simp only [Option.some.injEq, Prod.mk.injEq] at H
 obtain ⟨rfl, rfl, rfl, rfl⟩ := H
 obtain ⟨HGz2, hgz2⟩ := HI0.out
 have hcz2_0 := cellS133_0 HGz2
 have hcz2_1 := cellS133_1 HGz2
 have hcz2_2 := cellS133_2 HGz2
 have hfz2_0 := blk_frozen HGz2 0
 have hfz2_1 := blk_frozen HGz2 1
 have hfz2_2 := blk_frozen HGz2 2
 clear HGz2 hgz2
 go_enter Tryz.func89, Tryz.ntmps89
 go_wp2
 repeat (go_quiet (fail); try go_wp2)
 go_ret
 exact ⟨Zy41, Zy9, Zy20, Zy34⟩
def gongref06_Decode.first (n : Int) : Int := if 2 < n / 40 then 2 else n / 40
def gongref06_Decode.l0 : Nat → ByteArray → Int → Int → List Int → Option (ByteArray × Int)
 | 0, _, _, _, _ => none
 | k + 1, s, p, e, l =>
  if 0 < wrap64 ((s.size : Int) - p) ∧ e = 0 then (gongref01_Reader_Groups.f k s p e 4294967295).bind fun t => if (l.length + 1) * 8 ≤ 140737488355328 then gongref06_Decode.l0 k t.2.1 t.2.2.1 t.2.2.2 (l ++ [t.1]) else none
  else if e = 0 then (gongref06_Is.f k l).bind fun b => if b = true then (gongref06_Put.f k l).bind fun q => some (q, 0) else some (⟨#[]⟩, 60)
  else some (⟨#[]⟩, 60)
def gongref06_Decode.f (k : Nat) (a0 : ByteArray) : Option (ByteArray × Int) :=
 if a0.size = 0 then some (⟨#[]⟩, 60) else if 640 < a0.size then some (⟨#[]⟩, 60) else
 (gongref01_Reader_Groups.f k a0 0 0 4294967295).bind fun t => if 0 ≤ t.1 ∧ t.1 ≤ 4294967295 then
  gongref06_Decode.l0 k t.2.1 t.2.2.1 t.2.2.2 [gongref06_Decode.first t.1, t.1 - 40 * gongref06_Decode.first t.1] else none
theorem gongref06_Decode.mono_l0 : ∀ k s p e l, LeO (gongref06_Decode.l0 k s p e l) (gongref06_Decode.l0 (k + 1) s p e l)
 | 0, _, _, _, _ => fun r h => by simp [gongref06_Decode.l0] at h
 | k + 1, s, p, e, l => by
  unfold gongref06_Decode.l0
  exact LeO.ite (LeO.bind (gongref01_Reader_Groups.mono _ _ _ _ _) (fun _ => LeO.ite (gongref06_Decode.mono_l0 k _ _ _ _) (LeO.refl _))) (LeO.ite (LeO.bind (gongref06_Is.mono _ _) (fun _ => LeO.ite (LeO.bind (gongref06_Put.mono _ _) (fun _ => LeO.refl _)) (LeO.refl _))) (LeO.refl _))
theorem gongref06_Decode.mono : ∀ a0 k, LeO (gongref06_Decode.f k a0) (gongref06_Decode.f (k + 1) a0) := by
 intro a0 k
 unfold gongref06_Decode.f
 exact LeO.ite (LeO.refl _) (LeO.ite (LeO.refl _) (LeO.bind (gongref01_Reader_Groups.mono _ _ _ _ _) (fun _ => LeO.ite (gongref06_Decode.mono_l0 _ _ _ _ _) (LeO.refl _))))
theorem ints2_new (w : World) (x y : Int) : Kd.R (Kd.int .i64) 3 (w.alloc (.cells #[.int .i64 x, .int .i64 y] 3)) w.heap.size (fun _ => True) (.slice (some ⟨w.heap.size, 0, none⟩) 2 2) [x, y] := by
 refine Kd.R_of_own (enc := Value.int .i64) (h1 := fun _ => rfl) (xs := [x, y]) ⟨by simp [encs], .inr ⟨w.heap.size, 2, #[.int .i64 x, .int .i64 y], rfl, Nat.le_refl _, heap_alloc_new w _, Nat.le_refl _, by decide, by simp, ?_⟩⟩ (fun _ _ => trivial)
 simp [encs]
theorem info_int : (Tryz.prog.info? 3).map (fun i => (i.zero, i.size, i.bytes)) = some (some (.int .i64 0), 1, 8) := by kernel_rfl
set_option maxHeartbeats 4000000 in
set_option maxRecDepth 100000 in
theorem gongref06_Decode.calls (k : Nat) (a0 : ByteArray) (r1 : ByteArray) (r2 : Int) (w : World) (h : gongref06_Decode.f k a0 = some (r1, r2)) :
  Calls Tryz.prog 59 #[.string a0] w fun e w' => e = .returned (.tuple #[.string r1, .int .i64 r2]) ∧ Below w.heap.size w w' := by
 unfold gongref06_Decode.f at h
 go_enter Tryz.func59, Tryz.ntmps59
 by_cases h0 : a0.size = 0
 ·rw [if_pos h0] at h
  simp only [Option.some.injEq, Prod.mk.injEq] at h
  obtain ⟨rfl, rfl⟩ := h
  obtain rfl := size_zero h0
  go_wp2
  go_ret2
  exact ⟨rfl, Below.refl _ _⟩
 ·rw [if_neg h0] at h
  have e0 : (a0.toList == ([] : List UInt8)) = false := toList_ne h0
  by_cases h1 : 640 < a0.size
  ·rw [if_pos h1] at h
   simp only [Option.some.injEq, Prod.mk.injEq] at h
   obtain ⟨rfl, rfl⟩ := h
   have e1 : decide ((a0.size : Int) > 640) = true := decide_eq_true (by omega)
   have e2 := eq_true h1
   clear h0 h1
   go_wp2
   go_ret2
   exact ⟨rfl, Below.refl _ _⟩
  ·rw [if_neg h1] at h
   obtain ⟨⟨n, s1, p1, c1⟩, hg, h⟩ := Option.bind_eq_some_iff.mp h
   simp only at h
   by_cases hn : 0 ≤ n ∧ n ≤ 4294967295
   ·rw [if_pos hn] at h
    have H := Aside0.mk h
    have HGR := Aside0.mk hg
    have e1 : decide ((a0.size : Int) > 640) = false := decide_eq_false (by omega)
    have e2 := eq_false h1
    obtain ⟨hn0, hn1⟩ := hn
    clear h0 h1 h hg
    go_wp2_with fail
    have HI0 := Aside0.mk (IsS133.new w w a0 0 0 (Below.refl _ _))
    obtain ⟨g, hgq⟩ : ∃ g, g = w.heap.size := ⟨_, rfl⟩
    obtain ⟨w1, hw1⟩ : ∃ w1, w1 = w.alloc (.cells #[.string a0, .int .i64 0, .int .i64 0] 133) := ⟨_, rfl⟩
    have HB0 := Aside0.mk (below_alloc (Below.refl w.heap.size w) (.cells #[.string a0, .int .i64 0, .int .i64 0] 133))
    rw [← hw1] at HI0 HB0 ⊢
    rw [← hgq] at HI0 ⊢
    clear hw1
    refine (gongref01_Reader_Groups.calls k g a0 0 0 4294967295 n s1 p1 c1 w w1 HI0.out HB0.out HGR.out).mono ?_
    rintro e w2 ⟨rfl, hi2, hb2, _⟩
    have HI2 := Aside0.mk hi2
    have HB2 := Aside0.mk hb2
    have HGL := Aside0.mk (show g < w2.heap.size from (Array.getElem?_eq_some_iff.1 hi2.1).1)
    have HGE := Aside0.mk hi2.2
    clear hi2 hb2 HI0 HB0 HGR hgq
    have hq : (first n = 2 ∧ (2 < n / 40) = True) ∨ (first n = n / 40 ∧ (2 < n / 40) = False) := by
     unfold first
     by_cases c : 2 < n / 40
     ·exact .inl ⟨if_pos c, eq_true c⟩
     ·exact .inr ⟨if_neg c, eq_false c⟩
    rcases hq with ⟨hq, q1⟩ | ⟨hq, q1⟩
    all_goals
     rw [hq] at H
     clear hq
     go_wp2_with fail
     go_loopg [7] k (fun kq v7 W => ∃ (s : ByteArray) (p c : Int) (l : List Int), Aside0 (Kd.R (Kd.int .i64) 3 W (g + 1) (fun _ => True) v7 l) ∧ Aside0 (IsS133 w W g s p c) ∧ Aside0 (Below w.heap.size w W) ∧ Aside0 (kq ≤ k) ∧ Aside0 (gongref06_Decode.l0 kq s p c l = some (r1, r2)))
     case atStart => exact ⟨s1, p1, c1, _, ⟨Kd.R_lower (ints2_new w2 _ _) HGL.out⟩, ⟨IsS133.alloc HI2.out _⟩, ⟨below_alloc HB2.out _⟩, ⟨Nat.le_refl _⟩, H⟩
     case round =>
      clear HI2 HB2 H q1 HGL
      obtain ⟨s, p, c, l, HO, HI, HB, HK, H⟩ := hrel
      obtain ⟨ki, rfl⟩ : ∃ ki, gk = ki + 1 := by
       cases gk with
       | zero => exact absurd H.out (by simp [gongref06_Decode.l0])
       | succ ki => exact ⟨ki, rfl⟩
      have h := H.out
      simp only [gongref06_Decode.l0] at h
      clear H
      have hlf : gongref01_Reader_Left.f s p c = some (wrap64 ((s.size : Int) - p), s, p, c) := rfl
      have AL := Aside0.mk (gongref01_Reader_Left.calls g s p c _ s p c w wr HI.out HB.out hlf)
      obtain ⟨A7, c7, rfl⟩ := Kd.R_slice HO.out
      go_wp2_with fail
      refine AL.out.mono ?_
      rintro e w3 ⟨rfl, hi3, hb3, hk3⟩
      have HI3 := Aside0.mk hi3
      have HB3 := Aside0.mk hb3
      have HO3 := Aside0.mk (R_stay HO.out (mv_of_keep HB.out hb3 hk3) (fun k _ _ hk _ _ e => by omega))
      have hc2 := cellS133_2 hi3.1
      clear hi3 hb3 hk3 HI HB HO AL hlf
      by_cases q1 : 0 < wrap64 ((s.size : Int) - p) ∧ c = 0
      ·rw [if_pos q1] at h
       obtain ⟨⟨n2, s2, p2, c2⟩, hgr, h⟩ := Option.bind_eq_some_iff.mp h
       simp only at h
       by_cases q2 : (l.length + 1) * 8 ≤ 140737488355328
       ·rw [if_pos q2] at h
        have H := Aside0.mk h
        have HGR := Aside0.mk hgr
        have HQ2 := Aside0.mk q2
        obtain ⟨q3, q4⟩ := q1
        have q5 : decide (wrap64 ((s.size : Int) - p) > 0) = true := decide_eq_true q3
        subst q4
        clear h hgr q2 q3
        go_wp2_with fail
        refine (gongref01_Reader_Groups.calls ki g s p 0 4294967295 n2 s2 p2 c2 w w3 HI3.out HB3.out HGR.out).mono ?_
        rintro e w4 ⟨rfl, hi4, hb4, hk4⟩
        have HI4 := Aside0.mk hi4
        have HB4 := Aside0.mk hb4
        have HO4 := Aside0.mk (R_stay HO3.out (mv_of_keep HB3.out hb4 hk4) (fun k _ _ hk _ _ e => by omega))
        have HG4 := Aside0.mk (show g < w4.heap.size from (Array.getElem?_eq_some_iff.1 hi4.1).1)
        clear hi4 hb4 hk4 HI3 HB3 HO3 hc2
        go_wp2_with (at_builtin; refine Kd.R_append (Kd.int .i64) (w0 := w4) (W := w4) (g + 1) rfl (.tmp 39) (.tmp 42) 89 3 (.int .i64 0) 8 rfl Tryz.underlying89 info_int rfl (by decide) (by omega) _ l n2 [.int .i64 n2] (fun _ => True) (fun _ => False) rfl rfl ?aP (fun _ hk => hk.elim) ?aF ?aO ?aB ?aS ?aL ?_; (case aP => exact rfl); (case aF => exact fun _ _ => trivial); (case aO => exact HO4.out); (case aB => exact Below.refl _ _); (case aS => exact HG4.out); (case aL => exact HQ2.out); intro v5 w5 ho5 hb5 hg5 hat5)
        have hmv5 : Mv (fun k => (Value.slice A7 l.length c7).ownBlock = some k) w4 w5 := ((Mv.refl _ w4)).grown hg5 (fun k hk _ => hk)
        have HUB := Aside0.mk (Kd.R_bound HO4.out).1
        have HI5 := Aside0.mk (show IsS133 w w5 g s2 p2 c2 from ⟨hmv5.heap HI4.out.1 (fun e => by have := (HUB.out g e).2.1; omega), HI4.out.2⟩)
        have HB5 := Aside0.mk (Below.trans HB4.out (Mv.below hmv5 HB4.out.size (fun k hk => by have := (HUB.out k hk).2.1; have := HGE.out; omega)))
        have HO5 := Aside0.mk ho5
        clear ho5 hb5 hg5 hat5 hmv5 HI4 HB4 HO4
        go_wp2
        go_roundg ki
        case measure => have := HK.out; omega
        case rel => exact ⟨s2, p2, c2, _, HO5, HI5, HB5, ⟨by have := HK.out; omega⟩, H⟩
       ·rw [if_neg q2] at h
        exact absurd h (by simp)
      ·rw [if_neg q1] at h
       obtain ⟨hl7, hc7, hC7⟩ := Kd.R_reads' HO3.out
       by_cases q2 : c = 0
       ·subst q2
        rw [if_pos rfl] at h
        obtain ⟨bb, hIs, h⟩ := Option.bind_eq_some_iff.mp h
        have q3 : decide (wrap64 ((s.size : Int) - p) > 0) = false := decide_eq_false (fun hh => q1 ⟨hh, rfl⟩)
        have HX := Aside0.mk (gongref06_Is.calls ki A7 c7 l bb w3 hC7 hc7 hIs)
        have HC7 := Aside0.mk hC7
        have HQ7 := Aside0.mk hc7
        have H := Aside0.mk h
        clear q1 h hl7 hC7 hc7 hIs
        go_wp2_with fail
        refine HX.out.mono ?_
        rintro e w4 ⟨rfl, hd4⟩
        have HB4 := Aside0.mk (Below.trans HB3.out (Below.mono hd4.below HB3.out.size))
        have HC4 := Aside0.mk (Kd.C_below HC7.out hd4.below)
        clear hd4 hc2
        cases bb with
        | true =>
         have h := H.out
         rw [if_pos rfl] at h
         obtain ⟨qq, hP, h⟩ := Option.bind_eq_some_iff.mp h
         simp only [Option.some.injEq, Prod.mk.injEq] at h
         obtain ⟨rfl, rfl⟩ := h
         have HP := Aside0.mk (gongref06_Put.calls ki A7 c7 l qq w4 HC4.out HQ7.out hP)
         clear H hP HC4
         go_wp2_with fail
         refine HP.out.mono ?_
         rintro e w5 ⟨rfl, hb5⟩
         have HB5 := Aside0.mk (Below.trans HB4.out (Below.mono hb5 HB4.out.size))
         clear hb5 HP
         go_wp2
         go_ret2
         exact ⟨rfl, HB5.out⟩
        | false =>
         have h := H.out
         rw [if_neg (by decide)] at h
         simp only [Option.some.injEq, Prod.mk.injEq] at h
         obtain ⟨rfl, rfl⟩ := h
         clear H HC4
         go_wp2
         go_ret2
         exact ⟨rfl, HB4.out⟩
       ·rw [if_neg q2] at h
        simp only [Option.some.injEq, Prod.mk.injEq] at h
        obtain ⟨rfl, rfl⟩ := h
        have q4 : (c == 0) = false := beq_eq_false_iff_ne.mpr q2
        have q5 : (c != 0) = true := bne_iff_ne.mpr q2
        by_cases q6 : 0 < wrap64 ((s.size : Int) - p)
        ·have q3 : decide (wrap64 ((s.size : Int) - p) > 0) = true := decide_eq_true q6
         clear q1 q2 q6 hl7 hC7 hc7
         go_wp2
         go_ret2
         exact ⟨rfl, HB3.out⟩
        ·have q3 : decide (wrap64 ((s.size : Int) - p) > 0) = false := decide_eq_false q6
         clear q1 q2 q6 hl7 hC7 hc7
         go_wp2
         go_ret2
         exact ⟨rfl, HB3.out⟩
   ·rw [if_neg hn] at h
    exact absurd h (by simp)
end Go.Proofs.YtfgdnnbhlnbojaaGreatDoor.XPdR
