-- Laid by extprint.py (the session's own driver): functions told by the kit's printer and by hand.
import Derived.Test.YthacblokhhhlmaaDoorXFfx0
namespace Go.Proofs.YthacblokhhhlmaaDoor.XFf
open Go.RowKit Gong Go.Proofs.YthacblokhhhlmaaDoorW.PrintWords Go.Proofs.YthacblokhhhlmaaDoorW.PrintLast Go.Proofs.YthacblokhhhlmaaDoorW.PrintMore
attribute [local go_sem] max2_int min2_int max_two min_two max_three min_three max_four min_four   -- for this text's walks alone
set_option linter.unusedVariables false
set_option linter.unusedSimpArgs false

/-! ### frame_New: function 4 -/
/-- A framer: what it may be at most, what it waits for, the number so far, its digits, the message so far, how many chunks were dropped. -/
structure Fm where
  most : Int
  state : Int
  number : Int
  digits : Int
  body : List UInt8
  dropped : Int
/-- Where it lies. -/
structure FmAt (w : World) (B g : Nat) (F : Fm) (bv : Value) : Prop where
  blk : w.heap[g]? = some (.cells #[.int .i64 F.most, .int .i64 F.state, .int .i64 F.number, .int .i64 F.digits, bv, .int .i64 F.dropped] 45 (0, 0))
  row : BRow w B 5 bv F.body
  ge : B ≤ g
theorem FmAt.ne {w : World} {B g : Nat} {F : Fm} {bv : Value} (h : FmAt w B g F bv) : bv.ownBlock ≠ some g := owns_ne h.row h.blk (by decide)
theorem FmAt.mv {w w' : World} {B g : Nat} {F : Fm} {bv : Value} {S : Nat → Prop} (h : FmAt w B g F bv) (hm : Mv S w w') (h1 : ¬ S g) (h2 : ∀ k, bv.ownBlock = some k → ¬ S k) : FmAt w' B g F bv :=
  ⟨hm.heap h.blk h1, h.row.mv hm h2, h.ge⟩
theorem FmAt.lt {w : World} {B g : Nat} {F : Fm} {bv : Value} (h : FmAt w B g F bv) : g < w.heap.size := (Array.getElem?_eq_some_iff.1 h.blk).1
set_option maxHeartbeats 1600000 in
set_option maxRecDepth 100000 in
theorem frame_New.ok (a0 : Int) (w : World) (h0 : 1 ≤ a0) (h1 : a0 ≤ 65535) :
    Calls Tryd.prog 4 #[.int .i64 a0] w fun e w' => e = .returned (.tuple #[.pointer (some ⟨w.heap.size, 0, none⟩), .int .i64 0]) ∧ FmAt w' w.heap.size w.heap.size ⟨a0, 0, 0, 0, [], 0⟩ (.slice none 0 0) ∧ Mv (fun _ => False) w w' := by
  have e0 : decide (a0 < 1) = false := decide_eq_false (by omega)
  have e1 : decide (a0 > 65535) = false := decide_eq_false (by omega)
  go_enter Tryd.func4, Tryd.ntmps4
  go_wp2
  go_ret2
  refine ⟨by simp, ⟨?_, BRow.nil _ _ _, Nat.le_refl _⟩, (Mv.refl _ w).alloc _⟩
  simpa using heap_alloc_new w _
set_option maxHeartbeats 1600000 in
set_option maxRecDepth 100000 in
theorem frame_New.bad (a0 : Int) (w : World) (h : a0 < 1 ∨ 65535 < a0) :
    Calls Tryd.prog 4 #[.int .i64 a0] w fun e w' => e = .returned (.tuple #[.pointer none, .int .i64 1]) ∧ w' = w := by
  go_enter Tryd.func4, Tryd.ntmps4
  by_cases h0 : a0 < 1
  · have e0 : decide (a0 < 1) = true := decide_eq_true h0
    go_wp2
    go_ret2
    exact ⟨rfl, rfl⟩
  · have e0 : decide (a0 < 1) = false := decide_eq_false h0
    have e1 : decide (a0 > 65535) = true := decide_eq_true (by omega)
    go_wp2
    go_ret2
    exact ⟨rfl, rfl⟩

/-! ### gongref12_New: function 5 -/
/-- The reference's framer: how long a message may be, what of the stream belongs to none yet, is it dead, how many chunks were dropped. -/
structure Rf where
  most : Int
  s : ByteArray
  dead : Bool
  dropped : Int
structure RfAt (w : World) (B g : Nat) (R : Rf) : Prop where
  blk : w.heap[g]? = some (.cells #[.int .i64 R.most, .string R.s, .bool R.dead, .int .i64 R.dropped] 47 (0, 0))
  ge : B ≤ g
theorem RfAt.mv {w w' : World} {B g : Nat} {R : Rf} {S : Nat → Prop} (h : RfAt w B g R) (hm : Mv S w w') (h1 : ¬ S g) : RfAt w' B g R := ⟨hm.heap h.blk h1, h.ge⟩
theorem RfAt.lt {w : World} {B g : Nat} {R : Rf} (h : RfAt w B g R) : g < w.heap.size := (Array.getElem?_eq_some_iff.1 h.blk).1
set_option maxHeartbeats 1600000 in
set_option maxRecDepth 100000 in
theorem gongref12_New.ok (a0 : Int) (w : World) (h0 : 1 ≤ a0) (h1 : a0 ≤ 65535) :
    Calls Tryd.prog 5 #[.int .i64 a0] w fun e w' => e = .returned (.tuple #[.pointer (some ⟨w.heap.size, 0, none⟩), .int .i64 0]) ∧ RfAt w' w.heap.size w.heap.size ⟨a0, ⟨#[]⟩, false, 0⟩ ∧ Mv (fun _ => False) w w' := by
  have e0 : decide (a0 < 1) = false := decide_eq_false (by omega)
  have e1 : decide (a0 > 65535) = false := decide_eq_false (by omega)
  go_enter Tryd.func5, Tryd.ntmps5
  go_wp2
  go_ret2
  refine ⟨by simp, ⟨?_, Nat.le_refl _⟩, (Mv.refl _ w).alloc _⟩
  simpa using heap_alloc_new w _
set_option maxHeartbeats 1600000 in
set_option maxRecDepth 100000 in
theorem gongref12_New.bad (a0 : Int) (w : World) (h : a0 < 1 ∨ 65535 < a0) :
    Calls Tryd.prog 5 #[.int .i64 a0] w fun e w' => e = .returned (.tuple #[.pointer none, .int .i64 1]) ∧ w' = w := by
  go_enter Tryd.func5, Tryd.ntmps5
  by_cases h0 : a0 < 1
  · have e0 : decide (a0 < 1) = true := decide_eq_true h0
    go_wp2
    go_ret2
    exact ⟨rfl, rfl⟩
  · have e0 : decide (a0 < 1) = false := decide_eq_false h0
    have e1 : decide (a0 > 65535) = true := decide_eq_true (by omega)
    go_wp2
    go_ret2
    exact ⟨rfl, rfl⟩

/-! ### strconv_Itoa: function 15 -/
def strconv_Itoa.f (a0 : Int) : Option ByteArray :=
  if -9223372036854775808 ≤ a0 ∧ a0 ≤ 9223372036854775807 then some ⟨(Lib.itoa a0).toArray⟩ else none
theorem strconv_Itoa.calls (a0 : Int) (r : ByteArray) (w : World) (hG : Gl w) (h : strconv_Itoa.f a0 = some r) :
    Calls Tryd.prog 15 #[.int .i64 a0] w fun e w' => e = .returned (.string r) ∧ Below w.heap.size w w' := by
  unfold strconv_Itoa.f at h
  by_cases hc : -9223372036854775808 ≤ a0 ∧ a0 ≤ 9223372036854775807
  · rw [if_pos hc] at h
    obtain rfl := Option.some.inj h
    refine (Tryd.strconv_Itoa a0 hc.1 hc.2 w hG.tab).mono ?_
    rintro e w' ⟨rfl, k, os, rfl⟩
    exact ⟨rfl, Lib.below_grow _ w (Nat.le_refl _) k os⟩
  · rw [if_neg hc] at h
    exact absurd h (by simp)

/-! ### frame_Frame: function 6 -/
def frame_Frame.f (a0 : ByteArray) : Option (ByteArray × Int) := if a0.toList = ([] : List UInt8) then (some ((⟨#[]⟩ : ByteArray), 1)) else (if (a0.size : Int) > 65535 then (some ((⟨#[]⟩ : ByteArray), 2)) else ((strconv_Itoa.f (a0.size : Int)).bind fun t101 => (if t101.size + 1 ≤ 9223372036854775807 then (if (t101 ++ (⟨#[32]⟩ : ByteArray)).size + a0.size ≤ 9223372036854775807 then (some ((t101 ++ (⟨#[32]⟩ : ByteArray)) ++ a0, 0)) else (none)) else (none))))
set_option maxHeartbeats 8000000 in
set_option maxRecDepth 100000 in
theorem frame_Frame.calls (a0 : ByteArray) (r1 : ByteArray) (r2 : Int) (w : World) (hG : Gl w) (h : frame_Frame.f a0 = some (r1, r2)) :
    Calls Tryd.prog 6 #[.string a0] w fun e w' => e = .returned (.tuple #[.string r1, .int .i64 r2]) ∧ Below w.heap.size w w' := by
  have HGl := Aside0.mk hG
  clear hG
  have HB := Aside0.mk (Below.refl w.heap.size w)
  have H : (if a0.toList = ([] : List UInt8) then (some ((⟨#[]⟩ : ByteArray), 1)) else (if (a0.size : Int) > 65535 then (some ((⟨#[]⟩ : ByteArray), 2)) else ((strconv_Itoa.f (a0.size : Int)).bind fun t101 => (if t101.size + 1 ≤ 9223372036854775807 then (if (t101 ++ (⟨#[32]⟩ : ByteArray)).size + a0.size ≤ 9223372036854775807 then (some ((t101 ++ (⟨#[32]⟩ : ByteArray)) ++ a0, 0)) else (none)) else (none))))) = some (r1, r2) := h
  clear h
  by_cases c2 : a0.toList = ([] : List UInt8)
  · rw [if_pos c2] at H
    have c2b0 : (a0.toList == ([] : List UInt8)) = true := beq_iff_eq.mpr c2
    have c2b1 : (a0.toList != ([] : List UInt8)) = false := bne_eq_false_iff_eq.mpr c2
    clear c2
    simp only [Option.some.injEq, Prod.mk.injEq] at H
    obtain ⟨rfl, rfl⟩ := H
    go_enter Tryd.func6, Tryd.ntmps6
    go_wp2
    go_ret2
    exact ⟨by first | rfl | (simp only [i64_w, i32_w]; rfl) | (simp [errW_none, errW_some] <;> rfl) | (simp [*, errW_none, errW_some] <;> rfl), by repeat (first | (with_reducible first | exact HB.out | apply below_alloc | apply pw_below_drewN | apply below_drew1) | exact HB.out)⟩
  rw [if_neg c2] at H
  have c2b0 : (a0.toList == ([] : List UInt8)) = false := beq_eq_false_iff_ne.mpr c2
  have c2b1 : (a0.toList != ([] : List UInt8)) = true := bne_iff_ne.mpr c2
  by_cases c3 : (a0.size : Int) > 65535
  · rw [if_pos c3] at H
    have c3b0 : decide (65535 < (a0.size : Int)) = true := decide_eq_true c3
    have c3b1 : decide (65535 < a0.size) = true := decide_eq_true (by omega)
    clear c3
    simp only [Option.some.injEq, Prod.mk.injEq] at H
    obtain ⟨rfl, rfl⟩ := H
    go_enter Tryd.func6, Tryd.ntmps6
    go_wp2
    go_ret2
    exact ⟨by first | rfl | (simp only [i64_w, i32_w]; rfl) | (simp [errW_none, errW_some] <;> rfl) | (simp [*, errW_none, errW_some] <;> rfl), by repeat (first | (with_reducible first | exact HB.out | apply below_alloc | apply pw_below_drewN | apply below_drew1) | exact HB.out)⟩
  rw [if_neg c3] at H
  have c3b0 : decide (65535 < (a0.size : Int)) = false := decide_eq_false c3
  have c3b1 : decide (65535 < a0.size) = false := decide_eq_false (by omega)
  clear c3
  replace H := Option.bind_eq_some_iff.mp H
  obtain ⟨t101, A40, H⟩ := H
  replace H : (if t101.size + 1 ≤ 9223372036854775807 then (if (t101 ++ (⟨#[32]⟩ : ByteArray)).size + a0.size ≤ 9223372036854775807 then (some ((t101 ++ (⟨#[32]⟩ : ByteArray)) ++ a0, 0)) else (none)) else (none)) = some (r1, r2) := H
  have A4 := Aside0.mk A40
  clear A40
  by_cases c5 : t101.size + 1 ≤ 9223372036854775807
  rotate_left
  · rw [if_neg c5] at H
    exact absurd H (by simp)
  rw [if_pos c5] at H
  have c5b0 := eq_true c5
  have c5b1 : decide (t101.size + 1 ≤ 9223372036854775807) = true := decide_eq_true c5
  try have c5b2 : (9223372036854775807 < t101.size + 1) = False := eq_false (Nat.not_lt.2 c5)
  by_cases c6 : (t101 ++ (⟨#[32]⟩ : ByteArray)).size + a0.size ≤ 9223372036854775807
  rotate_left
  · rw [if_neg c6] at H
    exact absurd H (by simp)
  rw [if_pos c6] at H
  have c6b0 := eq_true c6
  have c6b1 : decide ((t101 ++ (⟨#[32]⟩ : ByteArray)).size + a0.size ≤ 9223372036854775807) = true := decide_eq_true c6
  try have c6b2 : (9223372036854775807 < (t101 ++ (⟨#[32]⟩ : ByteArray)).size + a0.size) = False := eq_false (Nat.not_lt.2 c6)
  have c6z2 := c6b2
  simp only [ByteArray.size_append] at c6z2
  have c6z3 := c6z2
  try simp only [size_lit1, size_lit2, size_lit3, size_lit4] at c6z3
  simp only [Option.some.injEq, Prod.mk.injEq] at H
  obtain ⟨rfl, rfl⟩ := H
  go_enter Tryd.func6, Tryd.ntmps6
  go_wp2_with (first | ((with_reducible refine gate_callee (f := 15) rfl ?_); refine goesL_ (some 13) rfl rfl Tryd.func15 (by kernel_rfl) rfl #[.int .i64 (a0.size : Int)] rfl (by (try simp only [List.map_toArray, List.map_cons, List.map_nil]); first | done | rfl | (simp only [List.length_drop, List.length_take]; rfl)) ?_; (with_reducible refine (strconv_Itoa.calls (a0.size : Int) t101 _ ?side1 A4.out).mono ?_); (case side1 => first | (with_reducible exact HGl.out) | exact HGl.out.below (by repeat (first | (with_reducible first | exact HB.out | apply below_alloc | apply pw_below_drewN | apply below_drew1 | refine below_set ?_ (Aside0.out (by assumption))) | exact HB.out | (refine below_set ?_ (Aside0.out (by assumption))) | exact Below.refl _ _))); rintro e w7 ⟨rfl, hb⟩; refine ⟨_, rfl, ?_⟩; have n0_ := Aside0.mk (below_step (by repeat (first | (with_reducible first | exact HB.out | apply below_alloc | apply pw_below_drewN | apply below_drew1) | exact HB.out)) hb); clear HB; have HB := n0_; clear n0_; (try clear hb); (try clear hb2); (try clear hk); (try clear hi)))
  go_ret2
  exact ⟨by first | rfl | (simp only [i64_w, i32_w]; rfl) | (simp [errW_none, errW_some] <;> rfl) | (simp [*, errW_none, errW_some] <;> rfl), by repeat (first | (with_reducible first | exact HB.out | apply below_alloc | apply pw_below_drewN | apply below_drew1) | exact HB.out)⟩

/-! ### gongref06_Number: function 16 -/
def gongref06_Number.l0 : Nat → Int → ByteArray → Option (ByteArray)
  | 0, _, _ => none
  | k + 1, x0, x3 => if x0 ≥ 10 then ((some (([(wrap64 (48 + (Int.tmod (wrap64 (Int.tdiv x0 10)) 10))) % 256] : List Int) : List Int)).bind fun y105 => (if (strOfNums y105).size + x3.size ≤ 9223372036854775807 then (gongref06_Number.l0 k (wrap64 (Int.tdiv x0 10)) ((strOfNums y105) ++ x3)) else (none))) else (some x3)
def gongref06_Number.f (k : Nat) (a0 : Int) : Option (ByteArray) := gongref06_Number.l0 k a0 (strOfNums (([(wrap64 (48 + (Int.tmod a0 10))) % 256] : List Int)))
theorem gongref06_Number.mono_l : ∀ k, (∀ y0 y1, LeO (gongref06_Number.l0 k y0 y1) (gongref06_Number.l0 (k + 1) y0 y1))
  | 0 => fun _ _ r h => by simp [gongref06_Number.l0] at h
  | k + 1 => by
    have ih0 := gongref06_Number.mono_l k
    · intro y0 y1
      unfold gongref06_Number.l0
      repeat' first
      | (with_reducible exact ih0 _ _)
      | (with_reducible exact LeO.refl _)
      | (with_reducible exact LeO.none _)
      | (with_reducible refine LeO.ite ?_ ?_)
      | (with_reducible refine LeO.bind ?_ (fun _ => ?_))
      | exact ih0 _ _
      | exact LeO.none _
      | refine LeO.ite ?_ ?_
      | refine LeO.bind ?_ (fun _ => ?_)
theorem gongref06_Number.mono : ∀ a0 k, LeO (gongref06_Number.f k a0) (gongref06_Number.f (k + 1) a0) := by
  intro a0 k
  have ih0 := gongref06_Number.mono_l k
  unfold gongref06_Number.f
  repeat' first
      | (with_reducible exact ih0 _ _)
      | (with_reducible exact LeO.refl _)
      | (with_reducible exact LeO.none _)
      | (with_reducible refine LeO.ite ?_ ?_)
      | (with_reducible refine LeO.bind ?_ (fun _ => ?_))
      | exact ih0 _ _
      | exact LeO.none _
      | refine LeO.ite ?_ ?_
      | refine LeO.bind ?_ (fun _ => ?_)
set_option maxHeartbeats 8000000 in
set_option maxRecDepth 100000 in
theorem gongref06_Number.calls (k : Nat) (a0 : Int) (r : ByteArray) (w : World) (h : gongref06_Number.f k a0 = some r) :
    Calls Tryd.prog 16 #[.int .i64 a0] w fun e w' => e = .returned (.string r) ∧ Below w.heap.size w w' := by
  have HB := Aside0.mk (Below.refl w.heap.size w)
  have H : (gongref06_Number.l0 k a0 (strOfNums (([(wrap64 (48 + (Int.tmod a0 10))) % 256] : List Int)))) = some r := h
  clear h
  obtain ⟨y102, hy102⟩ : ∃ y_ : List Int, y_ = (([(wrap64 (48 + (Int.tmod a0 10))) % 256] : List Int)) := ⟨_, rfl⟩
  replace H : (gongref06_Number.l0 k a0 (strOfNums y102)) = some r := by first | (rw [hy102]; with_reducible exact H) | (have H2_ := (Option.bind_some _ _).symm.trans H; rw [hy102]; with_reducible exact H2_) | (have H2_ := (Option.bind_some _ _).symm.trans H; with_reducible exact H2_) | with_reducible exact H | (rw [hy102]; exact H) | exact H
  have Ny102 := Aside0.mk hy102
  clear hy102
  have H' := Aside0.mk H
  clear H
  go_enter Tryd.func16, Tryd.ntmps16
  go_wp2_with (first | ((with_reducible refine gate_dst (N := 8) rfl ?_); refine Kd.R_lit (Kd.int .u8) _ 5 ?hg (N := 8) ?hd (xs := ([(wrap64 (48 + (Int.tmod a0 10))) % 256] : List Int)) (inner := [.int .u8 ((wrap64 (48 + (Int.tmod a0 10))) % 256)]) (ok := fun _ => True) (okp := fun _ => True) ?hr ?hp (fun _ hk => hk) trivial (Below.refl _ _) (Nat.le_refl _) (by simp) ?_; (case hd => rfl); (case hg => rfl); (case hr => first | (go_simp; done) | (go_simp; rfl)); (case hp => exact (Reps.one (show Kd.M (Kd.int .u8) _ _ _ ((wrap64 (48 + (Int.tmod a0 10))) % 256) [.int .u8 ((wrap64 (48 + (Int.tmod a0 10))) % 256)] from rfl) (Reps.none _ _))); intro v103 w2 ho3 hb hg_ hnew_; clear hg_ hnew_; (first | rw [← Ny102.out] at ho3 | (simp only [Int.reduceToNat] at ho3; rw [← Ny102.out] at ho3)); have n0_ := Aside0.mk (Kd.R_lower ho3 (below_size (by repeat (first | (with_reducible first | exact HB.out | apply below_alloc | apply pw_below_drewN | apply below_drew1) | exact HB.out)))); have n1_ := Aside0.mk (below_step (by repeat (first | (with_reducible first | exact HB.out | apply below_alloc | apply pw_below_drewN | apply below_drew1) | exact HB.out)) hb); clear HB; have HO104 := n0_; have HB := n1_; clear n0_ n1_; clear hb ho3; have hcv4 := own_string (P := Tryd.prog) Tryd.underlying43 Tryd.underlying5 Tryd.underlying9 (Kd.own_of_R HO104.out)))
  go_loopg [0, 3] k (fun kq v0 v3 w' => ∃ (x0_1 : Int) (x3_1 : ByteArray), v0 = .int .i64 x0_1 ∧ v3 = .string x3_1 ∧ Aside0 (gongref06_Number.l0 kq x0_1 x3_1 = some r) ∧ Aside0 (kq ≤ k) ∧ Aside0 (Below w.heap.size w w'))
  case atStart => exact ⟨(a0), (strOfNums y102), (by first | rfl | (simp; done) | (simp [*]; done) | (simp [*]; exact isEmpty_bne _) | (simp; exact isEmpty_bne _)), (by first | rfl | (simp; done) | (simp [*]; done) | (simp [*]; exact isEmpty_bne _) | (simp; exact isEmpty_bne _)), H', ⟨Nat.le_refl _⟩, ⟨by repeat (first | (with_reducible first | exact HB.out | apply below_alloc | apply pw_below_drewN | apply below_drew1) | exact HB.out)⟩⟩
  case round =>
    clear H'
    try clear c1
    try clear p2
    try clear hcv4
    obtain ⟨x0_1, x3_1, rfl, rfl, HA, HK1, HB⟩ := hrel
    cases gk with
    | zero => exact absurd HA.out (by simp [gongref06_Number.l0])
    | succ k1 =>
      have H := HA.out
      clear HA
      simp only [gongref06_Number.l0] at H
      by_cases c5 : x0_1 ≥ 10
      · rw [if_pos c5] at H
        have c5b0 : decide (10 ≤ x0_1) = true := decide_eq_true c5
        clear c5
        obtain ⟨y105, hy105⟩ : ∃ y_ : List Int, y_ = (([(wrap64 (48 + (Int.tmod (wrap64 (Int.tdiv x0_1 10)) 10))) % 256] : List Int)) := ⟨_, rfl⟩
        replace H : (if (strOfNums y105).size + x3_1.size ≤ 9223372036854775807 then (gongref06_Number.l0 k1 (wrap64 (Int.tdiv x0_1 10)) ((strOfNums y105) ++ x3_1)) else (none)) = some r := by first | (rw [hy105]; with_reducible exact H) | (have H2_ := (Option.bind_some _ _).symm.trans H; rw [hy105]; with_reducible exact H2_) | (have H2_ := (Option.bind_some _ _).symm.trans H; with_reducible exact H2_) | with_reducible exact H | (rw [hy105]; exact H) | exact H
        have Ny105 := Aside0.mk hy105
        clear hy105
        by_cases c6 : (strOfNums y105).size + x3_1.size ≤ 9223372036854775807
        · rw [if_pos c6] at H
          have c6b0 := eq_true c6
          have c6b1 : decide ((strOfNums y105).size + x3_1.size ≤ 9223372036854775807) = true := decide_eq_true c6
          try have c6b2 : (9223372036854775807 < (strOfNums y105).size + x3_1.size) = False := eq_false (Nat.not_lt.2 c6)
          have H' := Aside0.mk H
          clear H
          go_wp2_with (first | ((with_reducible refine gate_dst (N := 18) rfl ?_); refine Kd.R_lit (Kd.int .u8) _ 5 ?hg (N := 18) ?hd (xs := ([(wrap64 (48 + (Int.tmod (wrap64 (Int.tdiv x0_1 10)) 10))) % 256] : List Int)) (inner := [.int .u8 ((wrap64 (48 + (Int.tmod (wrap64 (Int.tdiv x0_1 10)) 10))) % 256)]) (ok := fun _ => True) (okp := fun _ => True) ?hr ?hp (fun _ hk => hk) trivial (Below.refl _ _) (Nat.le_refl _) (by simp) ?_; (case hd => rfl); (case hg => rfl); (case hr => first | (go_simp; done) | (go_simp; rfl)); (case hp => exact (Reps.one (show Kd.M (Kd.int .u8) _ _ _ ((wrap64 (48 + (Int.tmod (wrap64 (Int.tdiv x0_1 10)) 10))) % 256) [.int .u8 ((wrap64 (48 + (Int.tmod (wrap64 (Int.tdiv x0_1 10)) 10))) % 256)] from rfl) (Reps.none _ _))); intro v106 w7 ho8 hb hg_ hnew_; clear hg_ hnew_; (first | rw [← Ny105.out] at ho8 | (simp only [Int.reduceToNat] at ho8; rw [← Ny105.out] at ho8)); have n0_ := Aside0.mk (Kd.R_lower ho8 (below_size (by repeat (first | (with_reducible first | exact HB.out | apply below_alloc | apply pw_below_drewN | apply below_drew1) | exact HB.out)))); have n1_ := Aside0.mk (below_step (by repeat (first | (with_reducible first | exact HB.out | apply below_alloc | apply pw_below_drewN | apply below_drew1) | exact HB.out)) hb); clear HB; have HO107 := n0_; have HB := n1_; clear n0_ n1_; clear hb ho8; have hcv9 := own_string (P := Tryd.prog) Tryd.underlying43 Tryd.underlying5 Tryd.underlying9 (Kd.own_of_R HO107.out)))
          go_roundg k1
          case measure => have := HK1.out; omega
          case rel => exact ⟨(wrap64 (Int.tdiv x0_1 10)), ((strOfNums y105) ++ x3_1), (by first | rfl | (simp; done) | (simp [*]; done) | (simp [*]; exact isEmpty_bne _) | (simp; exact isEmpty_bne _)), (by first | rfl | (simp; done) | (simp [*]; done) | (simp [*]; exact isEmpty_bne _) | (simp; exact isEmpty_bne _)), H', ⟨by have := HK1.out; omega⟩, ⟨by repeat (first | (with_reducible first | exact HB.out | apply below_alloc | apply pw_below_drewN | apply below_drew1) | exact HB.out)⟩⟩
        · rw [if_neg c6] at H
          exact absurd H (by simp)
      · rw [if_neg c5] at H
        have c5b0 : decide (10 ≤ x0_1) = false := decide_eq_false c5
        clear c5
        obtain rfl := Option.some.inj H
        go_wp2
        go_ret
        exact ⟨by first | rfl | (simp only [i64_w, i32_w]; rfl) | (simp [errW_none, errW_some] <;> rfl) | (simp [*, errW_none, errW_some] <;> rfl), by repeat (first | (with_reducible first | exact HB.out | apply below_alloc | apply pw_below_drewN | apply below_drew1) | exact HB.out)⟩

/-! ### gongref12_Frame: function 7 -/
def gongref12_Frame.f (k : Nat) (a0 : ByteArray) : Option (ByteArray × Int) := if a0.toList = ([] : List UInt8) then (some ((⟨#[]⟩ : ByteArray), 1)) else (if (a0.size : Int) > 65535 then (some ((⟨#[]⟩ : ByteArray), 2)) else ((gongref06_Number.f k (a0.size : Int)).bind fun t108 => (if t108.size + 1 ≤ 9223372036854775807 then (if (t108 ++ (⟨#[32]⟩ : ByteArray)).size + a0.size ≤ 9223372036854775807 then (some ((t108 ++ (⟨#[32]⟩ : ByteArray)) ++ a0, 0)) else (none)) else (none))))
theorem gongref12_Frame.mono : ∀ a0 k, LeO (gongref12_Frame.f k a0) (gongref12_Frame.f (k + 1) a0) := by
  intro a0 k
  unfold gongref12_Frame.f
  repeat' first
      | (with_reducible exact gongref06_Number.mono _ _)
      | (with_reducible exact LeO.refl _)
      | (with_reducible exact LeO.none _)
      | (with_reducible refine LeO.ite ?_ ?_)
      | (with_reducible refine LeO.bind ?_ (fun _ => ?_))
      | exact gongref06_Number.mono _ _
      | exact LeO.none _
      | refine LeO.ite ?_ ?_
      | refine LeO.bind ?_ (fun _ => ?_)
set_option maxHeartbeats 8000000 in
set_option maxRecDepth 100000 in
theorem gongref12_Frame.calls (k : Nat) (a0 : ByteArray) (r1 : ByteArray) (r2 : Int) (w : World) (h : gongref12_Frame.f k a0 = some (r1, r2)) :
    Calls Tryd.prog 7 #[.string a0] w fun e w' => e = .returned (.tuple #[.string r1, .int .i64 r2]) ∧ Below w.heap.size w w' := by
  have HB := Aside0.mk (Below.refl w.heap.size w)
  have H : (if a0.toList = ([] : List UInt8) then (some ((⟨#[]⟩ : ByteArray), 1)) else (if (a0.size : Int) > 65535 then (some ((⟨#[]⟩ : ByteArray), 2)) else ((gongref06_Number.f k (a0.size : Int)).bind fun t108 => (if t108.size + 1 ≤ 9223372036854775807 then (if (t108 ++ (⟨#[32]⟩ : ByteArray)).size + a0.size ≤ 9223372036854775807 then (some ((t108 ++ (⟨#[32]⟩ : ByteArray)) ++ a0, 0)) else (none)) else (none))))) = some (r1, r2) := h
  clear h
  by_cases c2 : a0.toList = ([] : List UInt8)
  · rw [if_pos c2] at H
    have c2b0 : (a0.toList == ([] : List UInt8)) = true := beq_iff_eq.mpr c2
    have c2b1 : (a0.toList != ([] : List UInt8)) = false := bne_eq_false_iff_eq.mpr c2
    clear c2
    simp only [Option.some.injEq, Prod.mk.injEq] at H
    obtain ⟨rfl, rfl⟩ := H
    go_enter Tryd.func7, Tryd.ntmps7
    go_wp2
    go_ret2
    exact ⟨by first | rfl | (simp only [i64_w, i32_w]; rfl) | (simp [errW_none, errW_some] <;> rfl) | (simp [*, errW_none, errW_some] <;> rfl), by repeat (first | (with_reducible first | exact HB.out | apply below_alloc | apply pw_below_drewN | apply below_drew1) | exact HB.out)⟩
  rw [if_neg c2] at H
  have c2b0 : (a0.toList == ([] : List UInt8)) = false := beq_eq_false_iff_ne.mpr c2
  have c2b1 : (a0.toList != ([] : List UInt8)) = true := bne_iff_ne.mpr c2
  by_cases c3 : (a0.size : Int) > 65535
  · rw [if_pos c3] at H
    have c3b0 : decide (65535 < (a0.size : Int)) = true := decide_eq_true c3
    have c3b1 : decide (65535 < a0.size) = true := decide_eq_true (by omega)
    clear c3
    simp only [Option.some.injEq, Prod.mk.injEq] at H
    obtain ⟨rfl, rfl⟩ := H
    go_enter Tryd.func7, Tryd.ntmps7
    go_wp2
    go_ret2
    exact ⟨by first | rfl | (simp only [i64_w, i32_w]; rfl) | (simp [errW_none, errW_some] <;> rfl) | (simp [*, errW_none, errW_some] <;> rfl), by repeat (first | (with_reducible first | exact HB.out | apply below_alloc | apply pw_below_drewN | apply below_drew1) | exact HB.out)⟩
  rw [if_neg c3] at H
  have c3b0 : decide (65535 < (a0.size : Int)) = false := decide_eq_false c3
  have c3b1 : decide (65535 < a0.size) = false := decide_eq_false (by omega)
  clear c3
  replace H := Option.bind_eq_some_iff.mp H
  obtain ⟨t108, A40, H⟩ := H
  replace H : (if t108.size + 1 ≤ 9223372036854775807 then (if (t108 ++ (⟨#[32]⟩ : ByteArray)).size + a0.size ≤ 9223372036854775807 then (some ((t108 ++ (⟨#[32]⟩ : ByteArray)) ++ a0, 0)) else (none)) else (none)) = some (r1, r2) := H
  have A4 := Aside0.mk A40
  clear A40
  by_cases c5 : t108.size + 1 ≤ 9223372036854775807
  rotate_left
  · rw [if_neg c5] at H
    exact absurd H (by simp)
  rw [if_pos c5] at H
  have c5b0 := eq_true c5
  have c5b1 : decide (t108.size + 1 ≤ 9223372036854775807) = true := decide_eq_true c5
  try have c5b2 : (9223372036854775807 < t108.size + 1) = False := eq_false (Nat.not_lt.2 c5)
  by_cases c6 : (t108 ++ (⟨#[32]⟩ : ByteArray)).size + a0.size ≤ 9223372036854775807
  rotate_left
  · rw [if_neg c6] at H
    exact absurd H (by simp)
  rw [if_pos c6] at H
  have c6b0 := eq_true c6
  have c6b1 : decide ((t108 ++ (⟨#[32]⟩ : ByteArray)).size + a0.size ≤ 9223372036854775807) = true := decide_eq_true c6
  try have c6b2 : (9223372036854775807 < (t108 ++ (⟨#[32]⟩ : ByteArray)).size + a0.size) = False := eq_false (Nat.not_lt.2 c6)
  have c6z2 := c6b2
  simp only [ByteArray.size_append] at c6z2
  have c6z3 := c6z2
  try simp only [size_lit1, size_lit2, size_lit3, size_lit4] at c6z3
  simp only [Option.some.injEq, Prod.mk.injEq] at H
  obtain ⟨rfl, rfl⟩ := H
  go_enter Tryd.func7, Tryd.ntmps7
  go_wp2_with (first | ((with_reducible refine gate_callee (f := 16) rfl ?_); refine goesL_ (some 11) rfl rfl Tryd.func16 (by kernel_rfl) rfl #[.int .i64 (a0.size : Int)] rfl (by (try simp only [List.map_toArray, List.map_cons, List.map_nil]); first | done | rfl | (simp only [List.length_drop, List.length_take]; rfl)) ?_; (with_reducible refine (gongref06_Number.calls k (a0.size : Int) t108 _ A4.out).mono ?_); rintro e w7 ⟨rfl, hb⟩; refine ⟨_, rfl, ?_⟩; have n0_ := Aside0.mk (below_step (by repeat (first | (with_reducible first | exact HB.out | apply below_alloc | apply pw_below_drewN | apply below_drew1) | exact HB.out)) hb); clear HB; have HB := n0_; clear n0_; (try clear hb); (try clear hb2); (try clear hk); (try clear hi)))
  go_ret2
  exact ⟨by first | rfl | (simp only [i64_w, i32_w]; rfl) | (simp [errW_none, errW_some] <;> rfl) | (simp [*, errW_none, errW_some] <;> rfl), by repeat (first | (with_reducible first | exact HB.out | apply below_alloc | apply pw_below_drewN | apply below_drew1) | exact HB.out)⟩

/-! ### frame_Framer_head: function 20 -/
/-- A byte of the number, or the blank behind it. -/
def Fm.head (F : Fm) (b : Int) : Bool × Fm :=
  if F.state = 1 ∧ b = 32 then (true, ⟨F.most, 2, F.number, F.digits, F.body, F.dropped⟩) else
  if F.state = 0 ∧ b = 48 then (false, F) else
  if b < 48 ∨ 57 < b then (false, F) else
  (decide (wrap64 (wrap64 (F.number * 10) + (b - 48)) ≤ F.most), ⟨F.most, 1, wrap64 (wrap64 (F.number * 10) + (b - 48)), wrap64 (F.digits + 1), F.body, F.dropped⟩)
set_option maxHeartbeats 1600000 in
set_option maxRecDepth 100000 in
theorem frame_Framer_head.calls (B g : Nat) (F : Fm) (bv : Value) (b : Int) (w : World) (hF : FmAt w B g F bv) :
    Calls Tryd.prog 20 #[.pointer (some ⟨g, 0, none⟩), .int .u8 b] w fun e w' => e = .returned (.bool (F.head b).1) ∧ FmAt w' B g (F.head b).2 bv ∧ Mv (fun k => k = g) w w' := by
  obtain ⟨most, state, number, digits, body, dropped⟩ := F
  have HF := Aside0.mk hF
  have hc0 := blk_cell hF.blk 0
  have hc1 := blk_cell hF.blk 1
  have hc2 := blk_cell hF.blk 2
  have hc3 := blk_cell hF.blk 3
  have hf1 := blk_frozen hF.blk 1
  have hf2 := blk_frozen hF.blk 2
  have hf3 := blk_frozen hF.blk 3
  clear hF
  go_enter Tryd.func20, Tryd.ntmps20
  unfold Fm.head
  simp only
  by_cases h1 : state = 1 ∧ b = 32
  · rw [if_pos h1]
    obtain ⟨rfl, rfl⟩ := h1
    go_wp2
    go_ret
    exact ⟨rfl, ⟨blk_put HF.out.blk 1 _ rfl, HF.out.row.mv (Mv.setCell (S := fun k => k = g) (Mv.refl _ w) rfl _ _) (fun k hk e => HF.out.ne (by rw [hk, e])), HF.out.ge⟩, Mv.setCell (Mv.refl (fun k => k = g) w) rfl _ _⟩
  · rw [if_neg h1]
    by_cases h2 : state = 0 ∧ b = 48
    · rw [if_pos h2]
      obtain ⟨rfl, rfl⟩ := h2
      go_wp2
      go_ret
      exact ⟨rfl, HF.out, Mv.refl _ _⟩
    · rw [if_neg h2]
      have hst : (state = 1 ∧ (b == 32) = false) ∨ (state = 0 ∧ (b == 48) = false) ∨ ((state == 1) = false ∧ (state == 0) = false) := by
        by_cases hs : state = 1
        · exact .inl ⟨hs, beq_eq_false_iff_ne.mpr (fun e => h1 ⟨hs, e⟩)⟩
        · by_cases hz : state = 0
          · exact .inr (.inl ⟨hz, beq_eq_false_iff_ne.mpr (fun e => h2 ⟨hz, e⟩)⟩)
          · exact .inr (.inr ⟨beq_eq_false_iff_ne.mpr hs, beq_eq_false_iff_ne.mpr hz⟩)
      clear h1 h2
      by_cases h3 : b < 48 ∨ 57 < b
      · rw [if_pos h3]
        by_cases h4 : b < 48
        · have e4 : decide (b < 48) = true := decide_eq_true h4
          clear h3 h4
          rcases hst with ⟨rfl, e1⟩ | ⟨rfl, e1⟩ | ⟨e1, e2⟩
          all_goals
            go_wp2
            go_ret
            exact ⟨rfl, HF.out, Mv.refl _ _⟩
        · have e4 : decide (b < 48) = false := decide_eq_false h4
          have e5 : decide (b > 57) = true := decide_eq_true (by omega)
          clear h3 h4
          rcases hst with ⟨rfl, e1⟩ | ⟨rfl, e1⟩ | ⟨e1, e2⟩
          all_goals
            go_wp2
            go_ret
            exact ⟨rfl, HF.out, Mv.refl _ _⟩
      · rw [if_neg h3]
        have e4 : decide (b < 48) = false := decide_eq_false (by omega)
        have e5 : decide (b > 57) = false := decide_eq_false (by omega)
        have e6 : IntKind.u8.wrap (b - 48) = b - 48 := by
          simp [IntKind.wrap, IntKind.bits, IntKind.signed]
          omega
        have e7 : wrap64 (b - 48) = b - 48 := by unfold wrap64; omega
        clear h3
        rcases hst with ⟨rfl, e1⟩ | ⟨rfl, e1⟩ | ⟨e1, e2⟩
        all_goals
          go_wp2
          go_region
          all_goals
            go_wp2
            go_ret
            have hm := Mv.drew (Mv.setCell (Mv.setCell (Mv.setCell (Mv.refl (fun k => k = g) w) rfl 1 (.int .i64 1)) rfl 2 (.int .i64 (wrap64 (wrap64 (number * 10) + (b - 48))))) rfl 3 (.int .i64 (wrap64 (digits + 1))))
            first
              | exact ⟨rfl, ⟨blk_put (blk_put (blk_put HF.out.blk 1 (.int .i64 1) rfl) 2 (.int .i64 (wrap64 (wrap64 (number * 10) + (b - 48)))) rfl) 3 (.int .i64 (wrap64 (digits + 1))) rfl, HF.out.row.mv hm (fun k hk e => HF.out.ne (by rw [hk, e])), HF.out.ge⟩, hm⟩

/-! ### frame_Framer_empty: function 21 -/
set_option maxHeartbeats 1600000 in
set_option maxRecDepth 100000 in
theorem frame_Framer_empty.calls (B g : Nat) (F : Fm) (bv : Value) (w : World) (hF : FmAt w B g F bv) :
    Calls Tryd.prog 21 #[.pointer (some ⟨g, 0, none⟩)] w fun e w' => e = .returned (.tuple #[]) ∧ FmAt w' B g ⟨F.most, 0, 0, 0, [], F.dropped⟩ (.slice none 0 0) ∧ Mv (fun k => k = g) w w' := by
  obtain ⟨most, state, number, digits, body, dropped⟩ := F
  have HF := Aside0.mk hF
  have h0 := blk_cell hF.blk 1
  have h1 := blk_cell hF.blk 2
  have h2 := blk_cell hF.blk 3
  have h3 := blk_cell hF.blk 4
  have f0 := blk_frozen hF.blk 1
  have f1 := blk_frozen hF.blk 2
  have f2 := blk_frozen hF.blk 3
  have f3 := blk_frozen hF.blk 4
  obtain ⟨A, c, rfl⟩ := BRow.slice hF.row
  clear hF
  go_enter Tryd.func21, Tryd.ntmps21
  go_wp2
  go_end0
  exact ⟨rfl, ⟨blk_put (blk_put (blk_put (blk_put HF.out.blk 1 _ rfl) 2 _ rfl) 3 _ rfl) 4 _ rfl, BRow.nil _ _ _, HF.out.ge⟩, Mv.setCell (Mv.setCell (Mv.setCell (Mv.setCell (Mv.refl (fun k => k = g) w) rfl _ _) rfl _ _) rfl _ _) rfl _ _⟩

/-! ### frame_Framer_Feed: function 11 -/
def Fm.emptied (F : Fm) (s : Int) : Fm := ⟨F.most, s, 0, 0, [], F.dropped⟩
def mn (a b : Int) : Int := if a ≤ b then a else b
/-- A chunk, byte by byte, and message by message. -/
def Fm.feedL : Nat → Fm → ByteArray → List ByteArray → Option (List ByteArray × Int × Fm)
  | 0, _, _, _ => none
  | k + 1, F, chunk, msgs =>
    if chunk.size = 0 then some (msgs, 0, F) else
    if F.state = 0 ∨ F.state = 1 then
      if (F.head (bt chunk 0)).1 = true then Fm.feedL k (F.head (bt chunk 0)).2 (chunk.extract 1 chunk.size) msgs
      else some (msgs, 120, (F.head (bt chunk 0)).2.emptied 3)
    else if F.state = 2 ∧ 0 ≤ mn (wrap64 (F.number - (F.body.length : Int))) (chunk.size : Int) ∧ F.body.length + chunk.size ≤ 140737488355328 ∧ msgs.length < 8796093022208 then
      if ((F.body.length : Int) + mn (wrap64 (F.number - (F.body.length : Int))) (chunk.size : Int)) = F.number then
        Fm.feedL k (F.emptied 0) (chunk.extract (mn (wrap64 (F.number - (F.body.length : Int))) (chunk.size : Int)).toNat chunk.size) (msgs ++ [⟨(F.body ++ (chunk.extract 0 (mn (wrap64 (F.number - (F.body.length : Int))) (chunk.size : Int)).toNat).data.toList).toArray⟩])
      else Fm.feedL k ⟨F.most, F.state, F.number, F.digits, F.body ++ (chunk.extract 0 (mn (wrap64 (F.number - (F.body.length : Int))) (chunk.size : Int)).toNat).data.toList, F.dropped⟩ (chunk.extract (mn (wrap64 (F.number - (F.body.length : Int))) (chunk.size : Int)).toNat chunk.size) msgs
    else none
def Fm.feed (k : Nat) (F : Fm) (chunk : ByteArray) : Option (List ByteArray × Int × Fm) :=
  if F.state = 3 then some ([], 120, ⟨F.most, F.state, F.number, F.digits, F.body, wrap64 (F.dropped + 1)⟩) else Fm.feedL k F chunk []
theorem Fm.feedL_mono : ∀ k F c m, LeO (Fm.feedL k F c m) (Fm.feedL (k + 1) F c m)
  | 0, _, _, _ => fun r h => by simp [Fm.feedL] at h
  | k + 1, F, c, m => by
    unfold Fm.feedL
    exact LeO.ite (LeO.refl _) (LeO.ite (LeO.ite (Fm.feedL_mono k _ _ _) (LeO.refl _)) (LeO.ite (LeO.ite (Fm.feedL_mono k _ _ _) (Fm.feedL_mono k _ _ _)) (LeO.refl _)))
theorem Fm.feed_mono (F : Fm) (c : ByteArray) (k : Nat) : LeO (Fm.feed k F c) (Fm.feed (k + 1) F c) := by
  unfold Fm.feed
  exact LeO.ite (LeO.refl _) (Fm.feedL_mono k _ _ _)
theorem frm_u8 : (Tryd.prog.info? 5).map (fun i => (i.zero, i.size, i.bytes)) = some (some (.int .u8 0), 1, 1) := by kernel_rfl
theorem frm_str : (Tryd.prog.info? 9).map (fun i => (i.zero, i.size, i.bytes)) = some (some (.string ⟨#[]⟩), 1, 16) := by kernel_rfl
theorem R_mv {α : Type} {d : Kd α} {e base : Nat} {ok : Nat → Prop} {W W' : World} {v : Value} {xs : List α} {S : Nat → Prop} (h : d.R e W base ok v xs) (hm : Mv S W W')
    (hS : ∀ k cells q, base ≤ k → q ∈ e :: d.E → W.heap[k]? = some (.cells cells q (0, 0)) → ¬ S k) : d.R e W' base ok v xs :=
  Kd.R_mono (Kd.R_step (Kd.R_bound h) (fun k hk hlt => by
    obtain ⟨_, h1, h2, q, h3, cells, h4⟩ := hk
    exact hm.block k hlt (hS k cells q h1 h3 h4))) (fun _ hk => hk.1)
theorem step_append_brow {P : Program} {ops : Array Oper} {o : Oper} {a : Act} {Q : Exit → Act → World → Prop} {Kc : Act → World → Prop} (w : World) (hw : Region.wanted o (yielded ops a.tmps) = true) (sl x : Operand) (t u : TypeId)
    (ho : o.op = .call { callee := .builtin .append, args := #[sl, x], argTypes := #[t, u] })
    (base : Nat) (e : TypeId) (i : TypeInfo) (ht : P.underlying t = some (.slice e)) (hu : P.underlying u = some .string) (hi : P.info? e = some i) (hz : i.zero = some (.int .u8 0))
    (hsize : i.size = 1) (hby : i.bytes = 1)
    (v : Value) (l : List UInt8) (hs : a.eval sl = v) (hown : BRow w base e v l) (s : ByteArray) (hx : a.eval x = .string s)
    (hbytes : l.length + s.size ≤ 140737488355328) (hbase : base ≤ w.heap.size)
    (h : ∀ v' w', BRow w' base e v' (l ++ s.data.toList) → w.grownBy w' v.ownBlock → (∀ k, v'.ownBlock = some k → v.ownBlock = some k ∨ k = w.heap.size) → Kc (a.put o.dst v') w') :
    if Region.wanted o (yielded ops a.tmps) = true then Oper.wp P o a w Kc Q else Kc (a.put o.dst undef) w := by
  rw [if_pos hw]
  obtain ⟨v', w', hr, h2, h3, h4⟩ := run_append_brow (P := P) w base t u o.type e i ht hu hi hz hsize hby v l hown s hbytes hbase
  unfold Oper.wp execOp
  simp only [ho, resolve, invoke, builtin, Sem.run_bind, Sem.run_pure, Result.andThen_ok, List.map_toArray, List.map_cons, List.map_nil, hs, hx, hr]
  exact h v' w' h2 h3 h4
theorem mapback : ∀ l : List UInt8, ((l.map fun b => (b.toNat : Int)).map fun x => UInt8.ofNat x.toNat) = l
  | [] => rfl
  | b :: l => by
    show UInt8.ofNat ((b.toNat : Int).toNat) :: ((l.map fun b => (b.toNat : Int)).map fun x => UInt8.ofNat x.toNat) = b :: l
    rw [Int.toNat_natCast, UInt8.ofNat_toNat, mapback l]
theorem BRow.conv {w : World} {B : Nat} {A : Option Addr} {c : Nat} {l : List UInt8} (h : BRow w B 5 (.slice A l.length c) l) : (convert 43 9 (.slice A l.length c)).run Tryd.prog w = .ok (.string ⟨l.toArray⟩) w := by
  have h1 : w.ownsRow B 5 1 (.slice A (l.map fun b => (b.toNat : Int)).length c) (l.map fun b => (b.toNat : Int)).length (nums .u8 (l.map fun b => (b.toNat : Int))) := by
    have e : nums .u8 (l.map fun b => (b.toNat : Int)) = l.map fun b => Value.int .u8 b.toNat := by simp [nums]
    rw [e, List.length_map]
    exact h
  have h2 := string_of_reads (P := Tryd.prog) (c := c) Tryd.underlying43 Tryd.underlying5 Tryd.underlying9 (own_reads' h1)
  rw [List.length_map] at h2
  have e : strOfNums (l.map fun b => (b.toNat : Int)) = ⟨l.toArray⟩ := by
    have e2 : ((l.map fun b => (b.toNat : Int)).map fun x => UInt8.ofNat x.toNat) = l := mapback l
    exact congrArg (fun q : List UInt8 => (⟨q.toArray⟩ : ByteArray)) e2
  rw [e] at h2
  exact h2
set_option maxHeartbeats 4000000 in
set_option maxRecDepth 100000 in
theorem frame_Framer_Feed.calls (kO B g : Nat) (F F' : Fm) (bv : Value) (chunk : ByteArray) (msgs : List ByteArray) (code : Int) (w : World) (hF : FmAt w B g F bv) (hB : B ≤ w.heap.size) (h : Fm.feed kO F chunk = some (msgs, code, F')) :
    Calls Tryd.prog 11 #[.pointer (some ⟨g, 0, none⟩), .string chunk] w fun e w' => ∃ mv bv' : Value, e = .returned (.tuple #[mv, .int .i64 code]) ∧ Kd.R Kd.string 9 w' w.heap.size (fun _ => True) mv msgs ∧ FmAt w' B g F' bv' ∧ (∀ k, bv'.ownBlock = some k → bv.ownBlock = some k ∨ w.heap.size ≤ k) ∧ Mv (fun k => k = g ∨ bv.ownBlock = some k) w w' := by
  have HF := Aside0.mk hF
  have HB := Aside0.mk hB
  have HGL := Aside0.mk hF.lt
  clear hF hB
  unfold Fm.feed at h
  go_enter Tryd.func11, Tryd.ntmps11
  by_cases h3 : F.state = 3
  · rw [if_pos h3] at h
    simp only [Option.some.injEq, Prod.mk.injEq] at h
    obtain ⟨rfl, rfl, rfl⟩ := h
    obtain ⟨most, state, number, digits, body, dropped⟩ := F
    simp only at h3
    subst h3
    have hc1 := blk_cell HF.out.blk 1
    have hc5 := blk_cell HF.out.blk 5
    have hf5 := blk_frozen HF.out.blk 5
    go_wp2
    go_step3
    go_wp2
    rw [Exit.noGoto_ret]
    go_ret2
    refine ⟨_, bv, rfl, Kd.R_nil _ _ _ _ _, ⟨blk_put HF.out.blk 5 _ rfl, HF.out.row.mv (Mv.setCell (S := fun k => k = g) (Mv.refl _ w) rfl _ _) (fun k hk e => HF.out.ne (by rw [hk, e])), HF.out.ge⟩, fun k hk => .inl hk, Mv.setCell (Mv.refl _ w) (.inl rfl) _ _⟩
  · rw [if_neg h3] at h
    have hc1 := blk_cell HF.out.blk 1
    have e3 : (F.state == 3) = false := beq_eq_false_iff_ne.mpr h3
    have H := Aside0.mk h
    clear h h3
    go_wp2
    go_step3
    go_wp2
    go_step3
    go_wp2
    clear hc1
    go_loopg [1, 4] kO (fun kq v1 v4 W => ∃ (F1 : Fm) (bv1 : Value) (c1 : ByteArray) (m1 : List ByteArray), v1 = .string c1 ∧ Aside0 (Kd.R Kd.string 9 W w.heap.size (fun _ => True) v4 m1) ∧ Aside0 (FmAt W B g F1 bv1) ∧ Aside0 (∀ k, bv1.ownBlock = some k → bv.ownBlock = some k ∨ w.heap.size ≤ k) ∧ Aside0 (Mv (fun k => k = g ∨ bv.ownBlock = some k) w W) ∧ Aside0 (kq ≤ kO) ∧ Aside0 (Fm.feedL kq F1 c1 m1 = some (msgs, code, F')))
    case atStart => exact ⟨F, bv, chunk, [], rfl, ⟨Kd.R_nil _ _ _ _ _⟩, HF, ⟨fun k hk => .inl hk⟩, ⟨Mv.refl _ _⟩, ⟨Nat.le_refl _⟩, H⟩
    case round =>
      clear HF H e3
      obtain ⟨F1, bv1, c1, m1, rfl, HR, HF, HO, HM, HK, H⟩ := hrel
      obtain ⟨ki, rfl⟩ : ∃ ki, gk = ki + 1 := by
        cases gk with
        | zero => exact absurd H.out (by simp [Fm.feedL])
        | succ ki => exact ⟨ki, rfl⟩
      have h := H.out
      simp only [Fm.feedL] at h
      clear H
      by_cases hz : c1.size = 0
      · rw [if_pos hz] at h
        simp only [Option.some.injEq, Prod.mk.injEq] at h
        obtain ⟨rfl, rfl, rfl⟩ := h
        obtain rfl := size_zero hz
        go_wp2
        rw [Exit.noGoto_ret]
        go_ret2
        exact ⟨_, bv1, rfl, HR.out, HF.out, HO.out, HM.out⟩
      · rw [if_neg hz] at h
        have e0 := eq_true (show (0 : Int) < (c1.size : Int) by omega)
        have e2 : ∀ h : 0 < c1.size, ((c1[0]'h).toNat : Int) = bt c1 0 := bt_at c1 0
        have e4 := eq_true (show 0 < c1.size by omega)
        have e5 : (c1.toList != ([] : List UInt8)) = true := by rw [bne, toList_ne hz]; rfl
        have e7 : (c1.toList == ([] : List UInt8)) = false := toList_ne hz
        have e6 := eq_true (show 1 ≤ (c1.size : Int) by omega)
        have HG0 := Aside0.mk (show ∀ W, Mv (fun k => k = g) wr W → Kd.R Kd.string 9 W w.heap.size (fun _ => True) u4 m1 from fun W hm => R_mv HR.out hm (fun k _ _ hk _ _ e => by have := HGL.out; omega))
        have HM0 := Aside0.mk (show ∀ W, Mv (fun k => k = g) wr W → Mv (fun k => k = g ∨ bv.ownBlock = some k) w W from fun W hm => HM.out.trans hm (fun _ _ h => .inl h))
        by_cases hs : F1.state = 0 ∨ F1.state = 1
        · rw [if_pos hs] at h
          have H := Aside0.mk h
          clear h
          have hc1 := blk_cell HF.out.blk 1
          have AH := frame_Framer_head.calls B g F1 bv1 (bt c1 0) wr HF.out
          have AHD := Aside0.mk AH
          clear AH
          rcases hs with hs | hs
          all_goals
            rw [hs] at hc1
            go_wp2_with fail
            refine AHD.out.mono ?_
            rintro e w2 ⟨rfl, hF2, hm2⟩
            have HF2 := Aside0.mk hF2
            have HM2 := Aside0.mk hm2
            have h := H.out
            clear hF2 hm2 hc1 H AHD
            cases hh : (F1.head (bt c1 0)).1 with
            | true =>
              rw [if_pos hh] at h
              have H := Aside0.mk h
              clear h
              go_wp2
              go_roundg ki
              case measure => have := HK.out; omega
              case rel => exact ⟨_, bv1, _, m1, rfl, ⟨HG0.out _ HM2.out⟩, HF2, HO, ⟨HM0.out _ HM2.out⟩, ⟨by have := HK.out; omega⟩, H⟩
            | false =>
              rw [if_neg (by rw [hh]; decide)] at h
              simp only [Option.some.injEq, Prod.mk.injEq] at h
              obtain ⟨rfl, rfl, rfl⟩ := h
              have AE := Aside0.mk (frame_Framer_empty.calls B g _ bv1 w2 HF2.out)
              go_wp2_with fail
              refine AE.out.mono ?_
              rintro e w3 ⟨rfl, hF3, hm3⟩
              have hf1 := blk_frozen hF3.blk 1
              have hcx := blk_cell hF3.blk 1
              have HF3 := Aside0.mk hF3
              have HM3 := Aside0.mk hm3
              clear hF3 hm3
              go_wp2
              rw [Exit.noGoto_ret]
              go_ret2
              have hm4 : Mv (fun k => k = g) wr (w3.setCell ⟨g, 1, none⟩ (.int .i64 3)) := Mv.setCell (HM2.out.trans HM3.out (fun _ _ h => h)) rfl _ _
              exact ⟨_, .slice none 0 0, rfl, HG0.out _ hm4, ⟨blk_put HF3.out.blk 1 _ rfl, BRow.nil _ _ _, HF3.out.ge⟩, fun k hk => by simp [Value.ownBlock] at hk, HM0.out _ hm4⟩
        · rw [if_neg hs] at h
          by_cases hq : F1.state = 2 ∧ 0 ≤ mn (wrap64 (F1.number - (F1.body.length : Int))) (c1.size : Int) ∧ F1.body.length + c1.size ≤ 140737488355328 ∧ m1.length < 8796093022208
          · rw [if_pos hq] at h
            have H := Aside0.mk h
            obtain ⟨hq1, hq2, hq3, hq4⟩ := hq
            clear h hs
            have hs0 : (F1.state == 0) = false := beq_eq_false_iff_ne.mpr (by omega)
            have hs1 : (F1.state == 1) = false := beq_eq_false_iff_ne.mpr (by omega)
            have hs2 : (F1.state == 2) = true := beq_iff_eq.mpr hq1
            obtain ⟨A1, p1, rfl⟩ := BRow.slice HF.out.row
            have hc1 := blk_cell HF.out.blk 1
            have hc2 := blk_cell HF.out.blk 2
            have hc4 := blk_cell HF.out.blk 4
            have hf4 := blk_frozen HF.out.blk 4
            go_wp2_with fail
            have hn : mn (wrap64 (F1.number - (F1.body.length : Int))) (c1.size : Int) = (if (c1.size : Int) < wrap64 (F1.number - (F1.body.length : Int)) then (c1.size : Int) else wrap64 (F1.number - (F1.body.length : Int))) := by unfold mn; split <;> split <;> omega
            go_cut [6] (fun v6 W => v6 = .int .i64 (mn (wrap64 (F1.number - (F1.body.length : Int))) (c1.size : Int)) ∧ Aside0 (Mv (fun k => k = g) wr W) ∧ Aside0 (FmAt W B g F1 (.slice A1 F1.body.length p1)))
            case first =>
              go_region
              all_goals go_wp2
              all_goals
                go_meet
                case rel => exact ⟨by rw [hn]; first | rw [if_pos (by assumption)] | rw [if_neg (by omega)], ⟨by first | exact Mv.refl _ _ | exact (Mv.refl _ _).drew⟩, ⟨by first | exact HF.out | exact HF.out.mv ((Mv.refl (fun _ => False) _).drew) id (fun _ _ => id)⟩⟩
            case rest =>
              obtain ⟨rfl, HM1, HF1⟩ := hcut
              obtain ⟨wo, rfl⟩ : ∃ wo : World, wo = wc := ⟨_, rfl⟩
              have HR1 := Aside0.mk (HG0.out _ HM1.out)
              have HMA := Aside0.mk (HM0.out _ HM1.out)
              obtain ⟨n, hn2⟩ : ∃ n : Nat, mn (wrap64 (F1.number - (F1.body.length : Int))) (c1.size : Int) = (n : Int) := ⟨_, (Int.toNat_of_nonneg hq2).symm⟩
              have hnc : n ≤ c1.size := by have : mn (wrap64 (F1.number - (F1.body.length : Int))) (c1.size : Int) ≤ (c1.size : Int) := by (unfold mn; split <;> omega)
                                           omega
              rw [hn2] at H ⊢
              clear hn hq2 hn2 hc1 hc2 hc4 hf4
              have hc4 := blk_cell HF1.out.blk 4
              have hf4 := blk_frozen HF1.out.blk 4
              have s1 := eq_true (show (n : Int) ≤ (c1.size : Int) by omega)
              have s2 := eq_true (show (0 : Int) ≤ (n : Int) by omega)
              obtain ⟨i0, hi, hz0, hz1, hz2⟩ := info_parts frm_u8
              have HI := Aside0.mk hi
              have HZ0 := Aside0.mk hz0
              have HZ1 := Aside0.mk hz1
              have HZ2 := Aside0.mk hz2
              have HBW := Aside0.mk (show B ≤ wo.heap.size by have := HMA.out.size; have := HB.out; omega)
              have HLN := Aside0.mk (show F1.body.length + (c1.extract 0 n).size ≤ 140737488355328 by rw [ByteArray.size_extract]; omega)
              clear hi hz0 hz1 hz2
              go_wp2_with fail
              go_cut [] (fun W => ∃ bv2 : Value, Aside0 (FmAt W B g ⟨F1.most, F1.state, F1.number, F1.digits, F1.body ++ (c1.extract 0 n).data.toList, F1.dropped⟩ bv2) ∧ Aside0 (∀ k, bv2.ownBlock = some k → (Value.slice A1 F1.body.length p1).ownBlock = some k ∨ wo.heap.size ≤ k) ∧ Aside0 (Mv (fun k => k = g ∨ (Value.slice A1 F1.body.length p1).ownBlock = some k) wo W))
              case first =>
                refine wp_region_any (by kernel_rfl) ?_
                change wpAny _ _ _ _ _ _ _ (World.drew _)
                refine wpAny_take (i := 0) (v := ?_) rfl (by kernel_rfl) (by kernel_rfl) (by kernel_rfl) (fun _ _ _ h => h) (Or.inl ⟨by rfl, ?_⟩) ?_
                rotate_left
                · intro w; go_simp; try (with_reducible rfl)
                refine wpAny_take (i := 1) (v := ?_) rfl (by kernel_rfl) (by kernel_rfl) (by kernel_rfl) (fun _ _ _ h => h) (Or.inl ⟨by rfl, ?_⟩) ?_
                rotate_left
                · intro w; go_simp; try (with_reducible rfl)
                refine wpAny_take (i := 2) (v := ?_) rfl (by kernel_rfl) (by kernel_rfl) (by kernel_rfl) (fun _ _ _ h => h) (Or.inl ⟨by rfl, ?_⟩) ?_
                rotate_left
                · intro w; go_simp; try (with_reducible rfl)
                refine wpAny_take (i := 3) (v := ?_) rfl (by kernel_rfl) (by kernel_rfl) (by kernel_rfl) (fun _ _ _ h => h) (Or.inl ⟨by rfl, ?_⟩) ?_
                rotate_left
                · intro w; go_simp; try (with_reducible rfl)
                refine wpAny_take (i := 5) (v := ?_) rfl (by kernel_rfl) (by kernel_rfl) (by kernel_rfl) (fun _ _ _ h => h) (Or.inl ⟨by rfl, ?_⟩) ?_
                rotate_left
                · intro w; go_simp; try (with_reducible rfl)
                refine wpAny_take (i := 6) (v := ?_) rfl (by kernel_rfl) (by kernel_rfl) (by kernel_rfl) (fun _ _ _ h => h) (Or.inl ⟨by rfl, ?_⟩) ?_
                rotate_left
                · intro w; go_simp; try (with_reducible rfl)
                refine wpAny_take (i := 7) (v := ?_) rfl (by kernel_rfl) (by kernel_rfl) (by kernel_rfl) (fun _ _ _ h => h) (Or.inl ⟨by rfl, ?_⟩) ?_
                rotate_left
                · intro w; go_simp; try (with_reducible rfl)
                refine wpAny_ready (rs := [4]) (by kernel_rfl) (by simp) ?_
                refine AllReady.cons rfl (fun K hK => ?_) AllReady.nil
                go_simp
                refine hK _ _ ?_
                clear hK K
                refine wpAny_ready (rs := [8]) (by kernel_rfl) (by simp) ?_
                refine AllReady.cons rfl (fun K hK => ?_) AllReady.nil
                refine step_append_brow _ (by rfl) (.tmp 56) (.tmp 59) 43 9 rfl B 5 i0 Tryd.underlying43 Tryd.underlying9 HI.out HZ0.out HZ1.out HZ2.out (.slice A1 F1.body.length p1) F1.body rfl HF1.out.row (c1.extract 0 n) rfl HLN.out HBW.out ?_
                intro v2 w2 hr2 hg2 hk2
                obtain ⟨A2, p2, hv2⟩ := BRow.slice hr2
                subst hv2
                have hL2 : (F1.body ++ (c1.extract 0 n).data.toList).length = F1.body.length + n := by rw [List.length_append, Array.length_toList]; show F1.body.length + (c1.extract 0 n).size = _; rw [ByteArray.size_extract]; omega
                rw [hL2] at hr2 hk2
                refine hK _ _ ?_
                clear hK K
                have hb2 := blk_grown (w := wo.drew) HF1.out.blk hg2 HF1.out.ne.symm
                have hx2 := blk_cell hb2 4
                have hy2 := blk_frozen hb2 4
                have HR2 := Aside0.mk hr2
                have HG2 := Aside0.mk hg2
                have HK2 := Aside0.mk hk2
                have HB2 := Aside0.mk hb2
                clear hr2 hg2 hk2 hb2
                refine wpAny_ready (rs := [9]) (by kernel_rfl) (by simp) ?_
                refine AllReady.cons rfl (fun K hK => ?_) AllReady.nil
                go_simp
                refine hK _ _ ?_
                clear hK K
                refine wpAny_ready (rs := [10]) (by kernel_rfl) (by simp) ?_
                refine AllReady.cons rfl (fun K hK => ?_) AllReady.nil
                go_simp
                refine hK _ _ ?_
                clear hK K
                refine wpAny_ready (rs := [11]) (by kernel_rfl) (by simp) ?_
                refine AllReady.cons rfl (fun K hK => ?_) AllReady.nil
                go_simp
                refine hK _ _ ?_
                clear hK K
                refine wpAny_done (by kernel_rfl) ?_ _
                go_wp2
                go_meet
                case rel =>
                  have hme : Mv (fun k => k = g ∨ (Value.slice A1 F1.body.length p1).ownBlock = some k) wo (w2.setCell ⟨g, 4, none⟩ (.slice A2 (F1.body.length + n) p2)) := Mv.setCell (((Mv.refl _ wo).drew).grown HG2.out (fun k hk _ => .inr hk)) (.inl rfl) _ _
                  have hvg : (Value.slice A2 (F1.body.length + n) p2).ownBlock ≠ some g := by
                    intro e
                    rcases HK2.out g e with h | h
                    · exact HF1.out.ne h
                    · have := HF1.out.lt
                      have e2 : (wo.drew).heap.size = wo.heap.size := rfl
                      omega
                  refine ⟨_, ⟨blk_put HB2.out 4 _ rfl, ?_, HF1.out.ge⟩, ⟨fun k hk => ?_⟩, ⟨hme⟩⟩
                  · exact BRow.mv HR2.out (Mv.setCell (S := fun k => k = g) (Mv.refl _ w2) rfl _ _) (fun k hk e => hvg (by rw [hk, e]))
                  · rcases HK2.out k hk with h | h
                    · exact .inl h
                    · exact .inr (by rw [h]; exact Nat.le_refl _)
              case rest =>
                obtain ⟨bv2, HF2, HO2, HM2⟩ := hcut
                have hL2 : (F1.body ++ (c1.extract 0 n).data.toList).length = F1.body.length + n := by rw [List.length_append, Array.length_toList]; show F1.body.length + (c1.extract 0 n).size = _; rw [ByteArray.size_extract]; omega
                have HR2 := Aside0.mk (R_mv HR1.out HM2.out (fun k cells q h1 h2 h3 h4 => by
                  rcases h4 with h4 | h4
                  · have := HGL.out; omega
                  · obtain ⟨cells2, h5⟩ := own_typed HF1.out.row k h4
                    rw [h3] at h5
                    have hq9 : q = 9 := by simpa [Kd.string, Kd.scalar] using h2
                    subst hq9
                    injection h5 with h5
                    injection h5 with _ h6 _
                    exact absurd h6 (by decide)))
                have HMW := Aside0.mk (HMA.out.trans HM2.out (fun i hi h => by
                  rcases h with h | h
                  · exact .inl h
                  · rcases HO.out i h with h | h
                    · exact .inr h
                    · omega))
                have HOW := Aside0.mk (show ∀ k, bv2.ownBlock = some k → bv.ownBlock = some k ∨ w.heap.size ≤ k from fun k hk => by
                  rcases HO2.out k hk with h | h
                  · exact HO.out k h
                  · exact .inr (Nat.le_trans HMA.out.size h))
                clear HR1 HMA HO2 HM2 HF1 HM1 HF HR HM HG0 HM0 HO HBW HI HZ0 HZ1 HZ2
                have h := H.out
                clear H
                obtain ⟨A2, p2, rfl⟩ := BRow.slice HF2.out.row
                obtain ⟨b2, hb2⟩ : ∃ b2, b2 = F1.body ++ (c1.extract 0 n).data.toList := ⟨_, rfl⟩
                have hn3 : ((n : Int)).toNat = n := rfl
                rw [hn3] at h
                rw [← hb2] at HF2 HOW hL2 h
                have hc2 := blk_cell HF2.out.blk 2
                have hc4 := blk_cell HF2.out.blk 4
                have HN2 := Aside0.mk hL2
                clear hb2
                by_cases he : (F1.body.length : Int) + (n : Int) = F1.number
                · rw [if_pos he] at h
                  have e9 : ((b2.length : Int) == F1.number) = true := beq_iff_eq.mpr (by omega)
                  have H := Aside0.mk h
                  clear h
                  go_wp2_with fail
                  go_cut [75] (fun v75 W => v75 = .bool true ∧ W = wc.drew)
                  case first =>
                    go_region
                    all_goals
                      go_wp2
                      go_meet
                      case rel => exact ⟨rfl, rfl⟩
                  case rest =>
                    obtain ⟨rfl, rfl⟩ := hcut
                    clear hL2
                    have hconv := BRow.conv (w := wc.drew) HF2.out.row
                    have HUB := Aside0.mk (Kd.R_bound HR2.out).1
                    have hug : some g ≠ u4.ownBlock := fun e => by
                      have := (HUB.out g e.symm).2.1
                      have := HGL.out
                      omega
                    have hub : ∀ k, (Value.slice A2 b2.length p2).ownBlock = some k → ¬ u4.ownBlock = some k := fun k h1 h2 => by
                      obtain ⟨cells1, h3⟩ := own_typed HF2.out.row k h1
                      obtain ⟨_, _, _, q, h4, cells2, h5⟩ := HUB.out k h2
                      rw [h3] at h5
                      have hq9 : q = 9 := by simpa [Kd.string, Kd.scalar] using h4
                      subst hq9
                      injection h5 with h5
                      injection h5 with _ h6 _
                      exact absurd h6 (by decide)
                    have HUG := Aside0.mk hug
                    have HUB2 := Aside0.mk hub
                    have HQ4 := Aside0.mk hq4
                    clear hug hub hq4
                    go_wp2_with (at_builtin; refine Kd.R_append Kd.string (w0 := wc.drew) (W := wc.drew) w.heap.size rfl (.tmp 76) (.tmp 82) 37 9 (.string ⟨#[]⟩) 16 rfl Tryd.underlying37 frm_str rfl (by decide) (by omega) u4 m1 (⟨b2.toArray⟩ : ByteArray) [.string (⟨b2.toArray⟩ : ByteArray)] (fun _ => True) (fun _ => False) rfl rfl ?aP (fun _ hk => hk.elim) ?aF ?aO ?aB ?aS ?aL ?_; (case aP => exact rfl); (case aF => exact fun _ _ => trivial); (case aO => exact HR2.out); (case aB => exact Below.refl _ _); (case aS => exact HMW.out.size); (case aL => have := HQ4.out; omega); intro v3 w3 ho hb hg hat; have hmv3 : Mv (fun k => u4.ownBlock = some k) wc w3 := ((Mv.refl _ wc).drew).grown hg (fun k hk _ => hk); have HF3 := Aside0.mk (HF2.out.mv hmv3 (fun e => HUG.out e.symm) HUB2.out); have HO3 := Aside0.mk ho; have HMW3 := Aside0.mk (HMW.out.trans hmv3 (fun i hi h => by have := (HUB.out i h).2.1; omega)); clear ho hb hg hat hmv3 hconv hc2 hc4; have AE := Aside0.mk (frame_Framer_empty.calls B g _ _ w3 HF3.out))
                    refine AE.out.mono ?_
                    rintro e w4 ⟨rfl, hF4, hm4⟩
                    have HF4 := Aside0.mk hF4
                    have HM4 := Aside0.mk hm4
                    clear hF4 hm4 AE
                    go_wp2
                    go_roundg ki
                    case measure => have := HK.out; omega
                    case rel => exact ⟨_, .slice none 0 0, _, _, rfl, ⟨R_mv HO3.out HM4.out (fun k _ _ hk _ _ e => by have := HGL.out; omega)⟩, HF4, ⟨fun k hk => by simp [Value.ownBlock] at hk⟩, ⟨HMW3.out.trans HM4.out (fun _ _ h => .inl h)⟩, ⟨by have := HK.out; omega⟩, H⟩
                · rw [if_neg he] at h
                  have e9 : ((b2.length : Int) == F1.number) = false := beq_eq_false_iff_ne.mpr (by omega)
                  have H := Aside0.mk h
                  clear h
                  go_wp2_with fail
                  go_region
                  all_goals
                    go_wp2
                    go_roundg ki
                    case measure => have := HK.out; omega
                    case rel => exact ⟨_, _, _, m1, rfl, HR2, ⟨HF2.out.mv ((Mv.refl (fun _ => False) wc).drew) id (fun _ _ => id)⟩, HOW, ⟨HMW.out.drew⟩, ⟨by have := HK.out; omega⟩, H⟩
          · rw [if_neg hq] at h
            exact absurd h (by simp)

end Go.Proofs.YthacblokhhhlmaaDoor.XFf
