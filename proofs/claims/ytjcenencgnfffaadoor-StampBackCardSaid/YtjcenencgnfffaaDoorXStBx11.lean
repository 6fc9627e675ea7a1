-- Laid by extprint.py (the session's own driver): functions told by the kit's printer and by hand.
import Derived.Test.YtjcenencgnfffaaDoorXStBx0
import Derived.Test.YtjcenencgnfffaaDoorXStBx8
namespace Go.Proofs.YtjcenencgnfffaaDoor.XStB
open Go.RowKit Gong Go.Proofs.YtjcenencgnfffaaDoorW.PrintWords Go.Proofs.YtjcenencgnfffaaDoorW.PrintLast Go.Proofs.YtjcenencgnfffaaDoorW.PrintMore
attribute [local go_sem] max2_int min2_int max_two min_two max_three min_three max_four min_four   -- for this text's walks alone
set_option linter.unusedVariables false
set_option linter.unusedSimpArgs false

/-! ### stamp_Spell: function 22 -/
def spellRow : List (List UInt8 × Int) := [([100], 86400000000000), ([104], 3600000000000), ([109], 60000000000), ([115], 1000000000), ([109, 115], 1000000), ([117, 115], 1000), ([110, 115], 1)]
def spellGo (n : Int) : List (List UInt8 × Int) → Option (List UInt8 × Int)
  | [] => none
  | u :: us => if n % u.2 = 0 then some u else spellGo n us
def stamp_Spell.f (a0 : Int) : Option (ByteArray × Int) :=
  if a0 < 0 then some (⟨#[]⟩, 1) else if 2305843009213693952 < a0 then some (⟨#[]⟩, 1) else if a0 = 0 then some (⟨#[48, 115]⟩, 0) else
  match spellGo a0 spellRow with
  | some u => if 999999999 < a0 / u.2 then some (⟨#[]⟩, 1) else some (⟨(Lib.itoa (a0 / u.2)).toArray⟩ ++ ⟨u.1.toArray⟩, 0)
  | none => none
theorem spell_index_struct {P : Program} {t e : TypeId} {n : Nat} {fs : Array Field} (ht : P.underlying t = some (.array n e)) (he : P.underlying e = some (.struct fs)) {c : Nat} (hc : P.cellsOf e = c) (m : Nat) (hm : m < n) (cs : Array Value) (w : World) :
    (Instr.index t (.agg cs) (.int .i64 m)).run P w = .ok (.agg (cs.extract (m * c) (m * c + c))) w := by
  have hm' : (m : Int) < n := by omega
  cases hi : P.info? e with
  | none => simp [Program.underlying, hi] at he
  | some i =>
    have hs : i.size = c := by simpa [Program.cellsOf, hi] using hc
    simp [Instr.index, asIntOf, run_underlying ht, part, isAgg, run_underlying he, sizeOf, typeInfo, hi, hm', hs]
    intro h
    omega
theorem spell_unit_at (m : Nat) (h : m < 7) : ∃ nm by_, spellRow.drop m = (nm, by_) :: spellRow.drop (m + 1) ∧ nm.length ≤ 2 ∧ 0 < by_ ∧ by_ ≤ 86400000000000 ∧ unitCells.toArray[m * 2]? = some (.string ⟨nm.toArray⟩) ∧ unitCells.toArray[m * 2 + 1]? = some (.int .i64 by_) ∧ ∀ W, (Instr.index 61 (.agg #[.string ⟨#[100]⟩, .int .i64 86400000000000, .string ⟨#[104]⟩, .int .i64 3600000000000, .string ⟨#[109]⟩, .int .i64 60000000000, .string ⟨#[115]⟩, .int .i64 1000000000, .string ⟨#[109, 115]⟩, .int .i64 1000000, .string ⟨#[117, 115]⟩, .int .i64 1000, .string ⟨#[110, 115]⟩, .int .i64 1]) (.int .i64 m)).run Tryd.prog W = .ok (.agg #[.string ⟨nm.toArray⟩, .int .i64 by_]) W := by
  have hx := fun W => spell_index_struct Tryd.underlying61 Tryd.underlying60 (c := 2) (by kernel_rfl) m h unitCells.toArray W
  have : m = 0 ∨ m = 1 ∨ m = 2 ∨ m = 3 ∨ m = 4 ∨ m = 5 ∨ m = 6 := by omega
  rcases this with rfl | rfl | rfl | rfl | rfl | rfl | rfl
  all_goals exact ⟨_, _, rfl, by decide, by decide, by decide, rfl, rfl, fun W => (hx W).trans rfl⟩
theorem spell_len (q : Int) (h0 : 0 ≤ q) (h1 : q ≤ 2305843009213693952) : (Lib.itoa q).length ≤ 20 := by
  have key : ∀ (m n : Nat), n < 10 ^ (m + 1) → (Lib.decDigits n).length ≤ m + 1 := by
    intro m
    induction m with
    | zero => intro n h; rw [Lib.decDigits, dif_pos (by omega)]; exact Nat.le_refl _
    | succ m ih =>
      intro n h
      by_cases c : n < 10
      · rw [Lib.decDigits, dif_pos c]; simp
      · rw [Lib.decDigits, dif_neg c, List.length_append]
        have := ih (n / 10) (by rw [Nat.pow_succ] at h; omega)
        simp only [List.length_cons, List.length_nil]
        omega
  unfold Lib.itoa
  rw [if_neg (by omega)]
  exact key 19 _ (by omega)
def stamp_Spell.T15 : Bool × List (List Nat × List Nat) := (true, [([], []), ([], []), ([1], [1]), ([0, 2], [0, 2]), ([3], [3]), ([], []), ([5], [5]), ([4, 6], [4, 6]), ([7, 4, 0, 1, 2, 3, 4, 5, 6, 7], [7]), ([8, 0, 1, 2, 3, 4, 5, 6, 7, 8], [])])
def stamp_Spell.B15 : List Nat := [0, 0, 2, 7, 15, 0, 32, 127, 255, 511]
theorem stamp_Spell.tab15 : rtab .any (opsOf Tryd.f22 15) = stamp_Spell.T15 := by kernel_rfl
theorem stamp_Spell.bits15 : waitsOk stamp_Spell.T15.2 stamp_Spell.B15 = true := by kernel_rfl
set_option maxHeartbeats 1600000 in
set_option maxRecDepth 100000 in
theorem stamp_Spell.calls (a0 : Int) (r1 : ByteArray) (r2 : Int) (w : World) (hG : Gl w) (h : stamp_Spell.f a0 = some (r1, r2)) :
    Calls Tryd.prog 22 #[.int .i64 a0] w fun e w' => e = .returned (.tuple #[.string r1, .int .i64 r2]) ∧ Below w.heap.size w w' := by
  have HGl := Aside0.mk hG
  clear hG
  unfold stamp_Spell.f at h
  by_cases c0 : a0 < 0
  · rw [if_pos c0] at h
    simp only [Option.some.injEq, Prod.mk.injEq] at h
    obtain ⟨rfl, rfl⟩ := h
    have e0 : decide (a0 < 0) = true := decide_eq_true c0
    clear c0
    go_enter Tryd.func22, Tryd.ntmps22
    go_wp2_with fail
    go_step3
    go_wp2
    simp only [Exit.noGoto_ret]
    go_ret2
    exact ⟨rfl, Below.refl _ _⟩
  rw [if_neg c0] at h
  have e0 : decide (a0 < 0) = false := decide_eq_false c0
  by_cases c1 : 2305843009213693952 < a0
  · rw [if_pos c1] at h
    simp only [Option.some.injEq, Prod.mk.injEq] at h
    obtain ⟨rfl, rfl⟩ := h
    have e1 : decide (a0 > 2305843009213693952) = true := decide_eq_true c1
    clear c0 c1
    go_enter Tryd.func22, Tryd.ntmps22
    go_wp2_with fail
    go_step3
    go_wp2
    simp only [Exit.noGoto_ret]
    go_ret2
    exact ⟨rfl, Below.refl _ _⟩
  rw [if_neg c1] at h
  have e1 : decide (a0 > 2305843009213693952) = false := decide_eq_false c1
  by_cases c2 : a0 = 0
  · rw [if_pos c2] at h
    simp only [Option.some.injEq, Prod.mk.injEq] at h
    obtain ⟨rfl, rfl⟩ := h
    have e2 : (a0 == 0) = true := beq_iff_eq.mpr c2
    clear c0 c1 c2
    go_enter Tryd.func22, Tryd.ntmps22
    go_wp2_with fail
    go_step3
    go_wp2
    simp only [Exit.noGoto_ret]
    go_ret2
    exact ⟨rfl, Below.refl _ _⟩
  rw [if_neg c2] at h
  have e2 : (a0 == 0) = false := beq_eq_false_iff_ne.mpr c2
  have HA := Aside0.mk (show 0 ≤ a0 ∧ a0 ≤ 2305843009213693952 from ⟨Int.not_lt.1 c0, Int.not_lt.1 c1⟩)
  clear c0 c1 c2
  have HQ : Aside0 (∃ u, spellGo a0 (spellRow.drop 0) = some u ∧ (if 999999999 < a0 / u.2 then some ((⟨#[]⟩ : ByteArray), (1 : Int)) else some (⟨(Lib.itoa (a0 / u.2)).toArray⟩ ++ ⟨u.1.toArray⟩, 0)) = some (r1, r2)) := ⟨by
    rw [List.drop_zero]
    cases hs : spellGo a0 spellRow with
    | none => rw [hs] at h; simp at h
    | some u => rw [hs] at h; exact ⟨u, rfl, h⟩⟩
  clear h
  have hC : ∀ W, Below w.heap.size w W → ∀ i v, unitCells.toArray[i]? = some v → W.cell? ⟨0, i, none⟩ = some v := fun W hb i v hv => (World.var?_cell gl_u (HGl.out.below hb).units i).trans hv
  have HC := Aside0.mk hC
  clear hC
  have d0 := HC.out w (Below.refl _ _) 0 (.string ⟨#[100]⟩) rfl
  have d1 := HC.out w (Below.refl _ _) 1 (.int .i64 86400000000000) rfl
  have d2 := HC.out w (Below.refl _ _) 2 (.string ⟨#[104]⟩) rfl
  have d3 := HC.out w (Below.refl _ _) 3 (.int .i64 3600000000000) rfl
  have d4 := HC.out w (Below.refl _ _) 4 (.string ⟨#[109]⟩) rfl
  have d5 := HC.out w (Below.refl _ _) 5 (.int .i64 60000000000) rfl
  have d6 := HC.out w (Below.refl _ _) 6 (.string ⟨#[115]⟩) rfl
  have d7 := HC.out w (Below.refl _ _) 7 (.int .i64 1000000000) rfl
  have d8 := HC.out w (Below.refl _ _) 8 (.string ⟨#[109, 115]⟩) rfl
  have d9 := HC.out w (Below.refl _ _) 9 (.int .i64 1000000) rfl
  have d10 := HC.out w (Below.refl _ _) 10 (.string ⟨#[117, 115]⟩) rfl
  have d11 := HC.out w (Below.refl _ _) 11 (.int .i64 1000) rfl
  have d12 := HC.out w (Below.refl _ _) 12 (.string ⟨#[110, 115]⟩) rfl
  have d13 := HC.out w (Below.refl _ _) 13 (.int .i64 1) rfl
  have HB := Aside0.mk (Below.refl w.heap.size w)
  go_enter Tryd.func22, Tryd.ntmps22
  go_wp2_with fail
  go_step3
  go_wp2_with fail
  go_step3
  go_wp2_with fail
  go_loopw [19] (fun v W => ∃ m : Nat, m ≤ 7 ∧ v = .int .i64 (m : Int) ∧ Aside0 (∃ u, spellGo a0 (spellRow.drop m) = some u ∧ (if 999999999 < a0 / u.2 then some ((⟨#[]⟩ : ByteArray), (1 : Int)) else some (⟨(Lib.itoa (a0 / u.2)).toArray⟩ ++ ⟨u.1.toArray⟩, 0)) = some (r1, r2)) ∧ Aside0 (Below w.heap.size w W)) (fun v _ => (7 - intOf v).toNat)
  case atStart => exact ⟨0, by omega, rfl, HQ, HB⟩
  case round =>
    obtain ⟨m, hm, rfl, HS, HW⟩ := hrel
    by_cases hlt : m < 7
    · obtain ⟨nu, bu, hu, hl2, hb0, hb1, hx0, hx1, hx⟩ := spell_unit_at m hlt
      have e9 : decide ((m : Int) < 7) = true := decide_eq_true (by omega)
      have e10 : (bu == 0) = false := beq_eq_false_iff_ne.mpr (by omega)
      have e20 := eq_true (show (m : Int) < 7 by omega)
      have e21 := eq_true hlt
      have e12 : wrap64 ((m : Int) + 1) = ((m + 1 : Nat) : Int) := by unfold wrap64; omega
      have hs := HS.out
      rw [hu] at hs
      simp only [spellGo] at hs
      clear HS
      have HM := Aside0.mk hlt
      have hsz := HW.out.size
      have HW2 := Aside0.mk (HW.out.alloc hsz (.cells #[.string ⟨nu.toArray⟩, .int .i64 bu] 60))
      clear hlt hsz
      have e13 : Int.tmod a0 bu = a0 % bu := Int.tmod_eq_emod_of_nonneg HA.out.1
      by_cases q1 : a0 % bu = 0
      · rw [if_pos q1] at hs
        obtain ⟨u, hu1, hs⟩ := hs
        rw [Option.some.injEq] at hu1
        subst hu1
        simp only at hs
        have f1 := HC.out _ HW2.out (m * 2) _ hx0
        have f2 := HC.out _ HW2.out (m * 2 + 1) _ hx1
        have HI := Aside0.mk (show strconv_Itoa.f (wrap64 (Int.tdiv a0 bu)) = some ⟨(Lib.itoa (a0 / bu)).toArray⟩ from by
          have hq := Int.ediv_nonneg HA.out.1 (Int.le_of_lt hb0)
          have hq2 := Int.ediv_le_self bu HA.out.1
          have hq3 := HA.out.2
          rw [Int.tdiv_eq_ediv_of_nonneg HA.out.1]
          generalize a0 / bu = q at hq hq2 ⊢
          have e : wrap64 q = q := by unfold wrap64; omega
          rw [e]
          unfold strconv_Itoa.f
          rw [if_pos ⟨by omega, by omega⟩])
        have e22 : wrap64 (Int.tdiv a0 bu) = a0 / bu := by
          have hq := Int.ediv_nonneg HA.out.1 (Int.le_of_lt hb0)
          have hq2 := Int.ediv_le_self bu HA.out.1
          have hq3 := HA.out.2
          rw [Int.tdiv_eq_ediv_of_nonneg HA.out.1]
          generalize a0 / bu = q at hq hq2 ⊢
          unfold wrap64; omega
        have e14 : (a0 % bu != 0) = false := by simpa using q1
        have e15 : (Int.tmod a0 bu == 0) = true := by rw [e13]; exact beq_iff_eq.mpr q1
        have e16 : (Int.tmod a0 bu != 0) = false := by rw [bne, e15]; rfl
        by_cases q2 : 999999999 < a0 / bu
        · rw [if_pos q2] at hs
          simp only [Option.some.injEq, Prod.mk.injEq] at hs
          obtain ⟨rfl, rfl⟩ := hs
          have e23 : decide (wrap64 (Int.tdiv a0 bu) > 999999999) = true := decide_eq_true (by rw [e22]; exact q2)
          have e24 := eq_true (show 999999999 < wrap64 (Int.tdiv a0 bu) by rw [e22]; exact q2)
          clear q1 q2 e22
          go_wp2
          simp only [Exit.noGoto_ret]
          go_ret2
          exact ⟨rfl, (HW2.out.alloc HW2.out.size _)⟩
        · rw [if_neg q2] at hs
          simp only [Option.some.injEq, Prod.mk.injEq] at hs
          obtain ⟨rfl, rfl⟩ := hs
          have e23 : decide (wrap64 (Int.tdiv a0 bu) > 999999999) = false := decide_eq_false (by rw [e22]; exact q2)
          have e24 := eq_false (show ¬ 999999999 < wrap64 (Int.tdiv a0 bu) by rw [e22]; exact q2)
          clear q1 q2 e22
          go_wp2_with fail
          have hblk : ((wr.alloc (.cells #[.string ⟨nu.toArray⟩, .int .i64 bu] 60)).alloc (.cells #[.string ⟨nu.toArray⟩, .int .i64 bu] 60)).heap[wr.heap.size + 1]? = some (.cells #[.string ⟨nu.toArray⟩, .int .i64 bu] 60 (0, 0)) := by
            have h := blk_new (wr.alloc (.cells #[.string ⟨nu.toArray⟩, .int .i64 bu] 60)) (.cells #[.string ⟨nu.toArray⟩, .int .i64 bu] 60 (0, 0))
            rw [show (wr.alloc (.cells #[.string ⟨nu.toArray⟩, .int .i64 bu] 60)).heap.size = wr.heap.size + 1 from Array.size_push _] at h
            exact h
          have HB4 := Aside0.mk (below_drew1 (HW2.out.alloc HW2.out.size (.cells #[.string ⟨nu.toArray⟩, .int .i64 bu] 60)))
          replace hblk := blk_drew hblk
          generalize wr.heap.size + 1 = g2 at hblk ⊢
          have y0 := (blk_cell hblk 0).trans (show _ = some (Value.string ⟨nu.toArray⟩) from rfl)
          have y1 := (blk_cell hblk 1).trans (show _ = some (Value.int .i64 bu) from rfl)
          have hz : (Lib.itoa (a0 / bu)).length + nu.length ≤ 9223372036854775807 := by
            have hq := Int.ediv_nonneg HA.out.1 (Int.le_of_lt hb0)
            have hq2 := Int.ediv_le_self bu HA.out.1
            have hq3 := HA.out.2
            generalize a0 / bu = q at hq hq2 ⊢
            have := spell_len q hq (by omega)
            omega
          have hz2 := eq_false (Nat.not_lt.2 hz)
          have e25 := eq_false (show ¬ bu = 0 by omega)
          clear hz
          refine start_ (n := 10) (S := fun w' => w'.cell? ⟨g2, 1, none⟩ = some (.int .i64 bu) ∧ w'.cell? ⟨g2, 0, none⟩ = some (.string ⟨nu.toArray⟩)) (ds := []) #[false, false, false, false, false, false, false, false, false, false] (by kernel_rfl) rfl rfl ⟨y1, y0⟩ (fun hHeld => ?_); refine with_tabW stamp_Spell.tab15 stamp_Spell.bits15 (fun HT_ HW_ => ?_)
          generalize ((wr.alloc (.cells #[.string ⟨nu.toArray⟩, .int .i64 bu] 60)).alloc (.cells #[.string ⟨nu.toArray⟩, .int .i64 bu] 60)).drew = w4 at hblk HB4 y0 y1 hHeld ⊢
          refine pure_ (i := 0) (N := some 38) (v := ?_) (a' := ?_) #[true, false, false, false, false, false, false, false, false, false] rfl rfl (any_of HT_.out (by kernel_rfl)) (fun _ _ _ h => h) (Or.inl ⟨by rfl, ?_⟩) ?_ ?_
          rotate_left
          · intro w'
            go_simp
            with_reducible rfl
          rotate_left
          · simp only [Act.put, List.setIfInBounds_toArray, List.set_cons_zero, List.set_cons_succ, i64_w, i32_w]
            rfl
          refine pure_ (i := 1) (N := some 39) (v := ?_) (a' := ?_) #[true, true, false, false, false, false, false, false, false, false] rfl rfl (any_of HT_.out (by kernel_rfl)) (fun _ _ _ h => h) (Or.inl ⟨by rfl, ?_⟩) ?_ ?_
          rotate_left
          · intro w'
            go_simp
            with_reducible rfl
          rotate_left
          · simp only [Act.put, List.setIfInBounds_toArray, List.set_cons_zero, List.set_cons_succ, i64_w, i32_w]
            rfl
          refine pure_ (i := 5) (N := some 43) (v := ?_) (a' := ?_) #[true, true, false, false, false, true, false, false, false, false] rfl rfl (any_of HT_.out (by kernel_rfl)) (fun _ _ _ h => h) (Or.inl ⟨by rfl, ?_⟩) ?_ ?_
          rotate_left
          · intro w'
            go_simp
            with_reducible rfl
          rotate_left
          · simp only [Act.put, List.setIfInBounds_toArray, List.set_cons_zero, List.set_cons_succ, i64_w, i32_w]
            rfl
          refine take_ (i := 2) (N := some 40) (v := ?_) (a' := ?_) #[true, true, true, false, false, true, false, false, false, false] rfl rfl (take_ofW HT_.out HW_.out (by kernel_rfl)) (fun _ _ _ h => h) (Or.inl ⟨by rfl, ?_⟩) hHeld ?_ ?_
          rotate_left
          · rintro w' ⟨s0, s1⟩
            go_simp
            with_reducible rfl
          rotate_left
          · simp only [Act.put, List.setIfInBounds_toArray, List.set_cons_zero, List.set_cons_succ, i64_w, i32_w]
            rfl
          refine pure_ (i := 3) (N := some 41) (v := ?_) (a' := ?_) #[true, true, true, true, false, true, false, false, false, false] rfl rfl (any_of HT_.out (by kernel_rfl)) (fun _ _ _ h => h) (Or.inl ⟨by rfl, ?_⟩) ?_ ?_
          rotate_left
          · intro w'
            go_simp
            with_reducible rfl
          rotate_left
          · simp only [Act.put, List.setIfInBounds_toArray, List.set_cons_zero, List.set_cons_succ, i64_w, i32_w]
            rfl
          refine take_ (i := 6) (N := some 44) (v := ?_) (a' := ?_) #[true, true, true, true, false, true, true, false, false, false] rfl rfl (take_ofW HT_.out HW_.out (by kernel_rfl)) (fun _ _ _ h => h) (Or.inl ⟨by rfl, ?_⟩) hHeld ?_ ?_
          rotate_left
          · rintro w' ⟨s0, s1⟩
            go_simp
            with_reducible rfl
          rotate_left
          · simp only [Act.put, List.setIfInBounds_toArray, List.set_cons_zero, List.set_cons_succ, i64_w, i32_w]
            rfl
          refine one_ (i := 4) (N := some 42) #[true, true, true, true, true, true, true, false, false, false] rfl rfl (one_of HT_.out (by kernel_rfl)) (by decide) (fun K hK => ?_)
          refine goes_ Tryd.func56 (by kernel_rfl) rfl #[.int .i64 (wrap64 (Int.tdiv a0 bu))] (by rfl) rfl rfl (by (try simp only [List.map_toArray, List.map_cons, List.map_nil]); first | done | rfl | (simp only [List.length_drop, List.length_take]; rfl)) ?_
          with_reducible refine (strconv_Itoa.calls (wrap64 (Int.tdiv a0 bu)) ⟨(Lib.itoa (a0 / bu)).toArray⟩ _ (HGl.out.below HB4.out) HI.out).mono ?_
          rintro e w5 ⟨rfl, hb⟩
          have HS0_ := (hb.cell (World.block_lt_of_cell? _ _ (hHeld.1))).trans (hHeld.1)
          have HS1_ := (hb.cell (World.block_lt_of_cell? _ _ (hHeld.2))).trans (hHeld.2)
          refine ⟨_, rfl, ?_⟩
          have HB5 := Aside0.mk (below_step HB4.out hb)
          clear hb
          refine hK.out _ _ ⟨HS0_, HS1_⟩ (fun hHeld => ?_)
          clear hK K
          refine norm_ (a' := ?_) ?_ ?_
          rotate_left
          · show Act.put _ (some 42) _ = _
            simp only [Act.put, List.setIfInBounds_toArray, List.set_cons_zero, List.set_cons_succ, i64_w, i32_w]
            rfl
          refine pure_ (i := 7) (N := some 45) (v := ?_) (a' := ?_) #[true, true, true, true, true, true, true, true, false, false] rfl rfl (any_of HT_.out (by kernel_rfl)) (fun _ _ _ h => h) (Or.inl ⟨by rfl, ?_⟩) ?_ ?_
          rotate_left
          · intro w'
            go_simp
            with_reducible rfl
          rotate_left
          · simp only [Act.put, List.setIfInBounds_toArray, List.set_cons_zero, List.set_cons_succ, i64_w, i32_w]
            rfl
          refine pure_ (i := 8) (N := some 2) (v := ?_) (a' := ?_) #[true, true, true, true, true, true, true, true, true, false] rfl rfl (any_of HT_.out (by kernel_rfl)) (fun _ _ _ h => h) (Or.inl ⟨by rfl, ?_⟩) ?_ ?_
          rotate_left
          · intro w'
            go_simp
            with_reducible rfl
          rotate_left
          · simp only [Act.put, List.setIfInBounds_toArray, List.set_cons_zero, List.set_cons_succ, i64_w, i32_w]
            rfl
          refine pure_ (i := 9) (N := some 3) (v := ?_) (a' := ?_) #[true, true, true, true, true, true, true, true, true, true] rfl rfl (any_of HT_.out (by kernel_rfl)) (fun _ _ _ h => h) (Or.inl ⟨by rfl, ?_⟩) ?_ ?_
          rotate_left
          · intro w'
            go_simp
            with_reducible rfl
          rotate_left
          · simp only [Act.put, List.setIfInBounds_toArray, List.set_cons_zero, List.set_cons_succ, i64_w, i32_w]
            rfl
          refine done_ (done_of HT_.out (by kernel_rfl)) ?_
          go_wp2
          simp only [Exit.noGoto_ret]
          go_ret2
          exact ⟨rfl, HB5.out⟩
      · rw [if_neg q1] at hs
        have HS := Aside0.mk hs
        have e14 : (a0 % bu != 0) = true := by simpa using q1
        clear hs
        go_wp2
        go_roundw
        case rel => exact ⟨m + 1, HM.out, rfl, HS, HW2⟩
        case measure => have := HM.out; simp [intOf]; omega
    · exfalso
      have : m = 7 := by omega
      subst this
      obtain ⟨u, h1, _⟩ := HS.out
      rw [show spellRow.drop 7 = [] from rfl] at h1
      simp [spellGo] at h1

end Go.Proofs.YtjcenencgnfffaaDoor.XStB
