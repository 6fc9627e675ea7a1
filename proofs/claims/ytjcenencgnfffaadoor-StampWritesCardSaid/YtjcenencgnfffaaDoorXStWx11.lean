-- Laid by extprint.py (the session's own driver): functions told by the kit's printer and by hand.
import Derived.Test.YtjcenencgnfffaaDoorXStWx0
import Derived.Test.YtjcenencgnfffaaDoorXStWx6
namespace Go.Proofs.YtjcenencgnfffaaDoor.XStW
open Go.RowKit Gong Go.Proofs.YtjcenencgnfffaaDoorW.PrintWords Go.Proofs.YtjcenencgnfffaaDoorW.PrintLast Go.Proofs.YtjcenencgnfffaaDoorW.PrintMore
attribute [local go_sem] max2_int min2_int max_two min_two max_three min_three max_four min_four   -- for this text's walks alone
set_option linter.unusedVariables false
set_option linter.unusedSimpArgs false

/-! ### stamp_Spell: function 22 -/
def spellRow : List (List UInt8 × Int) := [([100], 86400000000000), ([104], 3600000000000), ([109], 60000000000), ([115], 1000000000), ([109, 115], 1000000), ([117, 115], 1000), ([110, 115], 1)]
def spellGo (n : Int) : List (List UInt8 × Int) → Option (List UInt8 × Int)
  | [] => none
  | u :: us => if n % u.2 = 0 then some u else spellGo n us
def stamp_Spell.f (a0 : Int) : Option (ByteArray × Int) :=
  if a0 < 0 then some (⟨#[]⟩, 1) else if 2305843009213693952 < a0 then some (⟨#[]⟩, 1) else if a0 = 0 then some (⟨#[48, 115]⟩, 0) else
  match spellGo a0 spellRow with
  | some u => if 999999999 < a0 / u.2 then some (⟨#[]⟩, 1) else some (⟨(Lib.itoa (a0 / u.2)).toArray⟩ ++ ⟨u.1.toArray⟩, 0)
  | none => none
theorem spell_index_struct {P : Program} {t e : TypeId} {n : Nat} {fs : Array Field} (ht : P.underlying t = some (.array n e)) (he : P.underlying e = some (.struct fs)) {c : Nat} (hc : P.cellsOf e = c) (m : Nat) (hm : m < n) (cs : Array Value) (w : World) :
    (Instr.index t (.agg cs) (.int .i64 m)).run P w = .ok (.agg (cs.extract (m * c) (m * c + c))) w := by
  have hm' : (m : Int) < n := by omega
  cases hi : P.info? e with
  | none => simp [Program.underlying, hi] at he
  | some i =>
    have hs : i.size = c := by simpa [Program.cellsOf, hi] using hc
    simp [Instr.index, asIntOf, run_underlying ht, part, isAgg, run_underlying he, sizeOf, typeInfo, hi, hm', hs]
    intro h
    omega
theorem spell_unit_at (m : Nat) (h : m < 7) : ∃ nm by_, spellRow.drop m = (nm, by_) :: spellRow.drop (m + 1) ∧ nm.length ≤ 2 ∧ 0 < by_ ∧ by_ ≤ 86400000000000 ∧ unitCells.toArray[m * 2]? = some (.string ⟨nm.toArray⟩) ∧ unitCells.toArray[m * 2 + 1]? = some (.int .i64 by_) ∧ ∀ W, (Instr.index 61 (.agg #[.string ⟨#[100]⟩, .int .i64 86400000000000, .string ⟨#[104]⟩, .int .i64 3600000000000, .string ⟨#[109]⟩, .int .i64 60000000000, .string ⟨#[115]⟩, .int .i64 1000000000, .string ⟨#[109, 115]⟩, .int .i64 1000000, .string ⟨#[117, 115]⟩, .int .i64 1000, .string ⟨#[110, 115]⟩, .int .i64 1]) (.int .i64 m)).run Tryd.prog W = .ok (.agg #[.string ⟨nm.toArray⟩, .int .i64 by_]) W := by
  have hx := fun W => spell_index_struct Tryd.underlying61 Tryd.underlying60 (c := 2) (by kernel_rfl) m h unitCells.toArray W
  have : m = 0 ∨ m = 1 ∨ m = 2 ∨ m = 3 ∨ m = 4 ∨ m = 5 ∨ m = 6 := by omega
  rcases this with rfl | rfl | rfl | rfl | rfl | rfl | rfl
  all_goals exact ⟨_, _, rfl, by decide, by decide, by decide, rfl, rfl, fun W => (hx W).trans rfl⟩
theorem spell_len (q : Int) (h0 : 0 ≤ q) (h1 : q ≤ 2305843009213693952) : (Lib.itoa q).length ≤ 20 := by
  have key : ∀ (m n : Nat), n < 10 ^ (m + 1) → (Lib.decDigits n).length ≤ m + 1 := by
    intro m
    induction m with
    | zero => intro n h; rw [Lib.decDigits, dif_pos (by omega)]; exact Nat.le_refl _
    | succ m ih =>
      intro n h
      by_cases c : n < 10
      · rw [Lib.decDigits, dif_pos c]; simp
      · rw [Lib.decDigits, dif_neg c, List.length_append]
        have := ih (n / 10) (by rw [Nat.pow_succ] at h; omega)
        simp only [List.length_cons, List.length_nil]
        omega
  unfold Lib.itoa
  rw [if_neg (by omega)]
  exact key 19 _ (by omega)
def stamp_Spell.T15 : Bool × List (List Nat × List Nat) := (true, [([], []), ([], []), ([1], [1]), ([0, 2], [0, 2]), ([3], [3]), ([], []), ([5], [5]), ([4, 6], [4, 6]), ([7, 4, 0, 1, 2, 3, 4, 5, 6, 7], [7]), ([8, 0, 1, 2, 3, 4, 5, 6, 7, 8], [])])
def stamp_Spell.B15 : List Nat := [0, 0, 2, 7, 15, 0, 32, 127, 255, 511]
theorem stamp_Spell.tab15 : rtab .any (opsOf Tryd.f22 15) = stamp_Spell.T15 := by kernel_rfl
theorem stamp_Spell.bits15 : waitsOk stamp_Spell.T15.2 stamp_Spell.B15 = true := by kernel_rfl
set_option maxHeartbeats 1600000 in
set_option maxRecDepth 100000 in
theorem stamp_Spell.calls (a0 : Int) (r1 : ByteArray) (r2 : Int) (w : World) (hG : Gl w) (h : stamp_Spell.f a0 = some (r1, r2)) :
    Calls Tryd.prog 22 #[.int .i64 a0] w fun e w' => e = .returned (.tuple #[.string r1, .int .i64 r2]) ∧ Below w.heap.size w w' := by
  have HGl := Aside0.mk hG
  clear hG
  unfold stamp_Spell.f at h
  by_cases c0 : a0 < 0
  · rw [if_pos c0] at h
    simp only [Option.some.injEq, Prod.mk.injEq] at h
    obtain ⟨rfl, rfl⟩ := h
    have e0 : decide (a0 < 0) = true := decide_eq_true c0
    clear c0
    go_enter Tryd.func22, Tryd.ntmps22
    go_wp2_with fail
    go_step3
    go_wp2
    simp only [Exit.noGoto_ret]
    go_ret2
    exact ⟨rfl, Below.refl _ _⟩
  rw [if_neg c0] at h
  have e0 : decide (a0 < 0) = false := decide_eq_false c0
  by_cases c1 : 2305843009213693952 < a0
  · rw [if_pos c1] at h
    simp only [Option.some.injEq, Prod.mk.injEq] at h
    obtain ⟨rfl, rfl⟩ := h
    have e1 : decide (a0 > 2305843009213693952) = true := decide_eq_true c1
    clear c0 c1
    go_enter Tryd.func22, Tryd.ntmps22
    go_wp2_with fail
    go_step3
    go_wp2
    simp only [Exit.noGoto_ret]
    go_ret2
    exact ⟨rfl, Below.refl _ _⟩
  rw [if_neg c1] at h
  have e1 : decide (a0 > 2305843009213693952) = false := decide_eq_false c1
  by_cases c2 : a0 = 0
  · rw [if_pos c2] at h
    simp only [Option.some.injEq, Prod.mk.injEq] at h
    obtain ⟨rfl, rfl⟩ := h
    have e2 : (a0 == 0) = true := beq_iff_eq.mpr c2
    clear c0 c1 c2
    go_enter Tryd.func22, Tryd.ntmps22
    go_wp2_with fail
    go_step3
    go_wp2
    simp only [Exit.noGoto_ret]
    go_ret2
    exact ⟨rfl, Below.refl _ _⟩
  rw [if_neg c2] at h
  have e2 : (a0 == 0) = false := beq_eq_false_iff_ne.mpr c2
  have HA := Aside0.mk (show 0 ≤ a0 ∧ a0 ≤ 2305843009213693952 from ⟨Int.not_lt.1 c0, Int.not_lt.1 c1⟩)
  clear c0 c1 c2
  have HQ : Aside0 (∃ u, spellGo a0 (spellRow.drop 0) = some u ∧ (if 999999999 < a0 / u.2 then some ((⟨#[]⟩ : ByteArray), (1 : Int)) else some (⟨(Lib.itoa (a0 / u.2)).toArray⟩ ++ ⟨u.1.toArray⟩, 0)) = some (r1, r2)) := ⟨by
    rw [List.drop_zero]
    cases hs : spellGo a0 spellRow with
    | none => rw [hs] at h; simp at h
    | some u => rw [hs] at h; exact ⟨u, rfl, h⟩⟩
  clear h
  have hC : ∀ W, Below w.heap.size w W → ∀ i v, unitCells.toArray[i]? = some v → W.cell? ⟨0, i, none⟩ = some v := fun W hb i v hv => (World.var?_cell gl_u (HGl.out.below hb).units i).trans hv
  have HC := Aside0.mk hC
  clear hC
  have d0 := HC.out w (Below.refl _ _) 0 (.string ⟨#[100]⟩) rfl
  have d1 := HC.out w (Below.refl _ _) 1 (.int .i64 86400000000000) rfl
  have d2 := HC.out w (Below.refl _ _) 2 (.string ⟨#[104]⟩) rfl
  have d3 := HC.out w (Below.refl _ _) 3 (.int .i64 3600000000000) rfl
  have d4 := HC.out w (Below.refl _ _) 4 (.string ⟨#[109]⟩) rfl
  have d5 := HC.out w (Below.refl _ _) 5 (.int .i64 60000000000) rfl
  have d6 := HC.out w (Below.refl _ _) 6 (.string ⟨#[115]⟩) rfl
  have d7 := HC.out w (Below.refl _ _) 7 (.int .i64 1000000000) rfl
  have d8 := HC.out w (Below.refl _ _) 8 (.string ⟨#[109, 115]⟩) rfl
  have d9 := HC.out w (Below.refl _ _) 9 (.int .i64 1000000) rfl
  have d10 := HC.out w (Below.refl _ _) 10 (.string ⟨#[117, 115]⟩) rfl
  have d11 := HC.out w (Below.refl _ _) 11 (.int .i64 1000) rfl
  have d12 := HC.out w (Below.refl _ _) 12 (.string ⟨#[110, 115]⟩) rfl
  have d13 := HC.out w (Below.refl _ _) 13 (.int .i64 1) rfl
  have HB := Aside0.mk (Below.refl w.heap.size w)
  go_enter Tryd.func22, Tryd.ntmps22
  go_wp2_with fail
  go_step3
  go_wp2_with fail
  go_step3
  go_wp2_with fail
  go_loopw [19] (fun v W => ∃ m : Nat, m ≤ 7 ∧ v = .int .i64 (m : Int) ∧ Aside0 (∃ u, spellGo a0 (spellRow.drop m) = some u ∧ (if 999999999 < a0 / u.2 then some ((⟨#[]⟩ : ByteArray), (1 : Int)) else some (⟨(Lib.itoa (a0 / u.2)).toArray⟩ ++ ⟨u.1.toArray⟩, 0)) = some (r1, r2)) ∧ Aside0 (Below w.heap.size w W)) (fun v _ => (7 - intOf v).toNat)
  case atStart => exact ⟨0, by omega, rfl, HQ, HB⟩
  case round =>
    obtain ⟨m, hm, rfl, HS, HW⟩ := hrel
    by_cases hlt : m < 7
    · obtain ⟨nu, bu, hu, hl2, hb0, hb1, hx0, hx1, hx⟩ := spell_unit_at m hlt
      have e9 : decide ((m : Int) < 7) = true := decide_eq_true (by omega)
      have e10 : (bu == 0) = false := beq_eq_false_iff_ne.mpr (by omega)
      have e20 := eq_true (show (m : Int) < 7 by omega)
      have e21 := eq_true hlt
      have e12 : wrap64 ((m : Int) + 1) = ((m + 1 : Nat) : Int) := by unfold wrap64; omega
      have hs := HS.out
      rw [hu] at hs
      simp only [spellGo] at hs
      clear HS
      have HM := Aside0.mk hlt
      have hsz := HW.out.size
      have HW2 := Aside0.mk (HW.out.alloc hsz (.cells #[.string ⟨nu.toArray⟩, .int .i64 bu] 60))
      clear hlt hsz
      have e13 : Int.tmod a0 bu = a0 % bu := Int.tmod_eq_emod_of_nonneg HA.out.1
      by_cases q1 : a0 % bu = 0
      · rw [if_pos q1] at hs
        obtain ⟨u, hu1, hs⟩ := hs
        rw [Option.some.injEq] at hu1
        subst hu1
        simp only at hs
        have f1 := HC.out _ HW2.out (m * 2) _ hx0
        have f2 := HC.out _ HW2.out (m * 2 + 1) _ hx1
        have HI := Aside0.mk (show strconv_Itoa.f (wrap64 (Int.tdiv a0 bu)) = some ⟨(Lib.itoa (a0 / bu)).toArray⟩ from by
          have hq := Int.ediv_nonneg HA.out.1 (Int.le_of_lt hb0)
          have hq2 := Int.ediv_le_self bu HA.out.1
          have hq3 := HA.out.2
          rw [Int.tdiv_eq_ediv_of_nonneg HA.out.1]
          generalize a0 / bu = q at hq hq2 ⊢
          have e : wrap64 q = q := by unfold wrap64; omega
          rw [e]
          unfold strconv_Itoa.f
          rw [if_pos ⟨by omega, by omega⟩])
        have e22 : wrap64 (Int.tdiv a0 bu) = a0 / bu := by
          have hq := Int.ediv_nonneg HA.out.1 (Int.le_of_lt hb0)
          have hq2 := Int.ediv_le_self bu HA.out.1
          have hq3 := HA.out.2
          rw [Int.tdiv_eq_ediv_of_nonneg HA.out.1]
          generalize a0 / bu = q at hq hq2 ⊢
          unfold wrap64; omega
        have e14 : (a0 % bu != 0) = false := by simpa using q1
        have e15 : (Int.tmod a0 bu == 0) = true := by rw [e13]; exact beq_iff_eq.mpr q1
        have e16 : (Int.tmod a0 bu != 0) = false := by rw [bne, e15]; rfl
        by_cases q2 : 999999999 < a0 / bu
        · rw [if_pos q2] at hs
          simp only [Option.some.injEq, Prod.mk.injEq] at hs
          obtain ⟨rfl, rfl⟩ := hs
          have e23 : decide (wrap64 (Int.tdiv a0 bu) > 999999999) = true := decide_eq_true (by rw [e22]; exact q2)
          have e24 := eq_true (show 999999999 < wrap64 (Int.tdiv a0 bu) by rw [e22]; exact q2)
          clear q1 q2 e22
          go_wp2
          simp only [Exit.noGoto_ret]
          go_ret2
          exact ⟨rfl, (HW2.out.alloc HW2.out.size _)⟩
        · rw [if_neg q2] at hs
          simp only [Option.some.injEq, Prod.mk.injEq] at hs
          obtain ⟨rfl, rfl⟩ := hs
          have e23 : decide (wrap64 (Int.tdiv a0 bu) > 999999999) = false := decide_eq_false (by rw [e22]; exact q2)
          have e24 := eq_false (show ¬ 999999999 < wrap64 (Int.tdiv a0 bu) by rw [e22]; exact q2)
          clear q1 q2 e22
          go_wp2_with fail
          have hblk : ((wr.alloc (.cells #[.string ⟨nu.toArray⟩, .int .i64 bu] 60)).alloc (.cells #[.string ⟨nu.toArray⟩, .int .i64 bu] 60)).heap[wr.heap.size + 1]? = some (.cells #[.string ⟨nu.toArray⟩, .int .i64 bu] 60 (0, 0)) := by
            have h := blk_new (wr.alloc (.cells #[.string ⟨nu.toArray⟩, .int .i64 bu] 60)) (.cells #[.string ⟨nu.toArray⟩, .int .i64 bu] 60 (0, 0))
            rw [show (wr.alloc (.cells #[.string ⟨nu.toArray⟩, .int .i64 bu] 60)).heap.size = wr.heap.size + 1 from Array.size_push _] at h
            exact h
          have HB4 := Aside0.mk (below_drew1 (HW2.out.alloc HW2.out.size (.cells #[.string ⟨nu.toArray⟩, .int .i64 bu] 60)))
          replace hblk := blk_drew hblk
          generalize wr.heap.size + 1 = g2 at hblk ⊢
          have y0 := (blk_cell hblk 0).trans (show _ = some (Value.string ⟨nu.toArray⟩) from rfl)
          have y1 := (blk_cell hblk 1).trans (show _ = some (Value.int .i64 bu) from rfl)
          have hz : (Lib.itoa (a0 / bu)).length + nu.length ≤ 9223372036854775807 := by
            have hq := Int.ediv_nonneg HA.out.1 (Int.le_of_lt hb0)
            have hq2 := Int.ediv_le_self bu HA.out.1
            have hq3 := HA.out.2
            generalize a0 / bu = q at hq hq2 ⊢
            have := spell_len q hq (by omega)
            omega
          have hz2 := eq_false (Nat.not_lt.2 hz)
          have e25 := eq_false (show ¬ bu = 0 by omega)
          clear hz
          refine start_ (n := 10) (S := fun w' => w'.cell? ⟨g2, 1, none⟩ = some (.int .i64 bu) ∧ w'.cell? ⟨g2, 0, none⟩ = some (.string ⟨nu.toArray⟩)) (ds := []) #[false, false, false, false, false, false, false, false, false, false] (by kernel_rfl) rfl rfl ⟨y1, y0⟩ (fun hHeld => ?_); refine with_tabW stamp_Spell.tab15 stamp_Spell.bits15 (fun HT_ HW_ => ?_)
          generalize ((wr.alloc (.cells #[.string ⟨nu.toArray⟩, .int .i64 bu] 60)).alloc (.cells #[.string ⟨nu.toArray⟩, .int .i64 bu] 60)).drew = w4 at hblk HB4 y0 y1 hHeld ⊢
          refine pure_ (i := 0) (N := some 38) (v := ?_) (a' := ?_) #[true, false, false, false, false, false, false, false, false, false] rfl rfl (any_of HT_.out (by kernel_rfl)) (fun _ _ _ h => h) (Or.inl ⟨by rfl, ?_⟩) ?_ ?_
          rotate_left
          · intro w'
            go_simp
            with_reducible rfl
          rotate_left
          · simp only [Act.put, List.setIfInBounds_toArray, List.set_cons_zero, List.set_cons_succ, i64_w, i32_w]
            rfl
          refine pure_ (i := 1) (N := some 39) (v := ?_) (a' := ?_) #[true, true, false, false, false, false, false, false, false, false] rfl rfl (any_of HT_.out (by kernel_rfl)) (fun _ _ _ h => h) (Or.inl ⟨by rfl, ?_⟩) ?_ ?_
          rotate_left
          · intro w'
            go_simp
            with_reducible rfl
          rotate_left
          · simp only [Act.put, List.setIfInBounds_toArray, List.set_cons_zero, List.set_cons_succ, i64_w, i32_w]
            rfl
          refine pure_ (i := 5) (N := some 43) (v := ?_) (a' := ?_) #[true, true, false, false, false, true, false, false, false, false] rfl rfl (any_of HT_.out (by kernel_rfl)) (fun _ _ _ h => h) (Or.inl ⟨by rfl, ?_⟩) ?_ ?_
          rotate_left
          · intro w'
            go_simp
            with_reducible rfl
          rotate_left
          · simp only [Act.put, List.setIfInBounds_toArray, List.set_cons_zero, List.set_cons_succ, i64_w, i32_w]
            rfl
          refine take_ (i := 2) (N := some 40) (v := ?_) (a' := ?_) #[true, true, true, false, false, true, false, false, false, false] rfl rfl (take_ofW HT_.out HW_.out (by kernel_rfl)) (fun _ _ _ h => h) (Or.inl ⟨by rfl, ?_⟩) hHeld ?_ ?_
          rotate_left
          · rintro w' ⟨s0, s1⟩
            go_simp
            with_reducible rfl
          rotate_left
          · simp only [Act.put, List.setIfInBounds_toArray, List.set_cons_zero, List.set_cons_succ, i64_w, i32_w]
            rfl
          refine pure_ (i := 3) (N := some 41) (v := ?_) (a' := ?_) #[true, true, true, true, false, true, false, false, false, false] rfl rfl (any_of HT_.out (by kernel_rfl)) (fun _ _ _ h => h) (Or.inl ⟨by rfl, ?_⟩) ?_ ?_
          rotate_left
          · intro w'
            go_simp
            with_reducible rfl
          rotate_left
          · simp only [Act.put, List.setIfInBounds_toArray, List.set_cons_zero, List.set_cons_succ, i64_w, i32_w]
            rfl
          refine take_ (i := 6) (N := some 44) (v := ?_) (a' := ?_) #[true, true, true, true, false, true, true, false, false, false] rfl rfl (take_ofW HT_.out HW_.out (by kernel_rfl)) (fun _ _ _ h => h) (Or.inl ⟨by rfl, ?_⟩) hHeld ?_ ?_
          rotate_left
          · rintro w' ⟨s0, s1⟩
            go_simp
            with_reducible rfl
          rotate_left
          · simp only [Act.put, List.setIfInBounds_toArray, List.set_cons_zero, List.set_cons_succ, i64_w, i32_w]
            rfl
          refine one_ (i := 4) (N := some 42) #[true, true, true, true, true, true, true, false, false, false] rfl rfl (one_of HT_.out (by kernel_rfl)) (by decide) (fun K hK => ?_)
          refine goes_ Tryd.func56 (by kernel_rfl) rfl #[.int .i64 (wrap64 (Int.tdiv a0 bu))] (by rfl) rfl rfl (by (try simp only [List.map_toArray, List.map_cons, List.map_nil]); first | done | rfl | (simp only [List.length_drop, List.length_take]; rfl)) ?_
          with_reducible refine (strconv_Itoa.calls (wrap64 (Int.tdiv a0 bu)) ⟨(Lib.itoa (a0 / bu)).toArray⟩ _ (HGl.out.below HB4.out) HI.out).mono ?_
          rintro e w5 ⟨rfl, hb⟩
          have HS0_ := (hb.cell (World.block_lt_of_cell? _ _ (hHeld.1))).trans (hHeld.1)
          have HS1_ := (hb.cell (World.block_lt_of_cell? _ _ (hHeld.2))).trans (hHeld.2)
          refine ⟨_, rfl, ?_⟩
          have HB5 := Aside0.mk (below_step HB4.out hb)
          clear hb
          refine hK.out _ _ ⟨HS0_, HS1_⟩ (fun hHeld => ?_)
          clear hK K
          refine norm_ (a' := ?_) ?_ ?_
          rotate_left
          · show Act.put _ (some 42) _ = _
            simp only [Act.put, List.setIfInBounds_toArray, List.set_cons_zero, List.set_cons_succ, i64_w, i32_w]
            rfl
          refine pure_ (i := 7) (N := some 45) (v := ?_) (a' := ?_) #[true, true, true, true, true, true, true, true, false, false] rfl rfl (any_of HT_.out (by kernel_rfl)) (fun _ _ _ h => h) (Or.inl ⟨by rfl, ?_⟩) ?_ ?_
          rotate_left
          · intro w'
            go_simp
            with_reducible rfl
          rotate_left
          · simp only [Act.put, List.setIfInBounds_toArray, List.set_cons_zero, List.set_cons_succ, i64_w, i32_w]
            rfl
          refine pure_ (i := 8) (N := some 2) (v := ?_) (a' := ?_) #[true, true, true, true, true, true, true, true, true, false] rfl rfl (any_of HT_.out (by kernel_rfl)) (fun _ _ _ h => h) (Or.inl ⟨by rfl, ?_⟩) ?_ ?_
          rotate_left
          · intro w'
            go_simp
            with_reducible rfl
          rotate_left
          · simp only [Act.put, List.setIfInBounds_toArray, List.set_cons_zero, List.set_cons_succ, i64_w, i32_w]
            rfl
          refine pure_ (i := 9) (N := some 3) (v := ?_) (a' := ?_) #[true, true, true, true, true, true, true, true, true, true] rfl rfl (any_of HT_.out (by kernel_rfl)) (fun _ _ _ h => h) (Or.inl ⟨by rfl, ?_⟩) ?_ ?_
          rotate_left
          · intro w'
            go_simp
            with_reducible rfl
          rotate_left
          · simp only [Act.put, List.setIfInBounds_toArray, List.set_cons_zero, List.set_cons_succ, i64_w, i32_w]
            rfl
          refine done_ (done_of HT_.out (by kernel_rfl)) ?_
          go_wp2
          simp only [Exit.noGoto_ret]
          go_ret2
          exact ⟨rfl, HB5.out⟩
      · rw [if_neg q1] at hs
        have HS := Aside0.mk hs
        have e14 : (a0 % bu != 0) = true := by simpa using q1
        clear hs
        go_wp2
        go_roundw
        case rel => exact ⟨m + 1, HM.out, rfl, HS, HW2⟩
        case measure => have := HM.out; simp [intOf]; omega
    · exfalso
      have : m = 7 := by omega
      subst this
      obtain ⟨u, h1, _⟩ := HS.out
      rw [show spellRow.drop 7 = [] from rfl] at h1
      simp [spellGo] at h1

/-! ### gongref03_Units: function 51 -/
def gongref03_Units.f  : Option (List ByteArray × List Int) := some ((([(⟨#[100]⟩ : ByteArray), (⟨#[104]⟩ : ByteArray), (⟨#[109]⟩ : ByteArray), (⟨#[115]⟩ : ByteArray), (⟨#[109, 115]⟩ : ByteArray), (⟨#[117, 115]⟩ : ByteArray), (⟨#[110, 115]⟩ : ByteArray)] : List ByteArray)), (([86400000000000, 3600000000000, 60000000000, 1000000000, 1000000, 1000, 1] : List Int)))
set_option maxHeartbeats 8000000 in
set_option maxRecDepth 100000 in
theorem gongref03_Units.calls  (r1 : List ByteArray) (r2 : List Int) (w : World) (h : gongref03_Units.f  = some (r1, r2)) :
    Calls Tryd.prog 51 #[] w fun e w' => ∃ v0_ v1_ : Value, e = .returned (.tuple #[v0_, v1_]) ∧ Kd.R Kd.string 9 w' w.heap.size (fun _ => True) v0_ r1 ∧ Kd.R (Kd.int .i64) 3 w' w.heap.size (fun _ => True) v1_ r2 ∧ Below w.heap.size w w' := by
  have HB := Aside0.mk (Below.refl w.heap.size w)
  have H : (some ((([(⟨#[100]⟩ : ByteArray), (⟨#[104]⟩ : ByteArray), (⟨#[109]⟩ : ByteArray), (⟨#[115]⟩ : ByteArray), (⟨#[109, 115]⟩ : ByteArray), (⟨#[117, 115]⟩ : ByteArray), (⟨#[110, 115]⟩ : ByteArray)] : List ByteArray)), (([86400000000000, 3600000000000, 60000000000, 1000000000, 1000000, 1000, 1] : List Int)))) = some (r1, r2) := h
  clear h
  obtain ⟨y191, hy191⟩ : ∃ y_ : List ByteArray, y_ = (([(⟨#[100]⟩ : ByteArray), (⟨#[104]⟩ : ByteArray), (⟨#[109]⟩ : ByteArray), (⟨#[115]⟩ : ByteArray), (⟨#[109, 115]⟩ : ByteArray), (⟨#[117, 115]⟩ : ByteArray), (⟨#[110, 115]⟩ : ByteArray)] : List ByteArray)) := ⟨_, rfl⟩
  replace H : (some (y191, (([86400000000000, 3600000000000, 60000000000, 1000000000, 1000000, 1000, 1] : List Int)))) = some (r1, r2) := by first | (rw [hy191]; with_reducible exact H) | (have H2_ := (Option.bind_some _ _).symm.trans H; rw [hy191]; with_reducible exact H2_) | (have H2_ := (Option.bind_some _ _).symm.trans H; with_reducible exact H2_) | with_reducible exact H | (rw [hy191]; exact H) | exact H
  have Ny191 := Aside0.mk hy191
  clear hy191
  obtain ⟨y194, hy194⟩ : ∃ y_ : List Int, y_ = (([86400000000000, 3600000000000, 60000000000, 1000000000, 1000000, 1000, 1] : List Int)) := ⟨_, rfl⟩
  replace H : (some (y191, y194)) = some (r1, r2) := by first | (rw [hy194]; with_reducible exact H) | (have H2_ := (Option.bind_some _ _).symm.trans H; rw [hy194]; with_reducible exact H2_) | (have H2_ := (Option.bind_some _ _).symm.trans H; with_reducible exact H2_) | with_reducible exact H | (rw [hy194]; exact H) | exact H
  have Ny194 := Aside0.mk hy194
  clear hy194
  simp only [Option.some.injEq, Prod.mk.injEq] at H
  obtain ⟨rfl, rfl⟩ := H
  go_enter Tryd.func51, Tryd.ntmps51
  go_wp2_with (first | ((with_reducible refine gate_dst (N := 2) rfl ?_); refine Kd.R_lit Kd.string _ 9 ?hg (N := 2) ?hd (xs := ([(⟨#[100]⟩ : ByteArray), (⟨#[104]⟩ : ByteArray), (⟨#[109]⟩ : ByteArray), (⟨#[115]⟩ : ByteArray), (⟨#[109, 115]⟩ : ByteArray), (⟨#[117, 115]⟩ : ByteArray), (⟨#[110, 115]⟩ : ByteArray)] : List ByteArray)) (inner := [.string (⟨#[100]⟩ : ByteArray), .string (⟨#[104]⟩ : ByteArray), .string (⟨#[109]⟩ : ByteArray), .string (⟨#[115]⟩ : ByteArray), .string (⟨#[109, 115]⟩ : ByteArray), .string (⟨#[117, 115]⟩ : ByteArray), .string (⟨#[110, 115]⟩ : ByteArray)]) (ok := fun _ => True) (okp := fun _ => True) ?hr ?hp (fun _ hk => hk) trivial (Below.refl _ _) (Nat.le_refl _) (by simp) ?_; (case hd => rfl); (case hg => rfl); (case hr => first | (go_simp; done) | (go_simp; rfl)); (case hp => exact (Reps.one (show Kd.M Kd.string _ _ _ (⟨#[100]⟩ : ByteArray) [.string (⟨#[100]⟩ : ByteArray)] from rfl) (Reps.one (show Kd.M Kd.string _ _ _ (⟨#[104]⟩ : ByteArray) [.string (⟨#[104]⟩ : ByteArray)] from rfl) (Reps.one (show Kd.M Kd.string _ _ _ (⟨#[109]⟩ : ByteArray) [.string (⟨#[109]⟩ : ByteArray)] from rfl) (Reps.one (show Kd.M Kd.string _ _ _ (⟨#[115]⟩ : ByteArray) [.string (⟨#[115]⟩ : ByteArray)] from rfl) (Reps.one (show Kd.M Kd.string _ _ _ (⟨#[109, 115]⟩ : ByteArray) [.string (⟨#[109, 115]⟩ : ByteArray)] from rfl) (Reps.one (show Kd.M Kd.string _ _ _ (⟨#[117, 115]⟩ : ByteArray) [.string (⟨#[117, 115]⟩ : ByteArray)] from rfl) (Reps.one (show Kd.M Kd.string _ _ _ (⟨#[110, 115]⟩ : ByteArray) [.string (⟨#[110, 115]⟩ : ByteArray)] from rfl) (Reps.none _ _))))))))); intro v192 w1 ho2 hb hg_ hnew_; clear hg_ hnew_; (first | rw [← Ny191.out] at ho2 | (simp only [Int.reduceToNat] at ho2; rw [← Ny191.out] at ho2)); have n0_ := Aside0.mk (Kd.R_lower ho2 (below_size (by repeat (first | (with_reducible first | exact HB.out | apply below_alloc | apply pw_below_drewN | apply below_drew1) | exact HB.out)))); have n1_ := Aside0.mk (below_step (by repeat (first | (with_reducible first | exact HB.out | apply below_alloc | apply pw_below_drewN | apply below_drew1) | exact HB.out)) hb); clear HB; have HO193 := n0_; have HB := n1_; clear n0_ n1_; clear hb ho2) | ((with_reducible refine gate_dst (N := 3) rfl ?_); refine Kd.R_lit (Kd.int .i64) _ 3 ?hg (N := 3) ?hd (xs := ([86400000000000, 3600000000000, 60000000000, 1000000000, 1000000, 1000, 1] : List Int)) (inner := [.int .i64 86400000000000, .int .i64 3600000000000, .int .i64 60000000000, .int .i64 1000000000, .int .i64 1000000, .int .i64 1000, .int .i64 1]) (ok := fun _ => True) (okp := fun _ => True) ?hr ?hp (fun _ hk => hk) trivial (Below.refl _ _) (Nat.le_refl _) (by simp) ?_; (case hd => rfl); (case hg => rfl); (case hr => first | (go_simp; done) | (go_simp; rfl)); (case hp => exact (Reps.one (show Kd.M (Kd.int .i64) _ _ _ 86400000000000 [.int .i64 86400000000000] from rfl) (Reps.one (show Kd.M (Kd.int .i64) _ _ _ 3600000000000 [.int .i64 3600000000000] from rfl) (Reps.one (show Kd.M (Kd.int .i64) _ _ _ 60000000000 [.int .i64 60000000000] from rfl) (Reps.one (show Kd.M (Kd.int .i64) _ _ _ 1000000000 [.int .i64 1000000000] from rfl) (Reps.one (show Kd.M (Kd.int .i64) _ _ _ 1000000 [.int .i64 1000000] from rfl) (Reps.one (show Kd.M (Kd.int .i64) _ _ _ 1000 [.int .i64 1000] from rfl) (Reps.one (show Kd.M (Kd.int .i64) _ _ _ 1 [.int .i64 1] from rfl) (Reps.none _ _))))))))); intro v195 w3 ho4 hb hg_ hnew_; clear hg_ hnew_; (first | rw [← Ny194.out] at ho4 | (simp only [Int.reduceToNat] at ho4; rw [← Ny194.out] at ho4)); have n0_ := Aside0.mk (Kd.R_below (by (with_reducible repeat (first | apply Kd.R_alloc | apply Kd.R_drewN | apply Kd.R_drew)); exact HO193.out) hb); have n1_ := Aside0.mk (Kd.R_lower ho4 (below_size (by repeat (first | (with_reducible first | exact HB.out | apply below_alloc | apply pw_below_drewN | apply below_drew1) | exact HB.out)))); have n2_ := Aside0.mk (below_step (by repeat (first | (with_reducible first | exact HB.out | apply below_alloc | apply pw_below_drewN | apply below_drew1) | exact HB.out)) hb); clear HO193; clear HB; have HO193 := n0_; have HO196 := n1_; have HB := n2_; clear n0_ n1_ n2_; clear hb ho4))
  go_ret2
  exact ⟨_, _, by first | rfl | (simp [errW_none, errW_some] <;> rfl) | (simp [*, errW_none, errW_some] <;> rfl), by (with_reducible repeat (first | apply Kd.R_alloc | apply Kd.R_drewN | apply Kd.R_drew)); exact HO193.out, by (with_reducible repeat (first | apply Kd.R_alloc | apply Kd.R_drewN | apply Kd.R_drew)); exact HO196.out, by repeat (first | (with_reducible first | exact HB.out | apply below_alloc | apply pw_below_drewN | apply below_drew1) | exact HB.out)⟩

/-! ### gongref03_text: function 57 -/
def gongref03_text.l0 : Nat → Int → ByteArray → Option (ByteArray)
  | 0, _, _ => none
  | k + 1, x0, x3 => if x0 ≥ 10 then ((some (([(wrap64 (48 + (Int.tmod (wrap64 (Int.tdiv x0 10)) 10))) % 256] : List Int) : List Int)).bind fun y200 => (if (strOfNums y200).size + x3.size ≤ 9223372036854775807 then (gongref03_text.l0 k (wrap64 (Int.tdiv x0 10)) ((strOfNums y200) ++ x3)) else (none))) else (some x3)
def gongref03_text.f (k : Nat) (a0 : Int) : Option (ByteArray) := gongref03_text.l0 k a0 (strOfNums (([(wrap64 (48 + (Int.tmod a0 10))) % 256] : List Int)))
theorem gongref03_text.mono_l : ∀ k, (∀ y0 y1, LeO (gongref03_text.l0 k y0 y1) (gongref03_text.l0 (k + 1) y0 y1))
  | 0 => fun _ _ r h => by simp [gongref03_text.l0] at h
  | k + 1 => by
    have ih0 := gongref03_text.mono_l k
    · intro y0 y1
      unfold gongref03_text.l0
      repeat' first
      | (with_reducible exact ih0 _ _)
      | (with_reducible exact LeO.refl _)
      | (with_reducible exact LeO.none _)
      | (with_reducible refine LeO.ite ?_ ?_)
      | (with_reducible refine LeO.bind ?_ (fun _ => ?_))
      | exact ih0 _ _
      | exact LeO.none _
      | refine LeO.ite ?_ ?_
      | refine LeO.bind ?_ (fun _ => ?_)
theorem gongref03_text.mono : ∀ a0 k, LeO (gongref03_text.f k a0) (gongref03_text.f (k + 1) a0) := by
  intro a0 k
  have ih0 := gongref03_text.mono_l k
  unfold gongref03_text.f
  repeat' first
      | (with_reducible exact ih0 _ _)
      | (with_reducible exact LeO.refl _)
      | (with_reducible exact LeO.none _)
      | (with_reducible refine LeO.ite ?_ ?_)
      | (with_reducible refine LeO.bind ?_ (fun _ => ?_))
      | exact ih0 _ _
      | exact LeO.none _
      | refine LeO.ite ?_ ?_
      | refine LeO.bind ?_ (fun _ => ?_)
set_option maxHeartbeats 8000000 in
set_option maxRecDepth 100000 in
theorem gongref03_text.calls (k : Nat) (a0 : Int) (r : ByteArray) (w : World) (h : gongref03_text.f k a0 = some r) :
    Calls Tryd.prog 57 #[.int .i64 a0] w fun e w' => e = .returned (.string r) ∧ Below w.heap.size w w' := by
  have HB := Aside0.mk (Below.refl w.heap.size w)
  have H : (gongref03_text.l0 k a0 (strOfNums (([(wrap64 (48 + (Int.tmod a0 10))) % 256] : List Int)))) = some r := h
  clear h
  obtain ⟨y197, hy197⟩ : ∃ y_ : List Int, y_ = (([(wrap64 (48 + (Int.tmod a0 10))) % 256] : List Int)) := ⟨_, rfl⟩
  replace H : (gongref03_text.l0 k a0 (strOfNums y197)) = some r := by first | (rw [hy197]; with_reducible exact H) | (have H2_ := (Option.bind_some _ _).symm.trans H; rw [hy197]; with_reducible exact H2_) | (have H2_ := (Option.bind_some _ _).symm.trans H; with_reducible exact H2_) | with_reducible exact H | (rw [hy197]; exact H) | exact H
  have Ny197 := Aside0.mk hy197
  clear hy197
  have H' := Aside0.mk H
  clear H
  go_enter Tryd.func57, Tryd.ntmps57
  go_wp2_with (first | ((with_reducible refine gate_dst (N := 8) rfl ?_); refine Kd.R_lit (Kd.int .u8) _ 5 ?hg (N := 8) ?hd (xs := ([(wrap64 (48 + (Int.tmod a0 10))) % 256] : List Int)) (inner := [.int .u8 ((wrap64 (48 + (Int.tmod a0 10))) % 256)]) (ok := fun _ => True) (okp := fun _ => True) ?hr ?hp (fun _ hk => hk) trivial (Below.refl _ _) (Nat.le_refl _) (by simp) ?_; (case hd => rfl); (case hg => rfl); (case hr => first | (go_simp; done) | (go_simp; rfl)); (case hp => exact (Reps.one (show Kd.M (Kd.int .u8) _ _ _ ((wrap64 (48 + (Int.tmod a0 10))) % 256) [.int .u8 ((wrap64 (48 + (Int.tmod a0 10))) % 256)] from rfl) (Reps.none _ _))); intro v198 w2 ho3 hb hg_ hnew_; clear hg_ hnew_; (first | rw [← Ny197.out] at ho3 | (simp only [Int.reduceToNat] at ho3; rw [← Ny197.out] at ho3)); have n0_ := Aside0.mk (Kd.R_lower ho3 (below_size (by repeat (first | (with_reducible first | exact HB.out | apply below_alloc | apply pw_below_drewN | apply below_drew1) | exact HB.out)))); have n1_ := Aside0.mk (below_step (by repeat (first | (with_reducible first | exact HB.out | apply below_alloc | apply pw_below_drewN | apply below_drew1) | exact HB.out)) hb); clear HB; have HO199 := n0_; have HB := n1_; clear n0_ n1_; clear hb ho3; have hcv4 := own_string (P := Tryd.prog) Tryd.underlying72 Tryd.underlying5 Tryd.underlying9 (Kd.own_of_R HO199.out)))
  go_loopg [0, 3] k (fun kq v0 v3 w' => ∃ (x0_1 : Int) (x3_1 : ByteArray), v0 = .int .i64 x0_1 ∧ v3 = .string x3_1 ∧ Aside0 (gongref03_text.l0 kq x0_1 x3_1 = some r) ∧ Aside0 (kq ≤ k) ∧ Aside0 (Below w.heap.size w w'))
  case atStart => exact ⟨(a0), (strOfNums y197), (by first | rfl | (simp; done) | (simp [*]; done) | (simp [*]; exact isEmpty_bne _) | (simp; exact isEmpty_bne _)), (by first | rfl | (simp; done) | (simp [*]; done) | (simp [*]; exact isEmpty_bne _) | (simp; exact isEmpty_bne _)), H', ⟨Nat.le_refl _⟩, ⟨by repeat (first | (with_reducible first | exact HB.out | apply below_alloc | apply pw_below_drewN | apply below_drew1) | exact HB.out)⟩⟩
  case round =>
    clear H'
    try clear p2
    try clear hcv4
    obtain ⟨x0_1, x3_1, rfl, rfl, HA, HK1, HB⟩ := hrel
    cases gk with
    | zero => exact absurd HA.out (by simp [gongref03_text.l0])
    | succ k1 =>
      have H := HA.out
      clear HA
      simp only [gongref03_text.l0] at H
      by_cases c5 : x0_1 ≥ 10
      · rw [if_pos c5] at H
        have c5b0 : decide (10 ≤ x0_1) = true := decide_eq_true c5
        clear c5
        obtain ⟨y200, hy200⟩ : ∃ y_ : List Int, y_ = (([(wrap64 (48 + (Int.tmod (wrap64 (Int.tdiv x0_1 10)) 10))) % 256] : List Int)) := ⟨_, rfl⟩
        replace H : (if (strOfNums y200).size + x3_1.size ≤ 9223372036854775807 then (gongref03_text.l0 k1 (wrap64 (Int.tdiv x0_1 10)) ((strOfNums y200) ++ x3_1)) else (none)) = some r := by first | (rw [hy200]; with_reducible exact H) | (have H2_ := (Option.bind_some _ _).symm.trans H; rw [hy200]; with_reducible exact H2_) | (have H2_ := (Option.bind_some _ _).symm.trans H; with_reducible exact H2_) | with_reducible exact H | (rw [hy200]; exact H) | exact H
        have Ny200 := Aside0.mk hy200
        clear hy200
        by_cases c6 : (strOfNums y200).size + x3_1.size ≤ 9223372036854775807
        · rw [if_pos c6] at H
          have c6b0 := eq_true c6
          have c6b1 : decide ((strOfNums y200).size + x3_1.size ≤ 9223372036854775807) = true := decide_eq_true c6
          try have c6b2 : (9223372036854775807 < (strOfNums y200).size + x3_1.size) = False := eq_false (Nat.not_lt.2 c6)
          have H' := Aside0.mk H
          clear H
          go_wp2_with (first | ((with_reducible refine gate_dst (N := 18) rfl ?_); refine Kd.R_lit (Kd.int .u8) _ 5 ?hg (N := 18) ?hd (xs := ([(wrap64 (48 + (Int.tmod (wrap64 (Int.tdiv x0_1 10)) 10))) % 256] : List Int)) (inner := [.int .u8 ((wrap64 (48 + (Int.tmod (wrap64 (Int.tdiv x0_1 10)) 10))) % 256)]) (ok := fun _ => True) (okp := fun _ => True) ?hr ?hp (fun _ hk => hk) trivial (Below.refl _ _) (Nat.le_refl _) (by simp) ?_; (case hd => rfl); (case hg => rfl); (case hr => first | (go_simp; done) | (go_simp; rfl)); (case hp => exact (Reps.one (show Kd.M (Kd.int .u8) _ _ _ ((wrap64 (48 + (Int.tmod (wrap64 (Int.tdiv x0_1 10)) 10))) % 256) [.int .u8 ((wrap64 (48 + (Int.tmod (wrap64 (Int.tdiv x0_1 10)) 10))) % 256)] from rfl) (Reps.none _ _))); intro v201 w7 ho8 hb hg_ hnew_; clear hg_ hnew_; (first | rw [← Ny200.out] at ho8 | (simp only [Int.reduceToNat] at ho8; rw [← Ny200.out] at ho8)); have n0_ := Aside0.mk (Kd.R_lower ho8 (below_size (by repeat (first | (with_reducible first | exact HB.out | apply below_alloc | apply pw_below_drewN | apply below_drew1) | exact HB.out)))); have n1_ := Aside0.mk (below_step (by repeat (first | (with_reducible first | exact HB.out | apply below_alloc | apply pw_below_drewN | apply below_drew1) | exact HB.out)) hb); clear HB; have HO202 := n0_; have HB := n1_; clear n0_ n1_; clear hb ho8; have hcv9 := own_string (P := Tryd.prog) Tryd.underlying72 Tryd.underlying5 Tryd.underlying9 (Kd.own_of_R HO202.out)))
          go_roundg k1
          case measure => have := HK1.out; omega
          case rel => exact ⟨(wrap64 (Int.tdiv x0_1 10)), ((strOfNums y200) ++ x3_1), (by first | rfl | (simp; done) | (simp [*]; done) | (simp [*]; exact isEmpty_bne _) | (simp; exact isEmpty_bne _)), (by first | rfl | (simp; done) | (simp [*]; done) | (simp [*]; exact isEmpty_bne _) | (simp; exact isEmpty_bne _)), H', ⟨by have := HK1.out; omega⟩, ⟨by repeat (first | (with_reducible first | exact HB.out | apply below_alloc | apply pw_below_drewN | apply below_drew1) | exact HB.out)⟩⟩
        · rw [if_neg c6] at H
          exact absurd H (by simp)
      · rw [if_neg c5] at H
        have c5b0 : decide (10 ≤ x0_1) = false := decide_eq_false c5
        clear c5
        obtain rfl := Option.some.inj H
        go_wp2
        go_ret
        exact ⟨by first | rfl | (simp only [i64_w, i32_w]; rfl) | (simp [errW_none, errW_some] <;> rfl) | (simp [*, errW_none, errW_some] <;> rfl), by repeat (first | (with_reducible first | exact HB.out | apply below_alloc | apply pw_below_drewN | apply below_drew1) | exact HB.out)⟩

end Go.Proofs.YtjcenencgnfffaaDoor.XStW
