-- Laid by extprint.py (the session's own driver): functions told by the kit's printer and by hand.
import Derived.Test.YtjfimileopbadaaGreatDoorXVaAx0
import Derived.Test.YtjfimileopbadaaGreatDoorXVaAx4
import Derived.Test.YtjfimileopbadaaGreatDoorXVaAx5
namespace Go.Proofs.YtjfimileopbadaaGreatDoor.XVaA
open Go.RowKit Gong Go.Proofs.YtjfimileopbadaaGreatDoorW.PrintWords Go.Proofs.YtjfimileopbadaaGreatDoorW.PrintLast Go.Proofs.YtjfimileopbadaaGreatDoorW.PrintMore
attribute [local go_sem] max2_int min2_int max_two min_two max_three min_three max_four min_four   -- for this text's walks alone
set_option linter.unusedVariables false
set_option linter.unusedSimpArgs false

/-! ### utf_Shown: function 74 -/
def utf_Shown.go : Nat → ByteArray → List UInt8 → Option (List UInt8)
  | 0, _, _ => none
  | k + 1, s, acc => if acc.length ≤ 100000000 then (match s.data.toList with
    | [] => some acc
    | b :: _ => (utf_First.f k s).bind fun t => if t.2.2 ≠ 0 ∨ t.1 < 32 ∨ t.1 = 127 then utf_Shown.go k (s.extract 1 s.size) (acc ++ ([92, 120] ++ hexB b)) else
      if 0 ≤ t.2.1 ∧ t.2.1 ≤ (s.size : Int) ∧ t.2.1 ≤ 1000 then (if t.1 = 92 then utf_Shown.go k (s.extract t.2.1.toNat s.size) (acc ++ [92, 92]) else utf_Shown.go k (s.extract t.2.1.toNat s.size) (acc ++ (s.extract 0 t.2.1.toNat).data.toList)) else none) else none
def utf_Shown.f (k : Nat) (a0 : ByteArray) : Option ByteArray := (utf_Shown.go k a0 []).bind fun o => some ⟨o.toArray⟩
theorem utf_Shown.go_mono : ∀ k s acc, LeO (utf_Shown.go k s acc) (utf_Shown.go (k + 1) s acc)
  | 0, s, acc => fun r h => by simp [utf_Shown.go] at h
  | k + 1, s, acc => by
    rw [utf_Shown.go, utf_Shown.go]
    split
    · split
      · exact LeO.refl _
      · refine LeO.bind (utf_First.mono _ _) (fun t => ?_)
        split
        · exact utf_Shown.go_mono k _ _
        · split
          · split
            · exact utf_Shown.go_mono k _ _
            · exact utf_Shown.go_mono k _ _
          · exact LeO.refl _
    · exact LeO.refl _
theorem utf_Shown.mono : ∀ a0 k, LeO (utf_Shown.f k a0) (utf_Shown.f (k + 1) a0) := by
  intro a0 k
  unfold utf_Shown.f
  exact LeO.bind (utf_Shown.go_mono k _ _) (fun _ => LeO.refl _)
section
variable {P : Program} {ops : Array Oper} {Q : Exit → Act → World → Prop}
theorem val_ {oi : Oper} {N : Option Tmp} {a : Act} {w w1 : World} {K : Act → World → Prop} {v : Value} (hw : Region.wanted oi (yielded ops a.tmps) = true) (hN : oi.dst = N) (hrun : (execOp a.eval oi).run P w = .ok (.value v) w1)
    (h : K (a.put N v) w1) : if Region.wanted oi (yielded ops a.tmps) = true then Oper.wp P oi a w K Q else K (a.put N undef) w := by
  rw [if_pos hw]
  subst hN
  unfold Oper.wp
  rw [hrun, Oper.upon_value]
  exact h
end
theorem shown_room (acc : List UInt8) (x y : UInt8) (h : acc.length ≤ 100000000) : acc.length + ((⟨#[92, 120]⟩ : ByteArray) ++ (⟨#[x, y]⟩ : ByteArray)).size ≤ 140737488355328 := by rw [ByteArray.size_append, size_lit2, size_lit2]; omega
theorem shown_data (b : UInt8) : ((⟨#[92, 120]⟩ : ByteArray) ++ (⟨#[hexD (b.toNat / 16), hexD (b.toNat % 16)]⟩ : ByteArray)).data.toList = [92, 120] ++ hexB b := by simp [hexB]
theorem sh_u8b : (Tryz.prog.info? 5).map (fun i => (i.zero, i.size, i.bytes)) = some (some (.int .u8 0), 1, 1) := by kernel_rfl
theorem hex_fill (x y : Int) (ps : List (Nat × Value)) (h : ps = [(0, .int .u8 x), (1, .int .u8 y)]) : Instr.fill (fun i => some (i * 1, 1)) ((Array.range (2 * 1)).map ((Value.int .u8 0).cells[· % (Value.int .u8 0).cells.size]!)) ps = some #[.int .u8 x, .int .u8 y] := by
  subst h
  kernel_rfl
set_option maxHeartbeats 8000000 in
set_option maxRecDepth 100000 in
theorem utf_Shown.calls (k : Nat) (a0 : ByteArray) (r : ByteArray) (w : World) (h : utf_Shown.f k a0 = some r) :
    Calls Tryz.prog 74 #[.string a0] w fun e w' => e = .returned (.string r) ∧ Below w.heap.size w w' := by
  unfold utf_Shown.f at h
  obtain ⟨o, hgo, h⟩ := Option.bind_eq_some_iff.1 h
  obtain rfl := Option.some.inj h
  have HGO := Aside0.mk hgo
  clear h hgo
  obtain ⟨i0, hi, hz0, hz1, hz2⟩ := info_parts sh_u8b
  have HI := Aside0.mk hi
  have HZ0 := Aside0.mk hz0
  have HZ1 := Aside0.mk hz1
  clear hi hz0 hz1 hz2
  go_enter Tryz.func74, Tryz.ntmps74
  go_wp2
  obtain ⟨w1, hw1⟩ : ∃ w1, w1 = w.alloc (.cells #[.pointer none, .slice none 0 0] 75) := ⟨_, rfl⟩
  have HBL := Aside0.mk (show Bl w1 w.heap.size w.heap.size (.slice none 0 0) [] by rw [hw1]; exact Bl.new w w.heap.size (Nat.le_refl _))
  have HMV := Aside0.mk (show Mv (fun _ => False) w w1 by rw [hw1]; exact (Mv.refl _ w).alloc _)
  rw [← hw1]
  obtain ⟨b, hb⟩ : ∃ b, b = w.heap.size := ⟨_, rfl⟩
  rw [← hb] at HBL ⊢
  have HBB := Aside0.mk hb
  clear hw1 hb
  go_loopg [0] k (fun kq v0 W => ∃ (s : ByteArray) (bv : Value) (acc : List UInt8), v0 = .string s ∧ Aside0 (utf_Shown.go kq s acc = some o) ∧ Aside0 (Bl W b b bv acc) ∧ Aside0 (Mv (fun _ => False) w W))
  case atStart => exact ⟨a0, _, [], rfl, HGO, HBL, HMV⟩
  case round =>
    clear HGO HBL HMV
    obtain ⟨s, bv, acc, rfl, HGO, HBL, HMV⟩ := hrel
    cases gk with
    | zero => have := HGO.out; simp [utf_Shown.go] at this
    | succ m =>
    have hgo := HGO.out
    rw [utf_Shown.go] at hgo
    by_cases hac : acc.length ≤ 100000000
    case neg => rw [if_neg hac] at hgo; exact absurd hgo (by simp)
    rw [if_pos hac] at hgo
    have HACC := Aside0.mk hac
    clear HGO hac
    cases hsl : s.data.toList with
    | nil =>
      rw [hsl] at hgo
      simp only [Option.some.injEq] at hgo
      subst hgo
      have e1 : (s.toList != ([] : List UInt8)) = false := by rw [Go.ByteArray.toList_eq, hsl]; rfl
      have e2 : (s.toList = ([] : List UInt8)) = True := eq_true (by rw [Go.ByteArray.toList_eq, hsl])
      have e3 : s.toList.isEmpty = true := by rw [Go.ByteArray.toList_eq, hsl]; rfl
      clear hsl
      have AS := Aside0.mk HBL.out.string
      go_wp2_with fail
      refine AS.out.mono ?_
      rintro e w5 ⟨rfl, hm5⟩
      have HM5 := Aside0.mk (HMV.out.trans hm5 (fun i hi h => by have := (World.ownsRow.lt HBL.out.row i h).1; have := HBB.out; omega))
      clear hm5
      go_wp2
      go_ret
      exact ⟨rfl, HM5.out.below (Nat.le_refl _) (fun _ h => h.elim)⟩
    | cons b0 rest =>
      rw [hsl] at hgo
      simp only at hgo
      obtain ⟨⟨c, n, ec⟩, hF, hgo⟩ := Option.bind_eq_some_iff.1 hgo
      simp only at hgo
      have e1 : (s.toList != ([] : List UInt8)) = true := by rw [Go.ByteArray.toList_eq, hsl]; rfl
      have e2 : (s.toList = ([] : List UInt8)) = False := eq_false (by rw [Go.ByteArray.toList_eq, hsl]; simp)
      have e3 : s.toList.isEmpty = false := by rw [Go.ByteArray.toList_eq, hsl]; rfl
      have hs0 : 0 < s.size := by have : s.data.toList.length = s.size := by simp
                                  rw [hsl] at this; simp at this; omega
      have hx : ∀ h : 0 < s.size, s[0]'h = b0 := fun h => by
        have h2 : s.data.toList[0]? = some b0 := by rw [hsl]; rfl
        obtain ⟨h3, h4⟩ := List.getElem?_eq_some_iff.1 h2
        rw [← h4]
        simp [ByteArray.getElem_eq_getElem_data]
      have HF := Aside0.mk hF
      have HS0 := Aside0.mk hs0
      have HX := Aside0.mk hx
      clear hsl hF hs0 hx
      go_wp2_with fail
      refine (utf_First.calls m s c n ec wr HF.out).mono ?_
      rintro e w3 ⟨rfl, ⟨nd, rfl⟩⟩
      have HBL3 := Aside0.mk (HBL.out.mv ((Mv.refl (fun _ => False) wr).drewN nd) id (fun _ _ => id))
      have HM3 := Aside0.mk (HMV.out.drewN nd)
      obtain ⟨w3, hw3⟩ : ∃ w3, w3 = wr.drewN nd := ⟨_, rfl⟩
      rw [← hw3] at HBL3 HM3 ⊢
      clear hw3 HBL HMV HF
      by_cases hbad : ec ≠ 0 ∨ c < 32 ∨ c = 127
      · rw [if_pos hbad] at hgo
        have HGO := Aside0.mk hgo
        clear hgo
        have HK : ∀ q, q = s.extract 1 s.size → utf_Shown.go m q (acc ++ ([92, 120] ++ hexB b0)) = some o := fun q hq => by rw [hq]; exact HGO.out
        have HKK := Aside0.mk HK
        clear HK HGO
        have hx1 := HX.out
        have hs1 := eq_true HS0.out
        have hcl := b0.toNat_lt
        have h16 : (((b0.toNat : Int) / 16) < 16) = True := eq_true (by omega)
        have h16a : (0 ≤ ((b0.toNat : Int) / 16)) = True := eq_true (by omega)
        have h16m : (((b0.toNat : Int) % 16) < 16) = True := eq_true (by omega)
        have h16b : (0 ≤ ((b0.toNat : Int) % 16)) = True := eq_true (by omega)
        have hto := hex_to b0
        have hto2 := hex_to2 b0
        have hat := hex_at (b0.toNat / 16) (by omega)
        have hat2 := hex_at (b0.toNat % 16) (by omega)
        have han := hex_and b0
        have q1 := eq_true (show 1 ≤ s.size by have := HS0.out; omega)
        have q2 := eq_true (show (1 : Int) ≤ (s.size : Int) by have := HS0.out; omega)
        have q3 := eq_true (show 0 < s.size from HS0.out)
        rcases hbad with hbad | hbad
        · have d1 : (ec != 0) = true := bne_iff_ne.mpr hbad
          have d2 := eq_false hbad
          clear hbad
          go_upto_region 7 with (fail)
          refine start_ (n := 12) (S := fun _ => True) (ds := []) #[false, false, false, false, false, false, false, false, false, false, false, false] (by kernel_rfl) rfl rfl trivial (fun _ => ?_)
          obtain ⟨wd, hwd⟩ : ∃ wd, wd = w3.drew := ⟨_, rfl⟩
          have HBLd := Aside0.mk (show Bl wd b b bv acc by rw [hwd]; exact HBL3.out.mv (Mv.drew (Mv.refl (fun _ => False) w3)) id (fun _ _ => id))
          have HMd := Aside0.mk (show Mv (fun _ => False) w wd by rw [hwd]; exact HM3.out.drew)
          rw [← hwd]
          clear hwd HBL3 HM3
          refine pure_ (i := 0) (N := some 30) (v := ?_) (a' := ?_) #[true, false, false, false, false, false, false, false, false, false, false, false] rfl rfl (by kernel_rfl) (fun _ _ _ h => h) (Or.inl ⟨by rfl, ?_⟩) ?_ ?_
          rotate_left
          · intro w'
            go_simp
            with_reducible rfl
          rotate_left
          · simp only [Act.put, List.setIfInBounds_toArray, List.set_cons_zero, List.set_cons_succ, i64_w, i32_w]
            rfl
          refine pure_ (i := 1) (N := some 31) (v := ?_) (a' := ?_) #[true, true, false, false, false, false, false, false, false, false, false, false] rfl rfl (by kernel_rfl) (fun _ _ _ h => h) (Or.inl ⟨by rfl, ?_⟩) ?_ ?_
          rotate_left
          · intro w'
            go_simp
            with_reducible rfl
          rotate_left
          · simp only [Act.put, List.setIfInBounds_toArray, List.set_cons_zero, List.set_cons_succ, i64_w, i32_w]
            rfl
          refine pure_ (i := 2) (N := some 32) (v := ?_) (a' := ?_) #[true, true, true, false, false, false, false, false, false, false, false, false] rfl rfl (by kernel_rfl) (fun _ _ _ h => h) (Or.inl ⟨by rfl, ?_⟩) ?_ ?_
          rotate_left
          · intro w'
            go_simp
            with_reducible rfl
          rotate_left
          · simp only [Act.put, List.setIfInBounds_toArray, List.set_cons_zero, List.set_cons_succ, i64_w, i32_w]
            rfl
          refine pure_ (i := 3) (N := some 33) (v := ?_) (a' := ?_) #[true, true, true, true, false, false, false, false, false, false, false, false] rfl rfl (by kernel_rfl) (fun _ _ _ h => h) (Or.inl ⟨by rfl, ?_⟩) ?_ ?_
          rotate_left
          · intro w'
            go_simp
            with_reducible rfl
          rotate_left
          · simp only [Act.put, List.setIfInBounds_toArray, List.set_cons_zero, List.set_cons_succ, i64_w, i32_w]
            rfl
          refine pure_ (i := 4) (N := some 34) (v := ?_) (a' := ?_) #[true, true, true, true, true, false, false, false, false, false, false, false] rfl rfl (by kernel_rfl) (fun _ _ _ h => h) (Or.inl ⟨by rfl, ?_⟩) ?_ ?_
          rotate_left
          · intro w'
            go_simp
            with_reducible rfl
          rotate_left
          · simp only [Act.put, List.setIfInBounds_toArray, List.set_cons_zero, List.set_cons_succ, i64_w, i32_w]
            rfl
          refine pure_ (i := 5) (N := some 35) (v := ?_) (a' := ?_) #[true, true, true, true, true, true, false, false, false, false, false, false] rfl rfl (by kernel_rfl) (fun _ _ _ h => h) (Or.inl ⟨by rfl, ?_⟩) ?_ ?_
          rotate_left
          · intro w'
            go_simp
            with_reducible rfl
          rotate_left
          · simp only [Act.put, List.setIfInBounds_toArray, List.set_cons_zero, List.set_cons_succ, i64_w, i32_w]
            rfl
          refine pure_ (i := 6) (N := some 36) (v := ?_) (a' := ?_) #[true, true, true, true, true, true, true, false, false, false, false, false] rfl rfl (by kernel_rfl) (fun _ _ _ h => h) (Or.inl ⟨by rfl, ?_⟩) ?_ ?_
          rotate_left
          · intro w'
            go_simp
            with_reducible rfl
          rotate_left
          · simp only [Act.put, List.setIfInBounds_toArray, List.set_cons_zero, List.set_cons_succ, i64_w, i32_w]
            rfl
          refine pure_ (i := 7) (N := some 37) (v := ?_) (a' := ?_) #[true, true, true, true, true, true, true, true, false, false, false, false] rfl rfl (by kernel_rfl) (fun _ _ _ h => h) (Or.inl ⟨by rfl, ?_⟩) ?_ ?_
          rotate_left
          · intro w'
            go_simp
            with_reducible rfl
          rotate_left
          · simp only [Act.put, List.setIfInBounds_toArray, List.set_cons_zero, List.set_cons_succ, i64_w, i32_w]
            rfl
          refine one_ (i := 8) (N := some 38) #[true, true, true, true, true, true, true, true, true, false, false, false] rfl rfl (by kernel_rfl) (by decide) (fun K hK => ?_)
          rw [if_pos (by rfl)]
          refine wp_buildSlice 73 5 2 #[(0, .tmp 33), (1, .tmp 37)] rfl #[.int .u8 (hexD (b0.toNat / 16)).toNat, .int .u8 (hexD (b0.toNat % 16)).toNat] i0 (.int .u8 0) Tryz.underlying73 HI.out HZ0.out (by rw [HZ1.out]; decide) (by rw [HZ1.out]; decide) (by rw [HZ1.out]; exact hex_fill _ _ _ (by simp only [List.map_toArray, List.map_cons, List.map_nil]; rfl)) ?_
          obtain ⟨wb, hwb⟩ : ∃ wb, wb = wd.alloc (.cells #[.int .u8 (hexD (b0.toNat / 16)).toNat, .int .u8 (hexD (b0.toNat % 16)).toNat] 5) := ⟨_, rfl⟩
          have HBLb := Aside0.mk (show Bl wb b b bv acc by rw [hwb]; exact HBLd.out.mv ((Mv.refl (fun _ => False) wd).alloc _) id (fun _ _ => id))
          have HMb := Aside0.mk (show Mv (fun _ => False) w wb by rw [hwb]; exact HMd.out.alloc _)
          have hcv : (convert 73 9 (.slice (some ⟨wd.heap.size, 0, none⟩) 2 2)).run Tryz.prog wb = .ok (.string ⟨#[hexD (b0.toNat / 16), hexD (b0.toNat % 16)]⟩) wb := by
            refine run_convert_bytes_back (P := Tryz.prog) wb 73 9 5 ⟨wd.heap.size, 0, none⟩ 2 [hexD (b0.toNat / 16), hexD (b0.toNat % 16)] Tryz.underlying73 Tryz.underlying5 Tryz.underlying9 (fun j hj => ?_)
            rw [Lib.add_plain, hwb, Nat.zero_add, cell_of_row _ _ _ _ _ _ (heap_alloc_new wd _)]
            match j, hj with
            | 0, _ => rfl
            | 1, _ => rfl
          rw [← hwb]
          generalize wd.heap.size = gb at hcv ⊢
          clear hwb HBLd HMd
          refine hK.out _ _ trivial (fun _ => ?_)
          clear hK K
          refine norm_ (a' := ?_) ?_ ?_
          rotate_left
          · show Act.put _ (some 38) _ = _
            simp only [Act.put, List.setIfInBounds_toArray, List.set_cons_zero, List.set_cons_succ, i64_w, i32_w]
            rfl
          refine one_ (i := 9) (N := some 39) #[true, true, true, true, true, true, true, true, true, true, false, false] rfl rfl (by kernel_rfl) (by decide) (fun K hK => ?_)
          refine val_ (v := .string ⟨#[hexD (b0.toNat / 16), hexD (b0.toNat % 16)]⟩) (w1 := wb) (by rfl) rfl ?_ ?_
          · go_simp
          refine hK.out _ _ trivial (fun _ => ?_)
          clear hK K hcv
          refine norm_ (a' := ?_) ?_ ?_
          rotate_left
          · show Act.put _ (some 39) _ = _
            simp only [Act.put, List.setIfInBounds_toArray, List.set_cons_zero, List.set_cons_succ, i64_w, i32_w]
            rfl
          refine pure_ (i := 10) (N := some 40) (v := ?_) (a' := ?_) #[true, true, true, true, true, true, true, true, true, true, true, false] rfl rfl (by kernel_rfl) (fun _ _ _ h => h) (Or.inl ⟨by rfl, ?_⟩) ?_ ?_
          rotate_left
          · intro w'
            go_simp
            with_reducible rfl
          rotate_left
          · simp only [Act.put, List.setIfInBounds_toArray, List.set_cons_zero, List.set_cons_succ, i64_w, i32_w]
            rfl
          refine one_ (i := 11) (N := some 41) #[true, true, true, true, true, true, true, true, true, true, true, true] rfl rfl (by kernel_rfl) (by decide) (fun K hK => ?_)
          refine goes_ Tryz.func41 (by kernel_rfl) rfl #[.pointer (some ⟨b, 0, none⟩), .string ((⟨#[92, 120]⟩ : ByteArray) ++ (⟨#[hexD (b0.toNat / 16), hexD (b0.toNat % 16)]⟩ : ByteArray))] (by rfl) rfl rfl (by (try simp only [List.map_toArray, List.map_cons, List.map_nil]); first | done | rfl) ?_
          have HSX := Aside0.mk (shown_room acc (hexD (b0.toNat / 16)) (hexD (b0.toNat % 16)) HACC.out)
          have HSD := Aside0.mk (shown_data b0)
          generalize ((⟨#[92, 120]⟩ : ByteArray) ++ (⟨#[hexD (b0.toNat / 16), hexD (b0.toNat % 16)]⟩ : ByteArray)) = sx at HSX HSD ⊢
          refine (HBLb.out.write sx HSX.out).mono ?_
          rintro e w5 ⟨rfl, v5, hbl5, ho5, hm5⟩
          refine ⟨_, rfl, ?_⟩
          have HBL5 := Aside0.mk (show Bl w5 b b v5 (acc ++ ([92, 120] ++ hexB b0)) by
            rw [HSD.out] at hbl5; exact hbl5)
          have HM5 := Aside0.mk (HMb.out.trans hm5 (fun i hi h => by
            rcases h with h | h
            · have := HBB.out; omega
            · have := (World.ownsRow.lt HBLb.out.row i h).1; have := HBB.out; omega))
          clear hbl5 ho5 hm5 HBLb HMb
          refine hK.out _ _ trivial (fun _ => ?_)
          clear hK K
          refine norm_ (a' := ?_) ?_ ?_
          rotate_left
          · show Act.put _ (some 41) _ = _
            simp only [Act.put, List.setIfInBounds_toArray, List.set_cons_zero, List.set_cons_succ, i64_w, i32_w]
            rfl
          refine done_ (by kernel_rfl) ?_
          go_wp2
          go_roundg m
          case measure => omega
          case rel => exact ⟨_, v5, _, rfl, ⟨HKK.out _ rfl⟩, HBL5, HM5⟩
        · by_cases hec : ec = 0
          · have d1 : (ec != 0) = false := bne_eq_false_iff_eq.mpr hec
            clear hec
            rcases hbad with hbad | hbad
            · have d2 : decide (c < 32) = true := decide_eq_true hbad
              have d3 := eq_true hbad
              clear hbad
              go_upto_region 7 with (fail)
              refine start_ (n := 12) (S := fun _ => True) (ds := []) #[false, false, false, false, false, false, false, false, false, false, false, false] (by kernel_rfl) rfl rfl trivial (fun _ => ?_)
              obtain ⟨wd, hwd⟩ : ∃ wd, wd = w3.drew := ⟨_, rfl⟩
              have HBLd := Aside0.mk (show Bl wd b b bv acc by rw [hwd]; exact HBL3.out.mv (Mv.drew (Mv.refl (fun _ => False) w3)) id (fun _ _ => id))
              have HMd := Aside0.mk (show Mv (fun _ => False) w wd by rw [hwd]; exact HM3.out.drew)
              rw [← hwd]
              clear hwd HBL3 HM3
              refine pure_ (i := 0) (N := some 30) (v := ?_) (a' := ?_) #[true, false, false, false, false, false, false, false, false, false, false, false] rfl rfl (by kernel_rfl) (fun _ _ _ h => h) (Or.inl ⟨by rfl, ?_⟩) ?_ ?_
              rotate_left
              · intro w'
                go_simp
                with_reducible rfl
              rotate_left
              · simp only [Act.put, List.setIfInBounds_toArray, List.set_cons_zero, List.set_cons_succ, i64_w, i32_w]
                rfl
              refine pure_ (i := 1) (N := some 31) (v := ?_) (a' := ?_) #[true, true, false, false, false, false, false, false, false, false, false, false] rfl rfl (by kernel_rfl) (fun _ _ _ h => h) (Or.inl ⟨by rfl, ?_⟩) ?_ ?_
              rotate_left
              · intro w'
                go_simp
                with_reducible rfl
              rotate_left
              · simp only [Act.put, List.setIfInBounds_toArray, List.set_cons_zero, List.set_cons_succ, i64_w, i32_w]
                rfl
              refine pure_ (i := 2) (N := some 32) (v := ?_) (a' := ?_) #[true, true, true, false, false, false, false, false, false, false, false, false] rfl rfl (by kernel_rfl) (fun _ _ _ h => h) (Or.inl ⟨by rfl, ?_⟩) ?_ ?_
              rotate_left
              · intro w'
                go_simp
                with_reducible rfl
              rotate_left
              · simp only [Act.put, List.setIfInBounds_toArray, List.set_cons_zero, List.set_cons_succ, i64_w, i32_w]
                rfl
              refine pure_ (i := 3) (N := some 33) (v := ?_) (a' := ?_) #[true, true, true, true, false, false, false, false, false, false, false, false] rfl rfl (by kernel_rfl) (fun _ _ _ h => h) (Or.inl ⟨by rfl, ?_⟩) ?_ ?_
              rotate_left
              · intro w'
                go_simp
                with_reducible rfl
              rotate_left
              · simp only [Act.put, List.setIfInBounds_toArray, List.set_cons_zero, List.set_cons_succ, i64_w, i32_w]
                rfl
              refine pure_ (i := 4) (N := some 34) (v := ?_) (a' := ?_) #[true, true, true, true, true, false, false, false, false, false, false, false] rfl rfl (by kernel_rfl) (fun _ _ _ h => h) (Or.inl ⟨by rfl, ?_⟩) ?_ ?_
              rotate_left
              · intro w'
                go_simp
                with_reducible rfl
              rotate_left
              · simp only [Act.put, List.setIfInBounds_toArray, List.set_cons_zero, List.set_cons_succ, i64_w, i32_w]
                rfl
              refine pure_ (i := 5) (N := some 35) (v := ?_) (a' := ?_) #[true, true, true, true, true, true, false, false, false, false, false, false] rfl rfl (by kernel_rfl) (fun _ _ _ h => h) (Or.inl ⟨by rfl, ?_⟩) ?_ ?_
              rotate_left
              · intro w'
                go_simp
                with_reducible rfl
              rotate_left
              · simp only [Act.put, List.setIfInBounds_toArray, List.set_cons_zero, List.set_cons_succ, i64_w, i32_w]
                rfl
              refine pure_ (i := 6) (N := some 36) (v := ?_) (a' := ?_) #[true, true, true, true, true, true, true, false, false, false, false, false] rfl rfl (by kernel_rfl) (fun _ _ _ h => h) (Or.inl ⟨by rfl, ?_⟩) ?_ ?_
              rotate_left
              · intro w'
                go_simp
                with_reducible rfl
              rotate_left
              · simp only [Act.put, List.setIfInBounds_toArray, List.set_cons_zero, List.set_cons_succ, i64_w, i32_w]
                rfl
              refine pure_ (i := 7) (N := some 37) (v := ?_) (a' := ?_) #[true, true, true, true, true, true, true, true, false, false, false, false] rfl rfl (by kernel_rfl) (fun _ _ _ h => h) (Or.inl ⟨by rfl, ?_⟩) ?_ ?_
              rotate_left
              · intro w'
                go_simp
                with_reducible rfl
              rotate_left
              · simp only [Act.put, List.setIfInBounds_toArray, List.set_cons_zero, List.set_cons_succ, i64_w, i32_w]
                rfl
              refine one_ (i := 8) (N := some 38) #[true, true, true, true, true, true, true, true, true, false, false, false] rfl rfl (by kernel_rfl) (by decide) (fun K hK => ?_)
              rw [if_pos (by rfl)]
              refine wp_buildSlice 73 5 2 #[(0, .tmp 33), (1, .tmp 37)] rfl #[.int .u8 (hexD (b0.toNat / 16)).toNat, .int .u8 (hexD (b0.toNat % 16)).toNat] i0 (.int .u8 0) Tryz.underlying73 HI.out HZ0.out (by rw [HZ1.out]; decide) (by rw [HZ1.out]; decide) (by rw [HZ1.out]; exact hex_fill _ _ _ (by simp only [List.map_toArray, List.map_cons, List.map_nil]; rfl)) ?_
              obtain ⟨wb, hwb⟩ : ∃ wb, wb = wd.alloc (.cells #[.int .u8 (hexD (b0.toNat / 16)).toNat, .int .u8 (hexD (b0.toNat % 16)).toNat] 5) := ⟨_, rfl⟩
              have HBLb := Aside0.mk (show Bl wb b b bv acc by rw [hwb]; exact HBLd.out.mv ((Mv.refl (fun _ => False) wd).alloc _) id (fun _ _ => id))
              have HMb := Aside0.mk (show Mv (fun _ => False) w wb by rw [hwb]; exact HMd.out.alloc _)
              have hcv : (convert 73 9 (.slice (some ⟨wd.heap.size, 0, none⟩) 2 2)).run Tryz.prog wb = .ok (.string ⟨#[hexD (b0.toNat / 16), hexD (b0.toNat % 16)]⟩) wb := by
                refine run_convert_bytes_back (P := Tryz.prog) wb 73 9 5 ⟨wd.heap.size, 0, none⟩ 2 [hexD (b0.toNat / 16), hexD (b0.toNat % 16)] Tryz.underlying73 Tryz.underlying5 Tryz.underlying9 (fun j hj => ?_)
                rw [Lib.add_plain, hwb, Nat.zero_add, cell_of_row _ _ _ _ _ _ (heap_alloc_new wd _)]
                match j, hj with
                | 0, _ => rfl
                | 1, _ => rfl
              rw [← hwb]
              generalize wd.heap.size = gb at hcv ⊢
              clear hwb HBLd HMd
              refine hK.out _ _ trivial (fun _ => ?_)
              clear hK K
              refine norm_ (a' := ?_) ?_ ?_
              rotate_left
              · show Act.put _ (some 38) _ = _
                simp only [Act.put, List.setIfInBounds_toArray, List.set_cons_zero, List.set_cons_succ, i64_w, i32_w]
                rfl
              refine one_ (i := 9) (N := some 39) #[true, true, true, true, true, true, true, true, true, true, false, false] rfl rfl (by kernel_rfl) (by decide) (fun K hK => ?_)
              refine val_ (v := .string ⟨#[hexD (b0.toNat / 16), hexD (b0.toNat % 16)]⟩) (w1 := wb) (by rfl) rfl ?_ ?_
              · go_simp
              refine hK.out _ _ trivial (fun _ => ?_)
              clear hK K hcv
              refine norm_ (a' := ?_) ?_ ?_
              rotate_left
              · show Act.put _ (some 39) _ = _
                simp only [Act.put, List.setIfInBounds_toArray, List.set_cons_zero, List.set_cons_succ, i64_w, i32_w]
                rfl
              refine pure_ (i := 10) (N := some 40) (v := ?_) (a' := ?_) #[true, true, true, true, true, true, true, true, true, true, true, false] rfl rfl (by kernel_rfl) (fun _ _ _ h => h) (Or.inl ⟨by rfl, ?_⟩) ?_ ?_
              rotate_left
              · intro w'
                go_simp
                with_reducible rfl
              rotate_left
              · simp only [Act.put, List.setIfInBounds_toArray, List.set_cons_zero, List.set_cons_succ, i64_w, i32_w]
                rfl
              refine one_ (i := 11) (N := some 41) #[true, true, true, true, true, true, true, true, true, true, true, true] rfl rfl (by kernel_rfl) (by decide) (fun K hK => ?_)
              refine goes_ Tryz.func41 (by kernel_rfl) rfl #[.pointer (some ⟨b, 0, none⟩), .string ((⟨#[92, 120]⟩ : ByteArray) ++ (⟨#[hexD (b0.toNat / 16), hexD (b0.toNat % 16)]⟩ : ByteArray))] (by rfl) rfl rfl (by (try simp only [List.map_toArray, List.map_cons, List.map_nil]); first | done | rfl) ?_
              have HSX := Aside0.mk (shown_room acc (hexD (b0.toNat / 16)) (hexD (b0.toNat % 16)) HACC.out)
              have HSD := Aside0.mk (shown_data b0)
              generalize ((⟨#[92, 120]⟩ : ByteArray) ++ (⟨#[hexD (b0.toNat / 16), hexD (b0.toNat % 16)]⟩ : ByteArray)) = sx at HSX HSD ⊢
              refine (HBLb.out.write sx HSX.out).mono ?_
              rintro e w5 ⟨rfl, v5, hbl5, ho5, hm5⟩
              refine ⟨_, rfl, ?_⟩
              have HBL5 := Aside0.mk (show Bl w5 b b v5 (acc ++ ([92, 120] ++ hexB b0)) by
                rw [HSD.out] at hbl5; exact hbl5)
              have HM5 := Aside0.mk (HMb.out.trans hm5 (fun i hi h => by
                rcases h with h | h
                · have := HBB.out; omega
                · have := (World.ownsRow.lt HBLb.out.row i h).1; have := HBB.out; omega))
              clear hbl5 ho5 hm5 HBLb HMb
              refine hK.out _ _ trivial (fun _ => ?_)
              clear hK K
              refine norm_ (a' := ?_) ?_ ?_
              rotate_left
              · show Act.put _ (some 41) _ = _
                simp only [Act.put, List.setIfInBounds_toArray, List.set_cons_zero, List.set_cons_succ, i64_w, i32_w]
                rfl
              refine done_ (by kernel_rfl) ?_
              go_wp2
              go_roundg m
              case measure => omega
              case rel => exact ⟨_, v5, _, rfl, ⟨HKK.out _ rfl⟩, HBL5, HM5⟩
            · subst hbad
              go_upto_region 7 with (fail)
              refine start_ (n := 12) (S := fun _ => True) (ds := []) #[false, false, false, false, false, false, false, false, false, false, false, false] (by kernel_rfl) rfl rfl trivial (fun _ => ?_)
              obtain ⟨wd, hwd⟩ : ∃ wd, wd = w3.drew := ⟨_, rfl⟩
              have HBLd := Aside0.mk (show Bl wd b b bv acc by rw [hwd]; exact HBL3.out.mv (Mv.drew (Mv.refl (fun _ => False) w3)) id (fun _ _ => id))
              have HMd := Aside0.mk (show Mv (fun _ => False) w wd by rw [hwd]; exact HM3.out.drew)
              rw [← hwd]
              clear hwd HBL3 HM3
              refine pure_ (i := 0) (N := some 30) (v := ?_) (a' := ?_) #[true, false, false, false, false, false, false, false, false, false, false, false] rfl rfl (by kernel_rfl) (fun _ _ _ h => h) (Or.inl ⟨by rfl, ?_⟩) ?_ ?_
              rotate_left
              · intro w'
                go_simp
                with_reducible rfl
              rotate_left
              · simp only [Act.put, List.setIfInBounds_toArray, List.set_cons_zero, List.set_cons_succ, i64_w, i32_w]
                rfl
              refine pure_ (i := 1) (N := some 31) (v := ?_) (a' := ?_) #[true, true, false, false, false, false, false, false, false, false, false, false] rfl rfl (by kernel_rfl) (fun _ _ _ h => h) (Or.inl ⟨by rfl, ?_⟩) ?_ ?_
              rotate_left
              · intro w'
                go_simp
                with_reducible rfl
              rotate_left
              · simp only [Act.put, List.setIfInBounds_toArray, List.set_cons_zero, List.set_cons_succ, i64_w, i32_w]
                rfl
              refine pure_ (i := 2) (N := some 32) (v := ?_) (a' := ?_) #[true, true, true, false, false, false, false, false, false, false, false, false] rfl rfl (by kernel_rfl) (fun _ _ _ h => h) (Or.inl ⟨by rfl, ?_⟩) ?_ ?_
              rotate_left
              · intro w'
                go_simp
                with_reducible rfl
              rotate_left
              · simp only [Act.put, List.setIfInBounds_toArray, List.set_cons_zero, List.set_cons_succ, i64_w, i32_w]
                rfl
              refine pure_ (i := 3) (N := some 33) (v := ?_) (a' := ?_) #[true, true, true, true, false, false, false, false, false, false, false, false] rfl rfl (by kernel_rfl) (fun _ _ _ h => h) (Or.inl ⟨by rfl, ?_⟩) ?_ ?_
              rotate_left
              · intro w'
                go_simp
                with_reducible rfl
              rotate_left
              · simp only [Act.put, List.setIfInBounds_toArray, List.set_cons_zero, List.set_cons_succ, i64_w, i32_w]
                rfl
              refine pure_ (i := 4) (N := some 34) (v := ?_) (a' := ?_) #[true, true, true, true, true, false, false, false, false, false, false, false] rfl rfl (by kernel_rfl) (fun _ _ _ h => h) (Or.inl ⟨by rfl, ?_⟩) ?_ ?_
              rotate_left
              · intro w'
                go_simp
                with_reducible rfl
              rotate_left
              · simp only [Act.put, List.setIfInBounds_toArray, List.set_cons_zero, List.set_cons_succ, i64_w, i32_w]
                rfl
              refine pure_ (i := 5) (N := some 35) (v := ?_) (a' := ?_) #[true, true, true, true, true, true, false, false, false, false, false, false] rfl rfl (by kernel_rfl) (fun _ _ _ h => h) (Or.inl ⟨by rfl, ?_⟩) ?_ ?_
              rotate_left
              · intro w'
                go_simp
                with_reducible rfl
              rotate_left
              · simp only [Act.put, List.setIfInBounds_toArray, List.set_cons_zero, List.set_cons_succ, i64_w, i32_w]
                rfl
              refine pure_ (i := 6) (N := some 36) (v := ?_) (a' := ?_) #[true, true, true, true, true, true, true, false, false, false, false, false] rfl rfl (by kernel_rfl) (fun _ _ _ h => h) (Or.inl ⟨by rfl, ?_⟩) ?_ ?_
              rotate_left
              · intro w'
                go_simp
                with_reducible rfl
              rotate_left
              · simp only [Act.put, List.setIfInBounds_toArray, List.set_cons_zero, List.set_cons_succ, i64_w, i32_w]
                rfl
              refine pure_ (i := 7) (N := some 37) (v := ?_) (a' := ?_) #[true, true, true, true, true, true, true, true, false, false, false, false] rfl rfl (by kernel_rfl) (fun _ _ _ h => h) (Or.inl ⟨by rfl, ?_⟩) ?_ ?_
              rotate_left
              · intro w'
                go_simp
                with_reducible rfl
              rotate_left
              · simp only [Act.put, List.setIfInBounds_toArray, List.set_cons_zero, List.set_cons_succ, i64_w, i32_w]
                rfl
              refine one_ (i := 8) (N := some 38) #[true, true, true, true, true, true, true, true, true, false, false, false] rfl rfl (by kernel_rfl) (by decide) (fun K hK => ?_)
              rw [if_pos (by rfl)]
              refine wp_buildSlice 73 5 2 #[(0, .tmp 33), (1, .tmp 37)] rfl #[.int .u8 (hexD (b0.toNat / 16)).toNat, .int .u8 (hexD (b0.toNat % 16)).toNat] i0 (.int .u8 0) Tryz.underlying73 HI.out HZ0.out (by rw [HZ1.out]; decide) (by rw [HZ1.out]; decide) (by rw [HZ1.out]; exact hex_fill _ _ _ (by simp only [List.map_toArray, List.map_cons, List.map_nil]; rfl)) ?_
              obtain ⟨wb, hwb⟩ : ∃ wb, wb = wd.alloc (.cells #[.int .u8 (hexD (b0.toNat / 16)).toNat, .int .u8 (hexD (b0.toNat % 16)).toNat] 5) := ⟨_, rfl⟩
              have HBLb := Aside0.mk (show Bl wb b b bv acc by rw [hwb]; exact HBLd.out.mv ((Mv.refl (fun _ => False) wd).alloc _) id (fun _ _ => id))
              have HMb := Aside0.mk (show Mv (fun _ => False) w wb by rw [hwb]; exact HMd.out.alloc _)
              have hcv : (convert 73 9 (.slice (some ⟨wd.heap.size, 0, none⟩) 2 2)).run Tryz.prog wb = .ok (.string ⟨#[hexD (b0.toNat / 16), hexD (b0.toNat % 16)]⟩) wb := by
                refine run_convert_bytes_back (P := Tryz.prog) wb 73 9 5 ⟨wd.heap.size, 0, none⟩ 2 [hexD (b0.toNat / 16), hexD (b0.toNat % 16)] Tryz.underlying73 Tryz.underlying5 Tryz.underlying9 (fun j hj => ?_)
                rw [Lib.add_plain, hwb, Nat.zero_add, cell_of_row _ _ _ _ _ _ (heap_alloc_new wd _)]
                match j, hj with
                | 0, _ => rfl
                | 1, _ => rfl
              rw [← hwb]
              generalize wd.heap.size = gb at hcv ⊢
              clear hwb HBLd HMd
              refine hK.out _ _ trivial (fun _ => ?_)
              clear hK K
              refine norm_ (a' := ?_) ?_ ?_
              rotate_left
              · show Act.put _ (some 38) _ = _
                simp only [Act.put, List.setIfInBounds_toArray, List.set_cons_zero, List.set_cons_succ, i64_w, i32_w]
                rfl
              refine one_ (i := 9) (N := some 39) #[true, true, true, true, true, true, true, true, true, true, false, false] rfl rfl (by kernel_rfl) (by decide) (fun K hK => ?_)
              refine val_ (v := .string ⟨#[hexD (b0.toNat / 16), hexD (b0.toNat % 16)]⟩) (w1 := wb) (by rfl) rfl ?_ ?_
              · go_simp
              refine hK.out _ _ trivial (fun _ => ?_)
              clear hK K hcv
              refine norm_ (a' := ?_) ?_ ?_
              rotate_left
              · show Act.put _ (some 39) _ = _
                simp only [Act.put, List.setIfInBounds_toArray, List.set_cons_zero, List.set_cons_succ, i64_w, i32_w]
                rfl
              refine pure_ (i := 10) (N := some 40) (v := ?_) (a' := ?_) #[true, true, true, true, true, true, true, true, true, true, true, false] rfl rfl (by kernel_rfl) (fun _ _ _ h => h) (Or.inl ⟨by rfl, ?_⟩) ?_ ?_
              rotate_left
              · intro w'
                go_simp
                with_reducible rfl
              rotate_left
              · simp only [Act.put, List.setIfInBounds_toArray, List.set_cons_zero, List.set_cons_succ, i64_w, i32_w]
                rfl
              refine one_ (i := 11) (N := some 41) #[true, true, true, true, true, true, true, true, true, true, true, true] rfl rfl (by kernel_rfl) (by decide) (fun K hK => ?_)
              refine goes_ Tryz.func41 (by kernel_rfl) rfl #[.pointer (some ⟨b, 0, none⟩), .string ((⟨#[92, 120]⟩ : ByteArray) ++ (⟨#[hexD (b0.toNat / 16), hexD (b0.toNat % 16)]⟩ : ByteArray))] (by rfl) rfl rfl (by (try simp only [List.map_toArray, List.map_cons, List.map_nil]); first | done | rfl) ?_
              have HSX := Aside0.mk (shown_room acc (hexD (b0.toNat / 16)) (hexD (b0.toNat % 16)) HACC.out)
              have HSD := Aside0.mk (shown_data b0)
              generalize ((⟨#[92, 120]⟩ : ByteArray) ++ (⟨#[hexD (b0.toNat / 16), hexD (b0.toNat % 16)]⟩ : ByteArray)) = sx at HSX HSD ⊢
              refine (HBLb.out.write sx HSX.out).mono ?_
              rintro e w5 ⟨rfl, v5, hbl5, ho5, hm5⟩
              refine ⟨_, rfl, ?_⟩
              have HBL5 := Aside0.mk (show Bl w5 b b v5 (acc ++ ([92, 120] ++ hexB b0)) by
                rw [HSD.out] at hbl5; exact hbl5)
              have HM5 := Aside0.mk (HMb.out.trans hm5 (fun i hi h => by
                rcases h with h | h
                · have := HBB.out; omega
                · have := (World.ownsRow.lt HBLb.out.row i h).1; have := HBB.out; omega))
              clear hbl5 ho5 hm5 HBLb HMb
              refine hK.out _ _ trivial (fun _ => ?_)
              clear hK K
              refine norm_ (a' := ?_) ?_ ?_
              rotate_left
              · show Act.put _ (some 41) _ = _
                simp only [Act.put, List.setIfInBounds_toArray, List.set_cons_zero, List.set_cons_succ, i64_w, i32_w]
                rfl
              refine done_ (by kernel_rfl) ?_
              go_wp2
              go_roundg m
              case measure => omega
              case rel => exact ⟨_, v5, _, rfl, ⟨HKK.out _ rfl⟩, HBL5, HM5⟩
          · have d1 : (ec != 0) = true := bne_iff_ne.mpr hec
            have d2 := eq_false hec
            clear hec
            go_upto_region 7 with (fail)
            refine start_ (n := 12) (S := fun _ => True) (ds := []) #[false, false, false, false, false, false, false, false, false, false, false, false] (by kernel_rfl) rfl rfl trivial (fun _ => ?_)
            obtain ⟨wd, hwd⟩ : ∃ wd, wd = w3.drew := ⟨_, rfl⟩
            have HBLd := Aside0.mk (show Bl wd b b bv acc by rw [hwd]; exact HBL3.out.mv (Mv.drew (Mv.refl (fun _ => False) w3)) id (fun _ _ => id))
            have HMd := Aside0.mk (show Mv (fun _ => False) w wd by rw [hwd]; exact HM3.out.drew)
            rw [← hwd]
            clear hwd HBL3 HM3
            refine pure_ (i := 0) (N := some 30) (v := ?_) (a' := ?_) #[true, false, false, false, false, false, false, false, false, false, false, false] rfl rfl (by kernel_rfl) (fun _ _ _ h => h) (Or.inl ⟨by rfl, ?_⟩) ?_ ?_
            rotate_left
            · intro w'
              go_simp
              with_reducible rfl
            rotate_left
            · simp only [Act.put, List.setIfInBounds_toArray, List.set_cons_zero, List.set_cons_succ, i64_w, i32_w]
              rfl
            refine pure_ (i := 1) (N := some 31) (v := ?_) (a' := ?_) #[true, true, false, false, false, false, false, false, false, false, false, false] rfl rfl (by kernel_rfl) (fun _ _ _ h => h) (Or.inl ⟨by rfl, ?_⟩) ?_ ?_
            rotate_left
            · intro w'
              go_simp
              with_reducible rfl
            rotate_left
            · simp only [Act.put, List.setIfInBounds_toArray, List.set_cons_zero, List.set_cons_succ, i64_w, i32_w]
              rfl
            refine pure_ (i := 2) (N := some 32) (v := ?_) (a' := ?_) #[true, true, true, false, false, false, false, false, false, false, false, false] rfl rfl (by kernel_rfl) (fun _ _ _ h => h) (Or.inl ⟨by rfl, ?_⟩) ?_ ?_
            rotate_left
            · intro w'
              go_simp
              with_reducible rfl
            rotate_left
            · simp only [Act.put, List.setIfInBounds_toArray, List.set_cons_zero, List.set_cons_succ, i64_w, i32_w]
              rfl
            refine pure_ (i := 3) (N := some 33) (v := ?_) (a' := ?_) #[true, true, true, true, false, false, false, false, false, false, false, false] rfl rfl (by kernel_rfl) (fun _ _ _ h => h) (Or.inl ⟨by rfl, ?_⟩) ?_ ?_
            rotate_left
            · intro w'
              go_simp
              with_reducible rfl
            rotate_left
            · simp only [Act.put, List.setIfInBounds_toArray, List.set_cons_zero, List.set_cons_succ, i64_w, i32_w]
              rfl
            refine pure_ (i := 4) (N := some 34) (v := ?_) (a' := ?_) #[true, true, true, true, true, false, false, false, false, false, false, false] rfl rfl (by kernel_rfl) (fun _ _ _ h => h) (Or.inl ⟨by rfl, ?_⟩) ?_ ?_
            rotate_left
            · intro w'
              go_simp
              with_reducible rfl
            rotate_left
            · simp only [Act.put, List.setIfInBounds_toArray, List.set_cons_zero, List.set_cons_succ, i64_w, i32_w]
              rfl
            refine pure_ (i := 5) (N := some 35) (v := ?_) (a' := ?_) #[true, true, true, true, true, true, false, false, false, false, false, false] rfl rfl (by kernel_rfl) (fun _ _ _ h => h) (Or.inl ⟨by rfl, ?_⟩) ?_ ?_
            rotate_left
            · intro w'
              go_simp
              with_reducible rfl
            rotate_left
            · simp only [Act.put, List.setIfInBounds_toArray, List.set_cons_zero, List.set_cons_succ, i64_w, i32_w]
              rfl
            refine pure_ (i := 6) (N := some 36) (v := ?_) (a' := ?_) #[true, true, true, true, true, true, true, false, false, false, false, false] rfl rfl (by kernel_rfl) (fun _ _ _ h => h) (Or.inl ⟨by rfl, ?_⟩) ?_ ?_
            rotate_left
            · intro w'
              go_simp
              with_reducible rfl
            rotate_left
            · simp only [Act.put, List.setIfInBounds_toArray, List.set_cons_zero, List.set_cons_succ, i64_w, i32_w]
              rfl
            refine pure_ (i := 7) (N := some 37) (v := ?_) (a' := ?_) #[true, true, true, true, true, true, true, true, false, false, false, false] rfl rfl (by kernel_rfl) (fun _ _ _ h => h) (Or.inl ⟨by rfl, ?_⟩) ?_ ?_
            rotate_left
            · intro w'
              go_simp
              with_reducible rfl
            rotate_left
            · simp only [Act.put, List.setIfInBounds_toArray, List.set_cons_zero, List.set_cons_succ, i64_w, i32_w]
              rfl
            refine one_ (i := 8) (N := some 38) #[true, true, true, true, true, true, true, true, true, false, false, false] rfl rfl (by kernel_rfl) (by decide) (fun K hK => ?_)
            rw [if_pos (by rfl)]
            refine wp_buildSlice 73 5 2 #[(0, .tmp 33), (1, .tmp 37)] rfl #[.int .u8 (hexD (b0.toNat / 16)).toNat, .int .u8 (hexD (b0.toNat % 16)).toNat] i0 (.int .u8 0) Tryz.underlying73 HI.out HZ0.out (by rw [HZ1.out]; decide) (by rw [HZ1.out]; decide) (by rw [HZ1.out]; exact hex_fill _ _ _ (by simp only [List.map_toArray, List.map_cons, List.map_nil]; rfl)) ?_
            obtain ⟨wb, hwb⟩ : ∃ wb, wb = wd.alloc (.cells #[.int .u8 (hexD (b0.toNat / 16)).toNat, .int .u8 (hexD (b0.toNat % 16)).toNat] 5) := ⟨_, rfl⟩
            have HBLb := Aside0.mk (show Bl wb b b bv acc by rw [hwb]; exact HBLd.out.mv ((Mv.refl (fun _ => False) wd).alloc _) id (fun _ _ => id))
            have HMb := Aside0.mk (show Mv (fun _ => False) w wb by rw [hwb]; exact HMd.out.alloc _)
            have hcv : (convert 73 9 (.slice (some ⟨wd.heap.size, 0, none⟩) 2 2)).run Tryz.prog wb = .ok (.string ⟨#[hexD (b0.toNat / 16), hexD (b0.toNat % 16)]⟩) wb := by
              refine run_convert_bytes_back (P := Tryz.prog) wb 73 9 5 ⟨wd.heap.size, 0, none⟩ 2 [hexD (b0.toNat / 16), hexD (b0.toNat % 16)] Tryz.underlying73 Tryz.underlying5 Tryz.underlying9 (fun j hj => ?_)
              rw [Lib.add_plain, hwb, Nat.zero_add, cell_of_row _ _ _ _ _ _ (heap_alloc_new wd _)]
              match j, hj with
              | 0, _ => rfl
              | 1, _ => rfl
            rw [← hwb]
            generalize wd.heap.size = gb at hcv ⊢
            clear hwb HBLd HMd
            refine hK.out _ _ trivial (fun _ => ?_)
            clear hK K
            refine norm_ (a' := ?_) ?_ ?_
            rotate_left
            · show Act.put _ (some 38) _ = _
              simp only [Act.put, List.setIfInBounds_toArray, List.set_cons_zero, List.set_cons_succ, i64_w, i32_w]
              rfl
            refine one_ (i := 9) (N := some 39) #[true, true, true, true, true, true, true, true, true, true, false, false] rfl rfl (by kernel_rfl) (by decide) (fun K hK => ?_)
            refine val_ (v := .string ⟨#[hexD (b0.toNat / 16), hexD (b0.toNat % 16)]⟩) (w1 := wb) (by rfl) rfl ?_ ?_
            · go_simp
            refine hK.out _ _ trivial (fun _ => ?_)
            clear hK K hcv
            refine norm_ (a' := ?_) ?_ ?_
            rotate_left
            · show Act.put _ (some 39) _ = _
              simp only [Act.put, List.setIfInBounds_toArray, List.set_cons_zero, List.set_cons_succ, i64_w, i32_w]
              rfl
            refine pure_ (i := 10) (N := some 40) (v := ?_) (a' := ?_) #[true, true, true, true, true, true, true, true, true, true, true, false] rfl rfl (by kernel_rfl) (fun _ _ _ h => h) (Or.inl ⟨by rfl, ?_⟩) ?_ ?_
            rotate_left
            · intro w'
              go_simp
              with_reducible rfl
            rotate_left
            · simp only [Act.put, List.setIfInBounds_toArray, List.set_cons_zero, List.set_cons_succ, i64_w, i32_w]
              rfl
            refine one_ (i := 11) (N := some 41) #[true, true, true, true, true, true, true, true, true, true, true, true] rfl rfl (by kernel_rfl) (by decide) (fun K hK => ?_)
            refine goes_ Tryz.func41 (by kernel_rfl) rfl #[.pointer (some ⟨b, 0, none⟩), .string ((⟨#[92, 120]⟩ : ByteArray) ++ (⟨#[hexD (b0.toNat / 16), hexD (b0.toNat % 16)]⟩ : ByteArray))] (by rfl) rfl rfl (by (try simp only [List.map_toArray, List.map_cons, List.map_nil]); first | done | rfl) ?_
            have HSX := Aside0.mk (shown_room acc (hexD (b0.toNat / 16)) (hexD (b0.toNat % 16)) HACC.out)
            have HSD := Aside0.mk (shown_data b0)
            generalize ((⟨#[92, 120]⟩ : ByteArray) ++ (⟨#[hexD (b0.toNat / 16), hexD (b0.toNat % 16)]⟩ : ByteArray)) = sx at HSX HSD ⊢
            refine (HBLb.out.write sx HSX.out).mono ?_
            rintro e w5 ⟨rfl, v5, hbl5, ho5, hm5⟩
            refine ⟨_, rfl, ?_⟩
            have HBL5 := Aside0.mk (show Bl w5 b b v5 (acc ++ ([92, 120] ++ hexB b0)) by
              rw [HSD.out] at hbl5; exact hbl5)
            have HM5 := Aside0.mk (HMb.out.trans hm5 (fun i hi h => by
              rcases h with h | h
              · have := HBB.out; omega
              · have := (World.ownsRow.lt HBLb.out.row i h).1; have := HBB.out; omega))
            clear hbl5 ho5 hm5 HBLb HMb
            refine hK.out _ _ trivial (fun _ => ?_)
            clear hK K
            refine norm_ (a' := ?_) ?_ ?_
            rotate_left
            · show Act.put _ (some 41) _ = _
              simp only [Act.put, List.setIfInBounds_toArray, List.set_cons_zero, List.set_cons_succ, i64_w, i32_w]
              rfl
            refine done_ (by kernel_rfl) ?_
            go_wp2
            go_roundg m
            case measure => omega
            case rel => exact ⟨_, v5, _, rfl, ⟨HKK.out _ rfl⟩, HBL5, HM5⟩
      · rw [if_neg hbad] at hgo
        obtain ⟨h1, h2, h3⟩ : ec = 0 ∧ ¬ c < 32 ∧ c ≠ 127 := ⟨Decidable.not_not.1 fun h => hbad (.inl h), fun h => hbad (.inr (.inl h)), fun h => hbad (.inr (.inr h))⟩
        subst h1
        have d1 : decide (c < 32) = false := decide_eq_false h2
        have d1' := eq_false h2
        have d2 : (c == 127) = false := beq_eq_false_iff_ne.mpr h3
        have d2' := eq_false h3
        clear h2 h3 hbad
        by_cases hn : 0 ≤ n ∧ n ≤ (s.size : Int) ∧ n ≤ 1000
        case neg => rw [if_neg hn] at hgo; exact absurd hgo (by simp)
        rw [if_pos hn] at hgo
        obtain ⟨j, rfl⟩ := Int.eq_ofNat_of_zero_le hn.1
        have HJ := Aside0.mk (show j ≤ s.size by omega)
        have HJ2 := Aside0.mk (show j ≤ 1000 by omega)
        have q1 := eq_true (show j ≤ s.size by omega)
        have q2 := eq_true (show (j : Int) ≤ (s.size : Int) by omega)
        clear hn
        rw [Int.toNat_natCast] at hgo
        by_cases h92 : c = 92
        · subst h92
          rw [if_pos rfl] at hgo
          have HKK := Aside0.mk (show ∀ q, q = s.extract j s.size → utf_Shown.go m q (acc ++ [92, 92]) = some o from fun q hq => by rw [hq]; exact hgo)
          clear hgo
          go_wp2_with fail
          refine (HBL3.out.write ⟨#[92, 92]⟩ (by rw [size_lit2]; have := HACC.out; omega)).mono ?_
          rintro e w5 ⟨rfl, v5, hbl5, ho5, hm5⟩
          have HBL5 := Aside0.mk hbl5
          have HM5 := Aside0.mk (HM3.out.trans hm5 (fun i hi h => by
            rcases h with h | h
            · have := HBB.out; omega
            · have := (World.ownsRow.lt HBL3.out.row i h).1; have := HBB.out; omega))
          clear hbl5 ho5 hm5 HBL3 HM3
          go_wp2
          go_roundg m
          case measure => omega
          case rel => exact ⟨_, v5, _, rfl, ⟨HKK.out _ rfl⟩, HBL5, HM5⟩
        · rw [if_neg h92] at hgo
          have d3 : (c == 92) = false := beq_eq_false_iff_ne.mpr h92
          have d3' := eq_false h92
          have HKK := Aside0.mk (show ∀ q, q = s.extract j s.size → utf_Shown.go m q (acc ++ (s.extract 0 j).data.toList) = some o from fun q hq => by rw [hq]; exact hgo)
          clear hgo h92
          have HBG := Aside0.mk (show acc.length + (s.extract 0 j).size ≤ 140737488355328 by rw [ByteArray.size_extract]; have := HACC.out; have := HJ.out; have := HJ2.out; omega)
          go_wp2_with fail
          refine (HBL3.out.write (s.extract 0 j) HBG.out).mono ?_
          rintro e w5 ⟨rfl, v5, hbl5, ho5, hm5⟩
          have HBL5 := Aside0.mk hbl5
          have HM5 := Aside0.mk (HM3.out.trans hm5 (fun i hi h => by
            rcases h with h | h
            · have := HBB.out; omega
            · have := (World.ownsRow.lt HBL3.out.row i h).1; have := HBB.out; omega))
          clear hbl5 ho5 hm5 HBL3 HM3
          go_wp2
          go_roundg m
          case measure => omega
          case rel => exact ⟨_, v5, _, rfl, ⟨HKK.out _ rfl⟩, HBL5, HM5⟩

/-! ### strings_Join: function 111 -/
def strings_Join.f (l0 : List ByteArray) (a1 : ByteArray) : Option ByteArray :=
  if l0.length ≤ 140737488355328 ∧ (Lib.join (l0.map (·.data.toList)) a1.data.toList).length ≤ 140737488355328 then some ⟨(Lib.join (l0.map (·.data.toList)) a1.data.toList).toArray⟩ else none
theorem strings_Join.calls (A0 : Option Addr) (c0 : Nat) (l0 : List ByteArray) (a1 : ByteArray) (r : ByteArray) (w : World) (hr0 : Kd.C Kd.string w A0 l0.length l0) (hc0 : l0.length ≤ c0) (h : strings_Join.f l0 a1 = some r) :
    Calls Tryz.prog 111 #[.slice A0 l0.length c0, .string a1] w fun e w' => e = .returned (.string r) ∧ Below w.heap.size w w' := by
  unfold strings_Join.f at h
  by_cases hc : l0.length ≤ 140737488355328 ∧ (Lib.join (l0.map (·.data.toList)) a1.data.toList).length ≤ 140737488355328
  · rw [if_pos hc] at h
    obtain rfl := Option.some.inj h
    by_cases h0 : l0.length = 0
    · obtain rfl := List.eq_nil_of_length_eq_zero h0
      refine (Tryz.strings_Join_none A0 c0 a1 w).mono ?_
      rintro e w' ⟨rfl, rfl⟩
      exact ⟨rfl, Below.refl _ _⟩
    · obtain ⟨ad, rfl, hcell⟩ := hr0.2.2 (by omega)
      have hat : ∀ (j : Nat) x, l0[j]? = some x → w.cell? (ad.add j) = some (.string x) := by
        intro j x hj
        obtain ⟨cs, hl, hk, hq⟩ := hcell j x hj
        have e : cs = [.string x] := hk
        subst e
        have := hq 0 _ rfl
        have e1 : j * Kd.string.sz + 0 = j := Nat.mul_one j
        rw [e1] at this
        exact this
      have hsp : ad.spot = none := by
        obtain ⟨x, hx⟩ : ∃ x, l0[0]? = some x := ⟨_, List.getElem?_eq_getElem (by omega)⟩
        have := hat 0 x hx
        have e0 : ad.add 0 = ad := by unfold Addr.add; rfl
        rw [e0] at this
        unfold World.cell? at this
        split at this
        · split at this
          · cases this
          · rename_i hs
            cases hh : ad.spot with
            | none => rfl
            | some _ => rw [hh] at hs; exact absurd rfl hs
        · cases this
      obtain ⟨bk, o, sp⟩ := ad
      simp only at hsp
      subst hsp
      have hcs : ∀ (j : Nat) x, l0[j]? = some x → w.cell? ⟨bk, o + j, none⟩ = some (.string x) := by
        intro j x hj
        rw [← hat j x hj]
        congr 1
        unfold Addr.add
        split
        · rename_i e; subst e; rfl
        · rfl
      have hbk : bk < w.heap.size := by
        obtain ⟨x, hx⟩ : ∃ x, l0[0]? = some x := ⟨_, List.getElem?_eq_getElem (by omega)⟩
        exact World.block_lt_of_cell? w _ (hcs 0 x hx)
      refine (Tryz.strings_Join bk o c0 l0 a1 w hcs hbk hc.1 hc0 hc.2).mono ?_
      rintro e w' ⟨rfl, hb⟩
      exact ⟨rfl, hb⟩
  · rw [if_neg hc] at h
    exact absurd h (by simp)

end Go.Proofs.YtjfimileopbadaaGreatDoor.XVaA
