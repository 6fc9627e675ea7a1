-- Laid by extprint.py (the session's own driver): functions told by the kit's printer and by hand.
import Derived.Test.YteidlffajcogcaaXGlSx0
import Derived.Test.YteidlffajcogcaaXGlSx1
namespace Go.Proofs.Yteidlffajcogcaa.XGlS
open Go.RowKit Gong Go.Proofs.YteidlffajcogcaaW.PrintWords Go.Proofs.YteidlffajcogcaaW.PrintLast Go.Proofs.YteidlffajcogcaaW.PrintMore
attribute [local go_sem] max2_int min2_int max_two min_two max_three min_three max_four min_four   -- for this text's walks alone
set_option linter.unusedVariables false
set_option linter.unusedSimpArgs false

/-! ### glob_Parse: function 18 -/
theorem glob_piece_info : (Try.prog.info? 87).map (fun i => (i.zero, i.size, i.bytes)) = some (some (.agg #[.pointer none, .bool false, .bool false, .int .u8 0]), 4, 16) := by kernel_rfl
/-- What Parse answers. -/
def ParseAt (w w' : World) (s : ByteArray) (e : Ending) : Prop :=
  (256 < s.size ∧ e = .returned (.tuple #[.pointer none, .int .i64 2])) ∨
  (s.size ≤ 256 ∧ GlobS.parseL s.data.toList = none ∧ e = .returned (.tuple #[.pointer none, .int .i64 130])) ∨
  (s.size ≤ 256 ∧ ∃ (g : Nat) (v : Value) (rs : List PcR) (ps : List GlobS.Pi), GlobS.parseL s.data.toList = some ps ∧ e = .returned (.tuple #[.pointer (some ⟨g, 0, none⟩), .int .i64 0]) ∧ PatAt 84 87 125 w' w.heap.size g s v rs ps ∧ rs.length ≤ s.size)
set_option maxHeartbeats 4000000 in
set_option maxRecDepth 100000 in
theorem glob_Parse.calls (s : ByteArray) (w : World) :
    Calls Try.prog 18 #[.string s] w fun e w' => ParseAt w w' s e ∧ Mv (fun _ => False) w w' := by
  by_cases c0 : 256 < s.size
  · have e0 : decide ((s.size : Int) > 256) = true := decide_eq_true (by omega)
    have C0 := Aside0.mk c0
    clear c0
    go_enter Try.func18, Try.ntmps18
    go_wp2
    go_ret2
    exact ⟨.inl ⟨C0.out, rfl⟩, Mv.refl _ _⟩
  have e0 : decide ((s.size : Int) > 256) = false := decide_eq_false (by omega)
  have C0 := Aside0.mk (Nat.not_lt.1 c0)
  clear c0
  have hinfo := glob_piece_info
  cases hie : Try.prog.info? 87 with
  | none => rw [hie] at hinfo; simp at hinfo
  | some ie =>
  rw [hie, Option.map_some, Option.some.injEq, Prod.mk.injEq, Prod.mk.injEq] at hinfo
  obtain ⟨ze, hze⟩ : ∃ ze, ze = Value.agg #[.pointer none, .bool false, .bool false, .int .u8 0] := ⟨_, rfl⟩
  rw [← hze] at hinfo
  have hI1 := Aside0.mk hie
  have hI2 := Aside0.mk hinfo.1
  have hI3 := Aside0.mk hinfo.2.1
  have hI4 := Aside0.mk hinfo.2.2
  have hI5 := Aside0.mk hze
  clear hinfo hie hze
  go_enter Try.func18, Try.ntmps18
  go_wp2
  obtain ⟨w2, hw2⟩ : ∃ w2, w2 = (w.alloc (.cells #[.string s, .bool false] 81)).alloc (.cells #[.string s, .slice none 0 0] 84) := ⟨_, rfl⟩
  have HM2 := Aside0.mk (show Mv (fun _ => False) w w2 by rw [hw2]; exact ((Mv.refl _ w).alloc _).alloc _)
  have HR2 := Aside0.mk (show RdAt 81 w2 w.heap.size s.data.toList false by rw [hw2]; unfold RdAt; rw [Bz_eq]; exact heap_alloc2_old w _ _)
  have HP2 := Aside0.mk (show w2.heap[w.heap.size + 1]? = some (.cells #[.string s, .slice none 0 0] 84 (0, 0)) by rw [hw2]; exact heap_alloc2_new w _ _)
  rw [← hw2]
  clear hw2
  obtain ⟨g1, hg1⟩ : ∃ g1, g1 = w.heap.size := ⟨_, rfl⟩
  rw [← hg1] at HR2 HP2 ⊢
  obtain ⟨g2, hg2⟩ : ∃ g2, g2 = g1 + 1 := ⟨_, rfl⟩
  rw [← hg2] at HP2 ⊢
  have HG1 := Aside0.mk (show w.heap.size ≤ g1 by omega)
  have HG2 := Aside0.mk (show w.heap.size ≤ g2 by omega)
  clear hg1 hg2
  go_loopg [] (s.size + 2) (fun kq W => ∃ (l1 : List UInt8) (bad1 : Bool) (v : Value) (rs : List PcR) (ps : List GlobS.Pi), Aside0 (RdAt 81 W g1 l1 bad1) ∧ Aside0 (W.heap[g2]? = some (.cells #[.string s, v] 84 (0, 0))) ∧
    Aside0 (W.ownsRow w.heap.size 87 4 v rs.length (rs.flatMap PcR.cells)) ∧ Aside0 (PcsAt 125 W w.heap.size rs ps) ∧ Aside0 (Mv (fun _ => False) w W) ∧
    Aside0 (rs.length + (if bad1 = true then 0 else l1.length) ≤ s.size ∧ (if bad1 = true then 0 else l1.length + 1) < kq) ∧
    Aside0 (if bad1 = true then GlobS.parseL s.data.toList = none else GlobS.parseL s.data.toList = (GlobS.parseL l1).map (ps ++ ·)))
  case atStart =>
    refine ⟨s.data.toList, false, .slice none 0 0, [], [], HR2, HP2, ⟨World.ownsRow_nil _ _ _ _⟩, ⟨trivial⟩, HM2, ⟨by simp, by simp⟩, ⟨?_⟩⟩
    rw [if_neg (by simp)]
    cases GlobS.parseL s.data.toList <;> simp
  case round =>
    clear HR2 HP2 HM2
    obtain ⟨l1, bad1, v, rs, ps, HR, HP, HW, HC, HM, HN, HE⟩ := hrel
    have h0 := HR.out.c0
    have h1 := HR.out.c1
    cases bad1 with
    | true =>
      have hE := HE.out
      rw [if_pos (by trivial)] at hE
      have HEE := Aside0.mk hE
      clear hE HE
      cases l1 with
      | nil =>
        have e1 := Bz_nil'
        have e2 := Bz_nilT
        go_wp2
        go_ret2
        exact ⟨.inr (.inl ⟨C0.out, HEE.out, rfl⟩), HM.out⟩
      | cons b l1 =>
        have e1 := Bz_cons' b l1
        have e2 := Bz_consF b l1
        go_wp2
        go_ret2
        exact ⟨.inr (.inl ⟨C0.out, HEE.out, rfl⟩), HM.out⟩
    | false =>
      have hE := HE.out
      rw [if_neg (by simp)] at hE
      have HEE := Aside0.mk hE
      have hN := HN.out
      rw [if_neg (by simp), if_neg (by simp)] at hN
      have HNN := Aside0.mk hN
      clear hE HE hN HN
      cases l1 with
      | nil =>
        have e1 := Bz_nil'
        have e2 := Bz_nilT
        go_wp2
        go_ret2
        exact ⟨.inr (.inr ⟨C0.out, g2, v, rs, ps, by rw [HEE.out]; simp [GlobS.parseL, GlobS.parseN], rfl, ⟨HP.out, HW.out, HC.out, HG2.out⟩, by have := HNN.out.1; omega⟩), HM.out⟩
      | cons b lr =>
        have e1 := Bz_cons' b lr
        have e2 := Bz_consF b lr
        have e3 : (Bz (b :: lr)).toList.isEmpty = false := by rw [Bz_list]; rfl
        obtain ⟨l1, hl1⟩ : ∃ l1, l1 = b :: lr := ⟨_, rfl⟩
        rw [← hl1] at HR HEE HNN e1 e2 e3 h0
        have HNE := Aside0.mk (show l1 ≠ [] by rw [hl1]; simp)
        have HLN := Aside0.mk (show l1.length ≤ 1000 by have := HNN.out.1; have := C0.out; omega)
        have HRS := Aside0.mk (show rs.length ≤ 256 by have := HNN.out.1; have := C0.out; omega)
        clear hl1
        go_upto_region 6 with (fail)
        refine start_ (n := 12) (S := fun w' => w'.heap[g2]? = some (.cells #[.string s, v] 84 (0, 0))) (ds := [11]) #[false, false, false, false, false, false, false, false, false, false, false, false] (by kernel_rfl) rfl rfl HP.out (fun hHeld => ?_)
        obtain ⟨wd, hwd⟩ : ∃ wd, wd = wr.drew := ⟨_, rfl⟩
        have HRd := Aside0.mk (show RdAt 81 wd g1 l1 false by rw [hwd]; exact HR.out)
        have HWd := Aside0.mk (show wd.ownsRow w.heap.size 87 4 v rs.length (rs.flatMap PcR.cells) by rw [hwd]; exact (Mv.drew (Mv.refl (fun _ => False) wr)).own HW.out (fun _ _ => id))
        have HCd := Aside0.mk (show PcsAt 125 wd w.heap.size rs ps by rw [hwd]; exact PcsAt.mvT (Mv.drew (Mv.refl (fun _ => False) wr)) (fun _ _ _ => id) HC.out)
        have HMd := Aside0.mk (show Mv (fun _ => False) w wd by rw [hwd]; exact HM.out.drew)
        have HPd := Aside0.mk (show wd.heap[g2]? = some (.cells #[.string s, v] 84 (0, 0)) by rw [hwd]; exact HP.out)
        rw [← hwd] at hHeld ⊢
        clear hwd HR HW HC HM HP
        refine pure_ (i := 0) (N := some 27) (v := ?_) (a' := ?_) #[true, false, false, false, false, false, false, false, false, false, false, false] rfl rfl (by kernel_rfl) (fun _ _ _ h => h) (Or.inl ⟨by rfl, ?_⟩) ?_ ?_
        rotate_left
        · intro w'
          go_simp
          with_reducible rfl
        rotate_left
        · simp only [Act.put, List.setIfInBounds_toArray, List.set_cons_zero, List.set_cons_succ, i64_w, i32_w]
          rfl
        refine pure_ (i := 1) (N := some 28) (v := ?_) (a' := ?_) #[true, true, false, false, false, false, false, false, false, false, false, false] rfl rfl (by kernel_rfl) (fun _ _ _ h => h) (Or.inl ⟨by rfl, ?_⟩) ?_ ?_
        rotate_left
        · intro w'
          go_simp
          with_reducible rfl
        rotate_left
        · simp only [Act.put, List.setIfInBounds_toArray, List.set_cons_zero, List.set_cons_succ, i64_w, i32_w]
          rfl
        refine pure_ (i := 2) (N := some 29) (v := ?_) (a' := ?_) #[true, true, true, false, false, false, false, false, false, false, false, false] rfl rfl (by kernel_rfl) (fun _ _ _ h => h) (Or.inl ⟨by rfl, ?_⟩) ?_ ?_
        rotate_left
        · intro w'
          go_simp
          with_reducible rfl
        rotate_left
        · simp only [Act.put, List.setIfInBounds_toArray, List.set_cons_zero, List.set_cons_succ, i64_w, i32_w]
          rfl
        refine pure_ (i := 3) (N := some 30) (v := ?_) (a' := ?_) #[true, true, true, true, false, false, false, false, false, false, false, false] rfl rfl (by kernel_rfl) (fun _ _ _ h => h) (Or.inl ⟨by rfl, ?_⟩) ?_ ?_
        rotate_left
        · intro w'
          go_simp
          with_reducible rfl
        rotate_left
        · simp only [Act.put, List.setIfInBounds_toArray, List.set_cons_zero, List.set_cons_succ, i64_w, i32_w]
          rfl
        refine take_ (i := 4) (N := some 31) (v := ?_) (a' := ?_) #[true, true, true, true, true, false, false, false, false, false, false, false] rfl rfl (by kernel_rfl) (fun _ _ _ h => h) (Or.inl ⟨by rfl, ?_⟩) hHeld ?_ ?_
        rotate_left
        · intro w' s0
          have s1 := blk_cell s0 0
          have s2 := blk_cell s0 1
          go_simp
          with_reducible rfl
        rotate_left
        · simp only [Act.put, List.setIfInBounds_toArray, List.set_cons_zero, List.set_cons_succ, i64_w, i32_w]
          rfl
        refine pure_ (i := 5) (N := some 32) (v := ?_) (a' := ?_) #[true, true, true, true, true, true, false, false, false, false, false, false] rfl rfl (by kernel_rfl) (fun _ _ _ h => h) (Or.inl ⟨by rfl, ?_⟩) ?_ ?_
        rotate_left
        · intro w'
          go_simp
          with_reducible rfl
        rotate_left
        · simp only [Act.put, List.setIfInBounds_toArray, List.set_cons_zero, List.set_cons_succ, i64_w, i32_w]
          rfl
        refine one_ (i := 6) (N := some 33) #[true, true, true, true, true, true, true, false, false, false, false, false] rfl rfl (by kernel_rfl) (by decide) (fun K hK => ?_)
        refine goes_ Try.func49 (by kernel_rfl) rfl #[.pointer (some ⟨g1, 0, none⟩)] (by rfl) rfl rfl (by (try simp only [List.map_toArray, List.map_cons, List.map_nil]); first | done | rfl) ?_
        refine (glob_reader_piece.calls g1 l1 wd HRd.out HNE.out HLN.out).mono ?_
        rintro e w4 ⟨r, p, l2, bad2, rfl, hpc, hr4, hx, hy, hm4⟩
        refine ⟨_, rfl, ?_⟩
        have HP4 := Aside0.mk (hm4.heap hHeld (fun e => blk_types HPd.out HRd.out (by decide) e))
        have HW4 := Aside0.mk (hm4.own HWd.out (fun k hk e => row_types HWd.out HRd.out (by decide) (by rw [hk, e])))
        have HC4 := Aside0.mk (PcsAt.mvT hm4 (fun b f hb e => blk_types hb HRd.out (by decide) e) HCd.out)
        have HM4 := Aside0.mk (Mv.trans HMd.out hm4 (fun i hi e => by have := HG1.out; omega))
        have HR4 := Aside0.mk hr4
        have HPC := Aside0.mk (hpc.mono HMd.out.size)
        have HX := Aside0.mk hx
        have HY := Aside0.mk hy
        clear HPd HWd HCd HMd HRd hr4 hpc hx hy hm4
        refine hK.out _ _ HP4.out (fun hHeld => ?_)
        clear hK K
        refine norm_ (a' := ?_) ?_ ?_
        rotate_left
        · show Act.put _ (some 33) _ = _
          simp only [Act.put, List.setIfInBounds_toArray, List.set_cons_zero, List.set_cons_succ, i64_w, i32_w]
          rfl
        refine one_ (i := 7) (N := some 34) #[true, true, true, true, true, true, true, true, false, false, false, false] rfl rfl (by kernel_rfl) (by decide) (fun K hK => ?_)
        rw [if_pos (by rfl)]
        refine wp_buildSlice 82 87 1 #[(0, .tmp 33)] rfl r.cells.toArray ie ze Try.underlying82 hI1.out hI2.out (by rw [hI3.out]; decide) (by rw [hI3.out]; decide) (by rw [hI3.out, hI5.out]; exact piece_fill r _ (by simp only [List.map_toArray, List.map_cons, List.map_nil]; rfl)) ?_
        have HM5 := Aside0.mk (HM4.out.alloc (.cells r.cells.toArray 87))
        have hm5 : Mv (fun _ => False) w4 (w4.alloc (.cells r.cells.toArray 87)) := (Mv.refl _ w4).alloc _
        have HP5 := Aside0.mk (hm5.heap HP4.out id)
        have HW5 := Aside0.mk (hm5.own HW4.out (fun _ _ => id))
        have HC5 := Aside0.mk (PcsAt.mvT hm5 (fun _ _ _ => id) HC4.out)
        have HPC5 := Aside0.mk (HPC.out.mvT hm5 (fun _ _ _ => id))
        have HR5 := Aside0.mk (HR4.out.mv hm5 id)
        have HB5 := Aside0.mk (heap_alloc_new w4 (.cells r.cells.toArray 87))
        clear hm5 HP4 HW4 HC4 HPC HR4
        generalize w4.alloc (.cells r.cells.toArray 87) = w5 at HM5 HP5 HW5 HC5 HPC5 HR5 HB5 hK ⊢
        generalize w4.heap.size = b5 at HB5 ⊢
        refine hK.out _ _ HP5.out (fun hHeld => ?_)
        clear hK K HM4
        refine norm_ (a' := ?_) ?_ ?_
        rotate_left
        · show Act.put _ (some 34) _ = _
          simp only [Act.put, List.setIfInBounds_toArray, List.set_cons_zero, List.set_cons_succ, i64_w, i32_w]
          rfl
        refine one_ (i := 8) (N := some 35) #[true, true, true, true, true, true, true, true, true, false, false, false] rfl rfl (by kernel_rfl) (by decide) (fun K hK => ?_)
        refine step_append4 w5 (by rfl) (.tmp 31) (.tmp 34) 82 rfl w.heap.size 87 ie ze Try.underlying82 hI1.out hI2.out hI3.out hI4.out (by rw [hI5.out]; rfl) v rs.length (rs.flatMap PcR.cells) rfl HW5.out b5 1 r.cells rfl rfl 87 HB5.out (cells_one r) (by have := HRS.out; omega) HM5.out.size ?_
        intro v6 w6 hw6 hg6
        have hm6 : Mv (fun k => v.ownBlock = some k) w5 w6 := (Mv.refl _ w5).grown hg6 (fun k hk _ => hk)
        have HP6 := Aside0.mk (hm6.heap HP5.out (fun e => row_types HW5.out HP5.out (by decide) e))
        have HC6 := Aside0.mk (PcsAt.snoc (HPC5.out.mvT hm6 (fun b f hb e => row_types HW5.out hb (by decide) e)) (PcsAt.mvT hm6 (fun b f hb e => row_types HW5.out hb (by decide) e) HC5.out))
        have HR6 := Aside0.mk (HR5.out.mv hm6 (fun e => row_types HW5.out HR5.out (by decide) e))
        have HM6 := Aside0.mk (Mv.trans HM5.out hm6 (fun i hi e => by
          rcases HW5.out.2 with ⟨hv, _⟩ | ⟨g, cap, cur, hv, hg, _⟩
          · rw [hv] at e; simp [Value.ownBlock] at e
          · rw [hv] at e; simp [Value.ownBlock] at e; omega))
        have HW6 := Aside0.mk (show w6.ownsRow w.heap.size 87 4 v6 (rs ++ [r]).length ((rs ++ [r]).flatMap PcR.cells) by
          rw [List.length_append, List.flatMap_append, List.flatMap_cons, List.flatMap_nil, List.append_nil]; exact hw6)
        clear hm6 hw6 hg6 HW5 HP5 HC5 HPC5 HR5 HB5 HM5
        refine hK.out _ _ HP6.out (fun hHeld => ?_)
        clear hK K
        refine norm_ (a' := ?_) ?_ ?_
        rotate_left
        · show Act.put _ (some 35) _ = _
          simp only [Act.put, List.setIfInBounds_toArray, List.set_cons_zero, List.set_cons_succ, i64_w, i32_w]
          rfl
        refine pure_ (i := 9) (N := some 36) (v := ?_) (a' := ?_) #[true, true, true, true, true, true, true, true, true, true, false, false] rfl rfl (by kernel_rfl) (fun _ _ _ h => h) (Or.inl ⟨by rfl, ?_⟩) ?_ ?_
        rotate_left
        · intro w'
          go_simp
          with_reducible rfl
        rotate_left
        · simp only [Act.put, List.setIfInBounds_toArray, List.set_cons_zero, List.set_cons_succ, i64_w, i32_w]
          rfl
        refine pure_ (i := 10) (N := some 37) (v := ?_) (a' := ?_) #[true, true, true, true, true, true, true, true, true, true, true, false] rfl rfl (by kernel_rfl) (fun _ _ _ h => h) (Or.inl ⟨by rfl, ?_⟩) ?_ ?_
        rotate_left
        · intro w'
          go_simp
          with_reducible rfl
        rotate_left
        · simp only [Act.put, List.setIfInBounds_toArray, List.set_cons_zero, List.set_cons_succ, i64_w, i32_w]
          rfl
        refine last_ (i := 11) (N := none) #[true, true, true, true, true, true, true, true, true, true, true, true] rfl rfl (by kernel_rfl) (by decide) (fun K hK => ?_)
        obtain ⟨A6, c6, hv6⟩ := own_slice HW6.out
        subst hv6
        have hst := blk_cell hHeld 1
        have hfr := blk_frozen hHeld 1
        refine skip_ (w1 := w6.setCell ⟨g2, 1, none⟩ (.slice A6 (rs ++ [r]).length c6)) (by rfl) rfl ?_ ?_
        · go_simp
        refine hK.out _ _ ?_
        clear hK K
        refine done_ (by kernel_rfl) ?_
        have hm7 : Mv (fun k => k = g2) w6 (w6.setCell ⟨g2, 1, none⟩ (.slice A6 (rs ++ [r]).length c6)) := Mv.setCell (Mv.refl (fun k => k = g2) w6) rfl _ _
        have HP7 := Aside0.mk (show (w6.setCell ⟨g2, 1, none⟩ (.slice A6 (rs ++ [r]).length c6)).heap[g2]? = some (.cells #[.string s, .slice A6 (rs ++ [r]).length c6] 84 (0, 0)) from blk_put HP6.out 1 _ rfl)
        have HW7 := Aside0.mk (hm7.own HW6.out (fun k hk e => row_types HW6.out HP6.out (by decide) (by rw [hk, e])))
        have HC7 := Aside0.mk (PcsAt.mvT hm7 (fun b f hb e => blk_types hb HP6.out (by decide) e) HC6.out)
        have HR7 := Aside0.mk (HR6.out.mv hm7 (fun e => blk_types HR6.out HP6.out (by decide) e))
        have HM7 := Aside0.mk (HM6.out.trans hm7 (fun i hi e => by have := HG2.out; omega))
        clear hm7 HP6 HW6 HC6 HR6 HM6 hst hfr hHeld
        have hN := HNN.out
        obtain ⟨kr, hkr⟩ : ∃ kr, gk = kr + 1 := ⟨gk - 1, by omega⟩
        subst hkr
        go_wp2
        go_roundg kr
        case measure => omega
        case rel =>
          refine ⟨l2, bad2, _, rs ++ [r], ps ++ [p], HR7, HP7, HW7, HC7, HM7, ?_, ?_⟩
          · cases bad2 with
            | true => exact ⟨by rw [if_pos rfl, if_pos rfl, List.length_append, List.length_singleton]; have := List.length_pos_iff.2 HNE.out; omega⟩
            | false =>
              have hl := GlobS.pieceL_len (HY.out rfl)
              exact ⟨by rw [if_neg (by simp), if_neg (by simp), List.length_append, List.length_singleton]; omega⟩
          · cases bad2 with
            | true =>
              refine ⟨?_⟩
              rw [if_pos rfl, HEE.out, GlobS.parseL_none HNE.out (HX.out rfl)]
              rfl
            | false =>
              refine ⟨?_⟩
              rw [if_neg (by simp), HEE.out, GlobS.parseL_cons (HY.out rfl), Option.map_map]
              congr 1
              funext z
              simp


/-! ### glob_Pattern_Match: function 19 -/
set_option maxHeartbeats 1600000 in
set_option maxRecDepth 100000 in
theorem glob_set_has.calls (g : Nat) (f : Nat → Bool) (c : Int) (w : World) (h : SetAt 125 w g f) (h0 : 0 ≤ c) (h1 : c < 256) :
    Calls Try.prog 50 #[.pointer (some ⟨g, 0, none⟩), .int .u8 c] w fun e w' => e = .returned (.bool (f c.toNat)) ∧ w' = w := by
  have hcl := h.cell c.toNat (by omega)
  have e2 := eq_true h0
  have e3 := eq_true h1
  have hu := Try.underlying125
  clear h h0 h1
  go_enter Try.func50, Try.ntmps50
  go_wp2
  go_ret
  exact ⟨rfl, rfl⟩
set_option maxHeartbeats 4000000 in
set_option maxRecDepth 100000 in
theorem glob_Pattern_Match.calls (g B : Nat) (s0 : ByteArray) (v : Value) (rs : List PcR) (ps : List GlobS.Pi) (t : ByteArray) (w : World) (h : PatAt 84 87 125 w B g s0 v rs ps) (hn : rs.length ≤ 1000) (ht : t.size ≤ 1000) :
    Calls Try.prog 19 #[.pointer (some ⟨g, 0, none⟩), .string t] w fun e w' => e = .returned (.bool (GlobS.mt (ps.map (·.pc)) t.data.toList)) ∧ ∃ m, w' = w.drewN m := by
  obtain ⟨A, c, rfl⟩ := own_slice h.row
  obtain ⟨pcs, hpcs⟩ : ∃ pcs, pcs = ps.map (·.pc) := ⟨_, rfl⟩
  obtain ⟨l, hl⟩ : ∃ l, l = t.data.toList := ⟨_, rfl⟩
  rw [← hpcs, ← hl]
  have HPT := Aside0.mk h
  have HNL := Aside0.mk (show pcs.length = rs.length by rw [hpcs, List.length_map, h.pcs.len])
  have HLL := Aside0.mk (show l.length = t.size by rw [hl]; simp)
  have HBD := Aside0.mk (And.intro hn ht)
  have HPC := Aside0.mk hpcs
  have HL := Aside0.mk hl
  have hg0 := blk_cell h.blk 0
  have hg1 := blk_cell h.blk 1
  have huP := Try.underlying82
  clear h hn ht hpcs hl
  go_enter Try.func19, Try.ntmps19
  go_wp2
  go_loopg [5, 6, 7, 8] (GlobS.ms pcs.length l.length 0 0 none + 1) (fun kq v5 v6 v7 v8 W => ∃ (a k : Nat) (bt : Option (Nat × Nat)) (st fr : Int), v5 = .int .i64 a ∧ v6 = .int .i64 k ∧ v7 = .int .i64 st ∧ v8 = .int .i64 fr ∧
    Aside0 (match bt with | none => st = -1 | some x => st = x.1 ∧ fr = x.2) ∧ Aside0 (GlobS.Mw pcs l a k bt) ∧ Aside0 (GlobS.ms pcs.length l.length a k bt < kq) ∧ Aside0 (∃ m, W = w.drewN m))
  case atStart => exact ⟨0, 0, none, -1, 0, rfl, rfl, rfl, rfl, ⟨rfl⟩, ⟨GlobS.Mw.start _ _⟩, ⟨Nat.lt_succ_self _⟩, ⟨0, rfl⟩⟩
  case round =>
    obtain ⟨a, k, bt, st, fr, rfl, rfl, rfl, rfl, HBT, HMW, HMS, HW⟩ := hrel
    obtain ⟨m, hW⟩ := HW.out
    subst hW
    by_cases ca : a < t.size
    · have e1 := eq_true ca
      by_cases ck : k < rs.length
      · obtain ⟨gr, r, p, rfl, hr, hp, hpc, hc0, hc1, -, -, -⟩ := HPT.out.piece k ck
        have e2 := eq_true ck
        have HPP := Aside0.mk (show pcs[k]? = some p.pc by rw [HPC.out, List.getElem?_map, hp]; rfl)
        have HCA := Aside0.mk ca
        have HCK := Aside0.mk ck
        have HR := Aside0.mk hpc
        clear hpc hr hp ca ck
        unfold PcAt at HR
        cases hpp : p.pc with
        | none =>
          have hr := HR.out
          rw [hpp] at hr
          obtain ⟨rfl, _⟩ := hr
          rw [hpp] at HPP
          have HST := Aside0.mk (HMW.out.star HPP.out)
          have HLT := Aside0.mk (GlobS.ms_star (n := pcs.length) (len := l.length) (a := a) (k := k) (bt := bt) (by have := HNL.out; have := HCK.out; omega) HMW.out.ha (fun x hx => (HMW.out.hb x hx).2))
          have e9 : wrap64 ((k : Int) + 1) = ((k + 1 : Nat) : Int) := by have := HBD.out; have := HCK.out; unfold wrap64; omega
          clear HR
          go_wp2
          go_roundg (GlobS.ms pcs.length l.length a (k + 1) (some (k, a)) + 1)
          case measure => have := HMS.out; have := HLT.out; omega
          case rel => exact ⟨a, k + 1, some (k, a), _, _, rfl, by first | rfl | rw [e9], rfl, rfl, ⟨rfl, rfl⟩, HST, ⟨Nat.lt_succ_self _⟩, ⟨_, rfl⟩⟩
        | some F =>
          have hr := HR.out
          rw [hpp] at hr
          obtain ⟨b, _, rfl, hs⟩ := hr
          rw [hpp] at HPP
          have HS := Aside0.mk hs
          replace hc0 : w.cell? ⟨gr, k * 4, none⟩ = some (.pointer (some ⟨b, 0, none⟩)) := hc0
          replace hc1 : w.cell? ⟨gr, k * 4 + 1, none⟩ = some (.bool false) := hc1
          obtain ⟨cb, hcb, hx⟩ := at_byte (t := t) (a := a) HCA.out
          rw [← HL.out] at hcb
          have HCB := Aside0.mk hcb
          have hlt := cb.toNat_lt
          have hca := HCA.out
          have efc : F (UInt8.ofNat cb.toNat) = F cb := by simp
          clear HR hs hcb
          by_cases hF : F cb = true
          · have HST := Aside0.mk (HMW.out.byte HPP.out HCB.out hF)
            have HLT := Aside0.mk (GlobS.ms_byte (n := pcs.length) (len := l.length) (a := a) (k := k) (bt := bt) (by have := HNL.out; have := HCK.out; omega) (by have := HLL.out; omega))
            have e9 : wrap64 ((k : Int) + 1) = ((k + 1 : Nat) : Int) := by have := HBD.out; have := HCK.out; unfold wrap64; omega
            have e10 : wrap64 ((a : Int) + 1) = ((a + 1 : Nat) : Int) := by have := HBD.out; unfold wrap64; omega
            go_wp2
            go_quiet ((refine Calls.mono (glob_set_has.calls b (fun i => F (UInt8.ofNat i)) (cb.toNat : Int) _ ?_ ?_ ?_) ?_; exact HS.out; omega; omega; exact fun _ _ h => ⟨h.1, _, h.2⟩))
            go_wp2
            go_roundg (GlobS.ms pcs.length l.length (a + 1) (k + 1) bt + 1)
            case measure => have := HMS.out; have := HLT.out; omega
            case rel => exact ⟨a + 1, k + 1, bt, _, _, by first | rfl | rw [e10], by first | rfl | rw [e9], rfl, rfl, HBT, HST, ⟨Nat.lt_succ_self _⟩, ⟨_, rfl⟩⟩
          · replace hF := Bool.eq_false_iff.mpr hF
            have HSK := Aside0.mk (show GlobS.Stuck pcs k cb from .inr ⟨F, HPP.out, hF⟩)
            cases bt with
            | none =>
              have hbt := HBT.out
              simp only at hbt
              subst hbt
              have HEND := Aside0.mk (HMW.out.fail HCB.out HSK.out)
              go_wp2
              go_quiet ((refine Calls.mono (glob_set_has.calls b (fun i => F (UInt8.ofNat i)) (cb.toNat : Int) _ ?_ ?_ ?_) ?_; exact HS.out; omega; omega; exact fun _ _ h => ⟨h.1, _, h.2⟩))
              go_wp2
              go_ret
              exact ⟨by rw [HEND.out]; rfl, _, rfl⟩
            | some x =>
              have hbt := HBT.out
              simp only at hbt
              obtain ⟨rfl, rfl⟩ := hbt
              have HST := Aside0.mk (HMW.out.back HCB.out HSK.out)
              have hxx := HMW.out.hb x rfl
              have HLT := Aside0.mk (GlobS.ms_back (n := pcs.length) (len := l.length) (a := a) (k := k) (x := x) (by have := HLL.out; omega))
              have e9 : wrap64 ((x.1 : Int) + 1) = ((x.1 + 1 : Nat) : Int) := by have := HBD.out; have := HCK.out; unfold wrap64; omega
              have e10 : wrap64 ((x.2 : Int) + 1) = ((x.2 + 1 : Nat) : Int) := by have := HBD.out; unfold wrap64; omega
              have e11 := eq_false (show ¬ (x.1 : Int) < 0 by omega)
              clear hxx
              go_wp2
              go_quiet ((refine Calls.mono (glob_set_has.calls b (fun i => F (UInt8.ofNat i)) (cb.toNat : Int) _ ?_ ?_ ?_) ?_; exact HS.out; omega; omega; exact fun _ _ h => ⟨h.1, _, h.2⟩))
              go_wp2
              go_roundg (GlobS.ms pcs.length l.length (x.2 + 1) (x.1 + 1) (some (x.1, x.2 + 1)) + 1)
              case measure => have := HMS.out; have := HLT.out; omega
              case rel => exact ⟨x.2 + 1, x.1 + 1, some (x.1, x.2 + 1), _, _, by first | rfl | rw [e10], by first | rfl | rw [e9], rfl, by first | rfl | rw [e10], ⟨rfl, rfl⟩, HST, ⟨Nat.lt_succ_self _⟩, ⟨_, rfl⟩⟩
      · have e2 := eq_false ck
        obtain ⟨cb, hcb, hx⟩ := at_byte (t := t) (a := a) ca
        rw [← HL.out] at hcb
        have HCA := Aside0.mk ca
        have HSK := Aside0.mk (show GlobS.Stuck pcs k cb from .inl (by rw [List.getElem?_eq_none_iff]; have := HNL.out; omega))
        have HCK := Aside0.mk ck
        have HCB := Aside0.mk hcb
        clear ck ca hcb
        cases bt with
        | none =>
          have hbt := HBT.out
          simp only at hbt
          subst hbt
          have HEND := Aside0.mk (HMW.out.fail HCB.out HSK.out)
          go_wp2
          go_quiet (fail)
          go_wp2
          go_ret
          exact ⟨by rw [HEND.out]; rfl, _, rfl⟩
        | some x =>
          have hbt := HBT.out
          simp only at hbt
          obtain ⟨rfl, rfl⟩ := hbt
          have HST := Aside0.mk (HMW.out.back HCB.out HSK.out)
          have hxx := HMW.out.hb x rfl
          have hca := HCA.out
          have HLT := Aside0.mk (GlobS.ms_back (n := pcs.length) (len := l.length) (a := a) (k := k) (x := x) (by have := HLL.out; omega))
          have e9 : wrap64 ((x.1 : Int) + 1) = ((x.1 + 1 : Nat) : Int) := by have := HBD.out; have := HMW.out.hk; have := HNL.out; unfold wrap64; omega
          have e10 : wrap64 ((x.2 : Int) + 1) = ((x.2 + 1 : Nat) : Int) := by have := HBD.out; unfold wrap64; omega
          have e11 := eq_false (show ¬ (x.1 : Int) < 0 by omega)
          clear hxx
          go_wp2
          go_quiet (fail)
          go_wp2
          go_roundg (GlobS.ms pcs.length l.length (x.2 + 1) (x.1 + 1) (some (x.1, x.2 + 1)) + 1)
          case measure => have := HMS.out; have := HLT.out; omega
          case rel => exact ⟨x.2 + 1, x.1 + 1, some (x.1, x.2 + 1), _, _, by first | rfl | rw [e10], by first | rfl | rw [e9], rfl, by first | rfl | rw [e10], ⟨rfl, rfl⟩, HST, ⟨Nat.lt_succ_self _⟩, ⟨_, rfl⟩⟩
    · have e1 := eq_false ca
      have hal : a = l.length := by have := HMW.out.ha; have := HLL.out; omega
      subst hal
      have HEND := Aside0.mk HMW.out.end_
      have HKL := Aside0.mk HMW.out.hk
      clear ca HMS HMW HBT
      go_wp2
      go_loopg [6] (pcs.length + 1) (fun kq v6 W => ∃ (k : Nat), v6 = .int .i64 k ∧ Aside0 (k ≤ pcs.length) ∧ Aside0 (pcs.length - k < kq) ∧ Aside0 (GlobS.mt pcs l = (pcs.drop k).all (fun p => p.isNone)) ∧ Aside0 (∃ m, W = w.drewN m))
      case atStart => exact ⟨k, rfl, HKL, ⟨by omega⟩, HEND, ⟨m, rfl⟩⟩
      case round =>
        clear HKL HEND
        obtain ⟨k2, rfl, HKL, HKQ, HEND, HW2⟩ := hrel
        obtain ⟨m2, hW2⟩ := HW2.out
        subst hW2
        by_cases ck : k2 < rs.length
        · obtain ⟨gr, r, p, rfl, hr, hp, hpc, hc0, hc1, -, -, -⟩ := HPT.out.piece k2 ck
          have e2 := eq_true ck
          have HPP := Aside0.mk (show pcs[k2]? = some p.pc by rw [HPC.out, List.getElem?_map, hp]; rfl)
          have HCK := Aside0.mk ck
          have HR := Aside0.mk hpc
          clear hpc hr hp ck
          unfold PcAt at HR
          cases hpp : p.pc with
          | none =>
            have hr := HR.out
            rw [hpp] at hr
            obtain ⟨rfl, _⟩ := hr
            rw [hpp] at HPP
            have e9 : wrap64 ((k2 : Int) + 1) = ((k2 + 1 : Nat) : Int) := by have := HBD.out; have := HCK.out; unfold wrap64; omega
            clear HR
            go_wp2
            go_roundg (pcs.length - (k2 + 1) + 1)
            case measure => have := HKQ.out; have := HCK.out; have := HNL.out; omega
            case rel => exact ⟨k2 + 1, by first | rfl | rw [e9], ⟨by have := HCK.out; have := HNL.out; omega⟩, ⟨Nat.lt_succ_self _⟩, ⟨by rw [HEND.out]; exact GlobS.tail_star HPP.out⟩, ⟨_, rfl⟩⟩
          | some F =>
            have hr := HR.out
            rw [hpp] at hr
            obtain ⟨b, _, rfl, hs⟩ := hr
            rw [hpp] at HPP
            replace hc1 : w.cell? ⟨gr, k2 * 4 + 1, none⟩ = some (.bool false) := hc1
            have e5 : ((k2 : Int) == (rs.length : Int)) = false := beq_eq_false_iff_ne.mpr (by have := HCK.out; omega)
            have e6 : (k2 == rs.length) = false := beq_eq_false_iff_ne.mpr (by have := HCK.out; omega)
            have e7 := eq_false (show ¬ k2 = rs.length by have := HCK.out; omega)
            clear HR hs
            go_wp2
            go_ret
            exact ⟨by rw [HEND.out, GlobS.tail_no HPP.out]; rfl, _, rfl⟩
        · have e2 := eq_false ck
          have hk2 : k2 = rs.length := by have := HKL.out; have := HNL.out; omega
          have HKK := Aside0.mk hk2
          have e5 : ((k2 : Int) == (rs.length : Int)) = true := beq_iff_eq.mpr (by omega)
          have e6 : (k2 == rs.length) = true := beq_iff_eq.mpr hk2
          have e7 := eq_true hk2
          clear ck hk2
          go_wp2
          go_ret
          exact ⟨by rw [HEND.out, HKK.out, ← HNL.out, GlobS.tail_end]; rfl, _, rfl⟩

/-! ### glob_Match: function 21 -/
set_option maxHeartbeats 1600000 in
set_option maxRecDepth 100000 in
theorem glob_Match.calls (p t : ByteArray) (w : World) (ht : t.size ≤ 1000) :
    Calls Try.prog 21 #[.string p, .string t] w fun e w' => e = .returned (.tuple #[.bool (GlobS.mr p t).1, .int .i64 (GlobS.mr p t).2]) ∧ Mv (fun _ => False) w w' := by
  have HT := Aside0.mk ht
  clear ht
  obtain ⟨q, hq⟩ : ∃ q, q = GlobS.mr p t := ⟨_, rfl⟩
  rw [← hq]
  have HQ := Aside0.mk hq
  clear hq
  go_enter Try.func21, Try.ntmps21
  go_wp2_with fail
  refine (glob_Parse.calls p w).mono ?_
  rintro e w1 ⟨hp, hm⟩
  have HM := Aside0.mk hm
  clear hm
  rcases hp with ⟨h1, rfl⟩ | ⟨h1, h2, rfl⟩ | ⟨h1, g, v, rs, ps, h2, rfl, hpt, hln⟩
  · have hq := HQ.out
    rw [GlobS.mr_long h1] at hq
    subst hq
    clear h1
    go_wp2
    go_ret2
    exact ⟨rfl, HM.out⟩
  · have hq := HQ.out
    rw [GlobS.mr_bad h1 h2] at hq
    subst hq
    clear h1 h2
    go_wp2
    go_ret2
    exact ⟨rfl, HM.out⟩
  · have hq := HQ.out
    rw [GlobS.mr_ok h1 h2] at hq
    subst hq
    have HPT := Aside0.mk hpt
    have HLN := Aside0.mk (show rs.length ≤ 1000 by omega)
    clear h1 h2 hpt hln HQ
    go_wp2_with fail
    refine (glob_Pattern_Match.calls g _ p v rs ps t w1 HPT.out HLN.out HT.out).mono ?_
    rintro e w2 ⟨rfl, m, rfl⟩
    go_wp2
    go_ret2
    exact ⟨rfl, HM.out.drewN m⟩

/-! ### gonglaw13_works: function 17 -/
set_option maxHeartbeats 1600000 in
set_option maxRecDepth 100000 in
theorem gonglaw13_works.calls (w : World) :
    Calls Try.prog 17 #[] w fun e w' => e = .returned (.bool true) ∧ Mv (fun _ => False) w w' := by
  go_enter Try.func17, Try.ntmps17
  go_wp2_with fail
  refine (glob_Match.calls _ _ w (by decide)).mono ?_
  rintro e w1 ⟨rfl, hm1⟩
  have HM1 := Aside0.mk hm1
  clear hm1
  rw [GlobS.works1]
  go_wp2_with fail
  refine (glob_Match.calls _ _ w1 (by decide)).mono ?_
  rintro e w2 ⟨rfl, hm2⟩
  have HM2 := Aside0.mk (HM1.out.trans hm2 (fun _ _ h => h))
  clear hm2 HM1
  rw [GlobS.works2]
  go_wp2
  go_ret
  exact ⟨rfl, HM2.out⟩

/-! ### strings_IndexByte: function 51 -/

-- NOT PRINTED: function 96 (abi_NoEscape)

/-! ### strings_Builder_copyCheck: function 79 -/
theorem bld_size : (Try.prog.info? 93).map (fun j => (j, decide (j.size ≠ 0))) = (Try.prog.info? 93).map (fun j => (j, true)) := by kernel_rfl
set_option maxHeartbeats 1600000 in
set_option maxRecDepth 100000 in
/-- copyCheck at a builder that lies at offset o of a block. -/
theorem bld_copyCheck (b o n : Nat) (T : TypeId) (cs : Array Value) (p : Value) (w : World) (hp : p = .pointer none ∨ p = .pointer (some ⟨b, o, none⟩))
    (hb : w.heap[b]? = some (.cells cs T (0, 0))) (hn : cs.size = n) (h0 : cs[o]? = some p) (hl : liesAt Try.prog Try.prog.depth T (n / Try.prog.cellsOf T) o 93 1 = true) :
    Calls Try.prog 79 #[.pointer (some ⟨b, o, none⟩)] w fun e w' => e = .returned (.tuple #[]) ∧ w'.heap[b]? = some (.cells (cs.setIfInBounds o (.pointer (some ⟨b, o, none⟩))) T (0, 0)) ∧ Mv (fun k => k = b) w w' := by
  obtain ⟨j, hj⟩ : ∃ j, Try.prog.info? 93 = some j := Option.isSome_iff_exists.mp (by kernel_rfl)
  have hjs : j.size ≠ 0 := by
    have h := bld_size
    rw [hj] at h
    simpa using h
  have hc : w.cell? ⟨b, o, none⟩ = some p := (blk_cell hb o).trans h0
  have hf : w.frozen? ⟨b, o, none⟩ = false := blk_frozen hb o
  have ho : o < n := by rw [← hn]; exact (Array.getElem?_eq_some_iff.1 h0).1
  have hsh : w.shape? b = some (T, n) := by simp [World.shape?, hb, hn]
  have hI := Aside0.mk hj
  have hS := Aside0.mk hjs
  have hSH := Aside0.mk hsh
  have hB := Aside0.mk hb
  have hN := Aside0.mk hn
  have hO := Aside0.mk ho
  have hC := Aside0.mk h0
  clear hj hjs hsh hb hn ho h0
  rcases hp with rfl | rfl
  · go_enter Try.func79, Try.ntmps79
    go_wp2
    rw [Lib.run_to_unsafe w ⟨b, o, none⟩ Try.underlying90 Try.underlying146 hI.out hS.out hSH.out hO.out]
    simp only [Result.andThen]
    rw [Oper.upon_value]
    go_wp2
    rw [run_callFunc_extern Try.func96 (by kernel_rfl) (by kernel_rfl) (by kernel_rfl) (e := Extern.AbiNoEscape.same) (by kernel_rfl)]
    rw [Lib.run_noEscape]
    simp only [Result.andThen]
    rw [Oper.upon_value]
    go_wp2
    rw [Lib.run_from_unsafe w ⟨b, o, none⟩ Try.underlying146 Try.underlying90 hI.out hSH.out hl]
    simp only [Result.andThen]
    rw [Oper.upon_value]
    go_wp2
    go_end0
    exact ⟨rfl, blk_set hB.out o _, Mv.setCell (S := fun k => k = b) (Mv.refl _ w) rfl o _⟩
  · go_enter Try.func79, Try.ntmps79
    go_wp2
    rw [Lib.run_neq_ptr_same w _ Try.underlying90 hI.out]
    go_wp2
    go_end0
    refine ⟨rfl, ?_, Mv.refl _ w⟩
    rw [hB.out, set_same hC.out]
/-- A builder in a block of its own: it has been told l. -/
structure Bl (w : World) (B b : Nat) (v : Value) (l : List UInt8) : Prop where
  blk : ∃ p : Value, (p = .pointer none ∨ p = .pointer (some ⟨b, 0, none⟩)) ∧ w.heap[b]? = some (.cells #[p, v] 93 (0, 0))
  row : BRow w B 5 v l
  ge : B ≤ b
theorem Bl.ne {w : World} {B b : Nat} {v : Value} {l : List UInt8} (h : Bl w B b v l) : v.ownBlock ≠ some b := by
  obtain ⟨p, _, hb⟩ := h.blk
  exact owns_ne h.row hb (by decide)
theorem Bl.lt {w : World} {B b : Nat} {v : Value} {l : List UInt8} (h : Bl w B b v l) : b < w.heap.size := by
  obtain ⟨p, _, hb⟩ := h.blk
  exact (Array.getElem?_eq_some_iff.1 hb).1
theorem Bl.mv {w w' : World} {B b : Nat} {v : Value} {l : List UInt8} {S : Nat → Prop} (h : Bl w B b v l) (hm : Mv S w w') (h1 : ¬ S b) (h2 : ∀ k, v.ownBlock = some k → ¬ S k) : Bl w' B b v l := by
  obtain ⟨p, hp, hb⟩ := h.blk
  exact ⟨⟨p, hp, hm.heap hb h1⟩, h.row.mv hm h2, h.ge⟩
/-- What is made behind it, or below it. -/
theorem Bl.keep {w w' : World} {B b : Nat} {v : Value} {l : List UInt8} (h : Bl w B b v l) (hb : Below w.heap.size w w') : Bl w' B b v l :=
  h.mv (Mv.of_below (S := fun _ => False) hb) id (fun _ _ => id)
theorem Bl.new (w : World) (B : Nat) (hB : B ≤ w.heap.size) : Bl (w.alloc (.cells #[.pointer none, .slice none 0 0] 93)) B w.heap.size (.slice none 0 0) [] :=
  ⟨⟨_, .inl rfl, heap_alloc_new w _⟩, BRow.nil _ _ _, hB⟩

/-! ### strings_Builder_WriteByte: function 52 -/
theorem bld_u8b : (Try.prog.info? 5).map (fun i => (i.zero, i.size, i.bytes)) = some (some (.int .u8 0), 1, 1) := by kernel_rfl
set_option maxHeartbeats 1600000 in
set_option maxRecDepth 100000 in
theorem bld_WriteByte (B b o n : Nat) (T : TypeId) (cs : Array Value) (p v : Value) (l : List UInt8) (c0 : UInt8) (w : World) (hp : p = .pointer none ∨ p = .pointer (some ⟨b, o, none⟩))
    (hb : w.heap[b]? = some (.cells cs T (0, 0))) (hn : cs.size = n) (h0 : cs[o]? = some p) (h1 : cs[o + 1]? = some v) (hl : liesAt Try.prog Try.prog.depth T (n / Try.prog.cellsOf T) o 93 1 = true)
    (hT : 5 ≠ T) (hr : BRow w B 5 v l) (hlen : l.length + 1 ≤ 140737488355328) (hBw : B ≤ w.heap.size) :
    Calls Try.prog 52 #[.pointer (some ⟨b, o, none⟩), .int .u8 c0.toNat] w fun e w' => e = .returned .nilIface ∧ ∃ v', w'.heap[b]? = some (.cells ((cs.setIfInBounds o (.pointer (some ⟨b, o, none⟩))).setIfInBounds (o + 1) v') T (0, 0)) ∧ BRow w' B 5 v' (l ++ [c0]) ∧ (∀ k, v'.ownBlock = some k → v.ownBlock = some k ∨ w.heap.size ≤ k) ∧ Mv (fun k => k = b ∨ v.ownBlock = some k) w w' := by
  obtain ⟨i0, hi, hz0, hz1, hz2⟩ := info_parts bld_u8b
  have hne := owns_ne hr hb hT
  have HR := Aside0.mk hr
  have HNE := Aside0.mk hne
  have H1 := Aside0.mk h1
  have HB0 := Aside0.mk (Array.getElem?_eq_some_iff.1 hb).1
  have HI := Aside0.mk hi
  have HZ0 := Aside0.mk hz0
  have HZ1 := Aside0.mk hz1
  have HZ2 := Aside0.mk hz2
  have HC := Aside0.mk (bld_copyCheck b o n T cs p w hp hb hn h0 hl)
  clear hb hn h0 hl hr hne h1 hi hz0 hz1 hz2 hp
  go_enter Try.func52, Try.ntmps52
  go_wp2_with fail
  refine HC.out.mono ?_
  rintro e w1 ⟨rfl, hb1, hm1⟩
  have hv1 : (cs.setIfInBounds o (.pointer (some ⟨b, o, none⟩)))[o + 1]? = some v := by
    rw [Array.getElem?_setIfInBounds_ne (by omega)]; exact H1.out
  have c1 := (blk_cell hb1 (o + 1)).trans hv1
  have HB1 := Aside0.mk hb1
  have HM1 := Aside0.mk hm1
  have HR1 := Aside0.mk (BRow.mv HR.out hm1 (fun k hk e => HNE.out (by rw [hk, e])))
  obtain ⟨A, c, rfl⟩ := BRow.slice HR.out
  clear hb1 hm1 hv1
  go_wp2_with (at_builtin; refine wpList_append_byte _ rfl _ _ 91 rfl B 5 i0 Try.underlying91 HI.out HZ0.out HZ1.out HZ2.out _ l rfl (BRow.alloc HR1.out _) ⟨w1.heap.size, 0, none⟩ 1 c0 rfl (by simp) (by omega) (by have := HM1.out.size; simp; omega) ?_)
  intro v' w2 hr2 hg2 hk2
  have hb2 := Aside0.mk (blk_grown (blk_alloc HB1.out _) hg2 (fun e => HNE.out e.symm))
  have d1 := (blk_cell hb2.out (o + 1))
  have f1 := blk_frozen hb2.out (o + 1)
  have HR2 := Aside0.mk hr2
  have HG2 := Aside0.mk hg2
  have HK2 := Aside0.mk hk2
  obtain ⟨A', c', rfl⟩ := BRow.slice hr2
  rw [Array.getElem?_setIfInBounds_ne (by omega), H1.out] at d1
  clear hr2 hg2 hk2
  go_wp2
  go_ret
  have hlen2 : (l ++ [c0]).length = l.length + 1 := by simp
  rw [hlen2] at HR2 HK2
  have hmv : Mv (fun k => k = b ∨ (Value.slice A l.length c).ownBlock = some k) w w2 := ((HM1.out.mono (fun k _ h => .inl h)).alloc _).grown HG2.out (fun k hk _ => .inr hk)
  refine ⟨rfl, _, blk_set hb2.out (o + 1) _, ?_, ?_, Mv.setCell (S := fun k => k = b ∨ (Value.slice A l.length c).ownBlock = some k) hmv (.inl rfl) _ _⟩
  · refine BRow.mv HR2.out (Mv.setCell (S := fun k => k = b) (Mv.refl _ w2) rfl _ _) (fun k hk e => ?_)
    rcases HK2.out k hk with h | h
    · exact HNE.out (by rw [h, e])
    · have := HM1.out.size
      have := HB0.out
      try simp at h
      omega
  · intro k hk
    rcases HK2.out k hk with h | h
    · exact .inl h
    · exact .inr (by have := HM1.out.size; (try simp at h); omega)
theorem Bl.writeByte {B b : Nat} {v : Value} {l : List UInt8} {w : World} (h : Bl w B b v l) (c : UInt8) (hlen : l.length + 1 ≤ 140737488355328) :
    Calls Try.prog 52 #[.pointer (some ⟨b, 0, none⟩), .int .u8 c.toNat] w fun e w' => e = .returned .nilIface ∧ ∃ v', Bl w' B b v' (l ++ [c]) ∧ (∀ k, v'.ownBlock = some k → v.ownBlock = some k ∨ w.heap.size ≤ k) ∧ Mv (fun k => k = b ∨ v.ownBlock = some k) w w' := by
  obtain ⟨p, hp, hb⟩ := h.blk
  refine (bld_WriteByte B b 0 2 93 #[p, v] p v l c w hp hb rfl rfl rfl (by kernel_rfl) (by decide) h.row hlen (Nat.le_of_lt (Nat.lt_of_le_of_lt h.ge h.lt))).mono ?_
  rintro e w' ⟨rfl, v', hb', hr', ho', hm'⟩
  exact ⟨rfl, v', ⟨⟨_, .inr rfl, hb'⟩, hr', h.ge⟩, ho', hm'⟩

/-! ### strings_Builder_String: function 53 -/
set_option maxHeartbeats 1600000 in
set_option maxRecDepth 100000 in
theorem bld_String_some (B b o : Nat) (T : TypeId) (cs : Array Value) (v : Value) (l : List UInt8) (w : World)
    (hb : w.heap[b]? = some (.cells cs T (0, 0))) (h1 : cs[o + 1]? = some v) (hr : BRow w B 5 v l) (h0 : l ≠ []) :
    Calls Try.prog 53 #[.pointer (some ⟨b, o, none⟩)] w fun e w' => e = .returned (.string ⟨l.toArray⟩) ∧ Mv (fun k => v.ownBlock = some k) w w' := by
  have hl0 : l.length ≠ 0 := by simpa using h0
  obtain ⟨g, cap, cur, rfl, hbg, hg, hnc, hcm, hcs, htake⟩ : ∃ g cap cur, v = .slice (some ⟨g, 0, none⟩) l.length cap ∧ B ≤ g ∧ w.heap[g]? = some (.cells cur 5 (0, 0)) ∧ l.length ≤ cap ∧ cap ≤ maxLen ∧ cur.size = cap * 1 ∧ cur.toList.take (l.length * 1) = l.map fun b => Value.int .u8 b.toNat := by
    rcases hr.2 with ⟨_, hz⟩ | ⟨g, cap, cur, hv, r⟩
    · exact absurd hz hl0
    · exact ⟨g, cap, cur, hv, r⟩
  have c1 : w.drew.cell? ⟨b, o + 1, none⟩ = some (.slice (some ⟨g, 0, none⟩) l.length cap) := (blk_cell (w := w.drew) hb (o + 1)).trans h1
  have hSD : (Builtin.unsafeSliceData_ #[91] 128 #[.slice (some ⟨g, 0, none⟩) l.length cap]).run Try.prog w.drew = .ok (.pointer (some ⟨g, 0, none⟩)) w.drew :=
    Lib.run_unsafeSliceData_row _ _ _ _ _ _ (by omega)
  have hUS : (Builtin.unsafeString_ #[128, 3] 9 #[.pointer (some ⟨g, 0, none⟩), .int .i64 l.length]).run Try.prog w.drew = .ok (.string ⟨l.toArray⟩) (w.drew.freeze ⟨g, 0, none⟩ l.length) := by
    refine Lib.run_unsafeString_row w.drew 128 3 9 5 Try.underlying128 (by kernel_rfl) g cur.size (by have hg' : w.drew.heap[g]? = some (.cells cur 5 (0, 0)) := hg; simp [World.shape?, hg']) l h0 (by omega) (by unfold maxLen at hcm; omega) ?_
    intro j x hx
    have := World.ownsRow.cells hr (g := g) rfl j (.int .u8 x.toNat) (by simp [hx])
    exact this
  have HG := Aside0.mk hg
  clear hb h1 hr h0 hl0 hbg hg hnc hcm hcs htake
  have u1 := Try.underlying93
  have u2 := Try.underlying90
  go_enter Try.func53, Try.ntmps53
  go_wp2
  go_region
  all_goals (go_wp2; go_ret; exact ⟨rfl, Mv.freeze (Mv.drew (Mv.refl _ w)) (by show Value.ownBlock _ = some _; rfl) _⟩)

set_option maxHeartbeats 1600000 in
set_option maxRecDepth 100000 in
theorem bld_String_none (B b o : Nat) (T : TypeId) (cs : Array Value) (v : Value) (w : World)
    (hb : w.heap[b]? = some (.cells cs T (0, 0))) (h1 : cs[o + 1]? = some v) (hr : BRow w B 5 v []) :
    Calls Try.prog 53 #[.pointer (some ⟨b, o, none⟩)] w fun e w' => e = .returned (.string ⟨#[]⟩) ∧ Mv (fun k => v.ownBlock = some k) w w' := by
  have hUS : ∀ W : World, ∀ q : Option Addr, (Builtin.unsafeString_ #[128, 3] 9 #[.pointer q, .int .i64 0]).run Try.prog W = .ok (.string .empty) W := fun W q => Lib.run_unsafeString_none W _ _ _ q
  have u1 := Try.underlying93
  have u2 := Try.underlying90
  have hlt : b < w.heap.size := (Array.getElem?_eq_some_iff.1 hb).1
  rcases hr.2 with ⟨rfl, _⟩ | ⟨g, cap, cur, rfl, hbg, hg, _, _, _, _⟩
  · have c1 : w.drew.cell? ⟨b, o + 1, none⟩ = some (.slice none 0 0) := (blk_cell (w := w.drew) hb (o + 1)).trans h1
    have hSD : (Builtin.unsafeSliceData_ #[91] 128 #[.slice none 0 0]).run Try.prog w.drew = .ok (.pointer none) w.drew := rfl
    clear hb h1 hr hlt
    go_enter Try.func53, Try.ntmps53
    go_wp2
    go_region
    all_goals (go_wp2; go_ret; exact ⟨rfl, Mv.drew (Mv.refl _ w)⟩)
  · by_cases hc0 : cap = 0
    · subst hc0
      have hSD : (Builtin.unsafeSliceData_ #[91] 128 #[.slice (some ⟨g, 0, none⟩) 0 0]).run Try.prog w.drew = .ok (.pointer (some ⟨w.drew.heap.size, 0, none⟩)) (w.drew.alloc (.view ⟨g, 0, none⟩ 5)) :=
        Lib.run_unsafeSliceData_zero w.drew _ _ 5 Try.underlying128 ⟨g, 0, none⟩ 0 (5, cur.size) (by have hg' : w.drew.heap[g]? = some (.cells cur 5 (0, 0)) := hg; simp [World.shape?, hg'])
      have c0 : w.cell? ⟨b, o + 1, none⟩ = some (.slice (some ⟨g, 0, none⟩) 0 0) := (blk_cell hb (o + 1)).trans h1
      have c1 : w.drew.cell? ⟨b, o + 1, none⟩ = some (.slice (some ⟨g, 0, none⟩) 0 0) := c0
      have c2 : (w.drew.alloc (.view ⟨g, 0, none⟩ 5)).cell? ⟨b, o + 1, none⟩ = some (.slice (some ⟨g, 0, none⟩) 0 0) :=
        (blk_cell (w := w.drew.alloc (.view ⟨g, 0, none⟩ 5)) (blk_alloc (w := w.drew) hb _) (o + 1)).trans h1
      have c3 : (w.alloc (.view ⟨g, 0, none⟩ 5)).drew.cell? ⟨b, o + 1, none⟩ = some (.slice (some ⟨g, 0, none⟩) 0 0) := c2
      clear hb h1 hr hlt hg
      go_enter Try.func53, Try.ntmps53
      go_wp2
      go_region
      all_goals (go_wp2; go_ret; exact ⟨rfl, by first | exact Mv.alloc (Mv.drew (Mv.refl _ w)) _ | exact Mv.drew (Mv.alloc (Mv.refl _ w) _)⟩)
    · have c1 : w.drew.cell? ⟨b, o + 1, none⟩ = some (.slice (some ⟨g, 0, none⟩) 0 cap) := (blk_cell (w := w.drew) hb (o + 1)).trans h1
      have hSD : (Builtin.unsafeSliceData_ #[91] 128 #[.slice (some ⟨g, 0, none⟩) 0 cap]).run Try.prog w.drew = .ok (.pointer (some ⟨g, 0, none⟩)) w.drew :=
        Lib.run_unsafeSliceData_row _ _ _ _ _ _ hc0
      clear hb h1 hr hlt hg hc0
      go_enter Try.func53, Try.ntmps53
      go_wp2
      go_region
      all_goals (go_wp2; go_ret; exact ⟨rfl, Mv.drew (Mv.refl _ w)⟩)
theorem bld_String (B b o : Nat) (T : TypeId) (cs : Array Value) (v : Value) (l : List UInt8) (w : World)
    (hb : w.heap[b]? = some (.cells cs T (0, 0))) (h1 : cs[o + 1]? = some v) (hr : BRow w B 5 v l) :
    Calls Try.prog 53 #[.pointer (some ⟨b, o, none⟩)] w fun e w' => e = .returned (.string ⟨l.toArray⟩) ∧ Mv (fun k => v.ownBlock = some k) w w' := by
  by_cases h0 : l = []
  · subst h0
    exact bld_String_none B b o T cs v w hb h1 hr
  · exact bld_String_some B b o T cs v l w hb h1 hr h0
theorem Bl.string {B b : Nat} {v : Value} {l : List UInt8} {w : World} (h : Bl w B b v l) :
    Calls Try.prog 53 #[.pointer (some ⟨b, 0, none⟩)] w fun e w' => e = .returned (.string ⟨l.toArray⟩) ∧ Mv (fun k => v.ownBlock = some k) w w' := by
  obtain ⟨p, hp, hb⟩ := h.blk
  exact bld_String B b 0 93 #[p, v] v l w hb rfl h.row

end Go.Proofs.Yteidlffajcogcaa.XGlS
