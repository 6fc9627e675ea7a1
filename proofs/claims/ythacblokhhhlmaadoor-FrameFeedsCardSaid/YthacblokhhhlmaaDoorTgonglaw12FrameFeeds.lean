import Derived.Test.YthacblokhhhlmaaDoorXFfx
import Derived.Test.YthacblokhhhlmaaDoorFrmBoth
namespace Go.Proofs.YthacblokhhhlmaaDoor.XFf
open Go.RowKit Gong Go.Proofs.YthacblokhhhlmaaDoorW.PrintWords Go.Proofs.YthacblokhhhlmaaDoorW.PrintLast Go.Proofs.YthacblokhhhlmaaDoorW.PrintMore
attribute [local go_sem] max2_int min2_int max_two min_two max_three min_three max_four min_four
set_option linter.unusedVariables false
set_option linter.unusedSimpArgs false
/-- A row appended to nothing: a row of its own. -/
theorem run_append_copy {P : Program} (w : World) (t ty e : TypeId) (i : TypeInfo) (ht : P.underlying t = some (.slice e)) (hi : P.info? e = some i) (hz : i.zero = some (.int .u8 0)) (hsize : i.size = 1) (hby : i.bytes = 1)
    (B : Nat) (A : Option Addr) (c : Nat) (l : List UInt8) (h : BRow w B e (.slice A l.length c) l) (hl : l.length ≤ 140737488355328) :
    ∃ v' w', (Builtin.append_ #[t, t] ty #[.slice none 0 0, .slice A l.length c]).run P w = .ok v' w' ∧ BRow w' w.heap.size e v' l ∧ w.grownBy w' none ∧ (∀ k, v'.ownBlock = some k → k = w.heap.size) := by
  rcases A with _ | ad
  · have hm : l.length = 0 := by
      rcases h.2 with ⟨_, h0⟩ | ⟨g, cap, cur, h0, _⟩
      · exact h0
      · injection h0 with h0; cases h0
    have hn : l = [] := List.eq_nil_of_length_eq_zero hm
    subst hn
    refine ⟨.slice none 0 0, w, ?_, BRow.nil _ _ _, World.grownBy.refl w _, fun k hk => by simp [Value.ownBlock] at hk⟩
    simp [Builtin.append_, run_underlying ht, sizeOf, typeInfo, hi, Builtin.lenOf, Builtin.firstCells]
  · have hg : ∃ g, ad = ⟨g, 0, none⟩ := by
      rcases h.2 with ⟨h0, _⟩ | ⟨g, cap, cur, h0, _⟩
      · injection h0 with h0; cases h0
      · injection h0 with h0 _ _; injection h0 with h0; exact ⟨g, h0⟩
    obtain ⟨g, rfl⟩ := hg
    have holds : ∀ j u, (l.map fun b => Value.int .u8 b.toNat)[j]? = some u → w.cell? ((⟨g, 0, none⟩ : Addr).add j) = some u := World.ownsRow.cells h (g := g) rfl
    obtain ⟨v', w', h1, h2, h3, h4, h5⟩ := run_append_own_at (P := P) w w.heap.size t ty e i (.int .u8 0) 1 1 ht hi hz hsize hby rfl (by decide) (.slice none 0 0) 0 [] ⟨by simp, .inl ⟨rfl, rfl⟩⟩ ⟨g, 0, none⟩ l.length c _ (by simp) holds
      (fun u hu => by obtain ⟨b, _, rfl⟩ := List.mem_map.1 hu; rfl) (by unfold maxLen; omega) (by omega) (Nat.le_refl _)
    refine ⟨v', w', h1, ?_, h3, fun k hk => ?_⟩
    · rw [Nat.zero_add, List.nil_append] at h2; exact h2
    · rcases h5 with h5 | h5 <;> rw [h5] at hk
      · simp [Value.ownBlock] at hk
      · exact (Option.some.inj hk).symm
theorem wpList_append_copy {P : Program} {w : World} {ops : Array Oper} {rest : List Oper} {o : Oper} {a : Act} {Q : Exit → Act → World → Prop} (hgd : o.guard = none) (s x : Operand) (t : TypeId)
    (ho : o.op = .call { callee := .builtin .append, args := #[s, x], argTypes := #[t, t] }) (e : TypeId) (i : TypeInfo) (ht : P.underlying t = some (.slice e)) (hi : P.info? e = some i) (hz : i.zero = some (.int .u8 0)) (hsize : i.size = 1) (hby : i.bytes = 1)
    (hs : a.eval s = .slice none 0 0) (B : Nat) (A : Option Addr) (c : Nat) (l : List UInt8) (hx : a.eval x = .slice A l.length c) (h : BRow w B e (.slice A l.length c) l) (hl : l.length ≤ 140737488355328)
    (hk : ∀ v' w', BRow w' w.heap.size e v' l → w.grownBy w' none → (∀ k, v'.ownBlock = some k → k = w.heap.size) → wpList P ops Q rest (a.put o.dst v') w') : wpList P ops Q (o :: rest) a w := by
  refine wpList_plain hgd fun K hK => ?_
  obtain ⟨v', w', hr, h2, h3, h4⟩ := run_append_copy (P := P) w t o.type e i ht hi hz hsize hby B A c l h hl
  unfold Oper.wp execOp
  simp only [ho, resolve, invoke, builtin, Sem.run_bind, Sem.run_pure, Result.andThen_ok, List.map_toArray, List.map_cons, List.map_nil, hs, hx, hr]
  exact hK _ _ (hk v' w' h2 h3 h4)
set_option maxHeartbeats 1600000 in
set_option maxRecDepth 100000 in
theorem frame_Framer_Fork.calls (B g : Nat) (F : Fm) (bv : Value) (w : World) (hF : FmAt w B g F bv) (hl : F.body.length ≤ 140737488355328) :
    Calls Tryd.prog 9 #[.pointer (some ⟨g, 0, none⟩)] w fun e w' => ∃ bv' : Value, e = .returned (.pointer (some ⟨w.heap.size, 0, none⟩)) ∧ FmAt w' w.heap.size w.heap.size F bv' ∧ (∀ k, bv'.ownBlock = some k → w.heap.size < k) ∧ Mv (fun _ => False) w w' := by
  obtain ⟨A, c, hbv⟩ := BRow.slice hF.row
  subst hbv
  have HF := Aside0.mk hF
  have HL := Aside0.mk hl
  have hc0 := blk_cell hF.blk 0
  have hc1 := blk_cell hF.blk 1
  have hc2 := blk_cell hF.blk 2
  have hc3 := blk_cell hF.blk 3
  have hc4 := blk_cell hF.blk 4
  have hc5 := blk_cell hF.blk 5
  have ha : ∀ o : Obj, (w.alloc o).cell? ⟨g, 4, none⟩ = some (.slice A F.body.length c) := fun o => (blk_cell (HF.out.mv ((Mv.refl (fun _ => False) w).alloc o) id (fun _ _ => id)).blk 4).trans rfl
  obtain ⟨i0, hi, hz0, hz1, hz2⟩ := info_parts frm_u8
  have HI := Aside0.mk hi
  have HZ0 := Aside0.mk hz0
  have HZ1 := Aside0.mk hz1
  have HZ2 := Aside0.mk hz2
  clear hF hl hi hz0 hz1 hz2
  go_enter Tryd.func9, Tryd.ntmps9
  go_wp2_with (at_builtin; refine wpList_append_copy rfl _ _ _ rfl 5 i0 Tryd.underlying43 HI.out HZ0.out HZ1.out HZ2.out rfl B A c F.body rfl ?_ HL.out ?_)
  · exact HF.out.row.alloc _
  · intro v1 w1 hrow hg hown
    obtain ⟨A2, c2, rfl⟩ := BRow.slice hrow
    have hb1 := (hg.block w.heap.size (by simp) (by simp)).trans (heap_alloc_new w _)
    have hc6 := blk_cell hb1 4
    have hf6 := blk_frozen hb1 4
    have HB1 := Aside0.mk hb1
    have HR1 := Aside0.mk hrow
    have HO1 := Aside0.mk (show ∀ k, (Value.slice A2 F.body.length c2).ownBlock = some k → w.heap.size < k from fun k hk => by have := hown k hk; omega)
    have HM1 := Aside0.mk ((((Mv.refl (fun _ => False) w).alloc (.cells #[.int .i64 F.most, .int .i64 F.state, .int .i64 F.number, .int .i64 F.digits, .slice A F.body.length c, .int .i64 F.dropped] 45)).grown hg (fun k hk => by cases hk)))
    clear hb1 hrow hown hg
    go_wp2
    go_ret
    refine ⟨_, rfl, ⟨blk_put HB1.out 4 _ rfl, ?_, Nat.le_refl _⟩, HO1.out, HM1.out.setNew (Nat.le_refl _) _ _⟩
    have h := HR1.out.mv ((Mv.refl (fun k => k = w.heap.size) w1).setCell rfl 4 (.slice A2 F.body.length c2)) (fun k hk e => by have := HO1.out k hk; omega)
    exact own_weaken h (by simp)
theorem FmAt.drewN {w : World} {B g : Nat} {F : Fm} {bv : Value} (h : FmAt w B g F bv) (n : Nat) : FmAt (w.drewN n) B g F bv := ⟨h.blk, h.row, h.ge⟩
set_option maxHeartbeats 1600000 in
set_option maxRecDepth 100000 in
theorem frame_Framer_Dead.quiet (B g : Nat) (F : Fm) (bv : Value) (w : World) (n : Nat) (hF : FmAt w B g F bv) :
    Calls Tryd.prog 18 #[.pointer (some ⟨g, 0, none⟩)] (w.drewN n) fun e w' => e = .returned (.bool (F.state == 3)) ∧ ∃ m, w' = w.drewN m := by
  refine Calls.quiet_of_same ?_
  have hc1 := blk_cell (hF.drewN n).blk 1
  clear hF
  generalize w.drewN n = w at *
  go_enter Tryd.func18, Tryd.ntmps18
  go_wp2
  go_ret
  exact ⟨rfl, rfl⟩
set_option maxHeartbeats 1600000 in
set_option maxRecDepth 100000 in
theorem frame_Framer_Dropped.quiet (B g : Nat) (F : Fm) (bv : Value) (w : World) (n : Nat) (hF : FmAt w B g F bv) :
    Calls Tryd.prog 19 #[.pointer (some ⟨g, 0, none⟩)] (w.drewN n) fun e w' => e = .returned (.int .i64 F.dropped) ∧ ∃ m, w' = w.drewN m := by
  refine Calls.quiet_of_same ?_
  have hc1 := blk_cell (hF.drewN n).blk 5
  clear hF
  generalize w.drewN n = w at *
  go_enter Tryd.func19, Tryd.ntmps19
  go_wp2
  go_ret
  exact ⟨rfl, rfl⟩
set_option maxHeartbeats 1600000 in
set_option maxRecDepth 100000 in
theorem frame_Framer_Held.quiet (B g : Nat) (F : Fm) (bv : Value) (w : World) (n : Nat) (hF : FmAt w B g F bv) :
    Calls Tryd.prog 17 #[.pointer (some ⟨g, 0, none⟩)] (w.drewN n) fun e w' => e = .returned (.int .i64 F.held) ∧ ∃ m, w' = w.drewN m := by
  refine Calls.quiet_of ?_
  replace hF := hF.drewN n
  generalize w.drewN n = w at *
  obtain ⟨most, state, number, digits, body, dropped⟩ := F
  obtain ⟨A, c, rfl⟩ := BRow.slice hF.row
  have hc1 := blk_cell hF.blk 1
  have hc3 := blk_cell hF.blk 3
  have hc4 := blk_cell hF.blk 4
  clear hF
  unfold Fm.held
  simp only
  go_enter Tryd.func17, Tryd.ntmps17
  by_cases h1 : state = 1
  · subst h1
    rw [if_pos rfl]
    go_wp2
    go_ret
    exact ⟨rfl, 0, rfl⟩
  · rw [if_neg h1]
    have e1 : (state == 1) = false := beq_eq_false_iff_ne.mpr h1
    by_cases h2 : state = 2
    · subst h2
      rw [if_pos rfl]
      go_wp2
      (try go_region)
      all_goals
        (try go_wp2)
        go_ret
        exact ⟨rfl, by first | exact ⟨1, rfl⟩ | exact ⟨0, rfl⟩⟩
    · rw [if_neg h2]
      have e2 : (state == 2) = false := beq_eq_false_iff_ne.mpr h2
      go_wp2
      go_ret
      exact ⟨rfl, 0, rfl⟩
set_option maxHeartbeats 1600000 in
set_option maxRecDepth 100000 in
theorem gonglaw12_same.calls (B g Br gr : Nat) (F : Fm) (R : Rf) (bv : Value) (w : World) (hF : FmAt w B g F bv) (hR : RfAt w Br gr R) (h1 : (F.state == 3) = R.dead) (h2 : F.dropped = R.dropped) (h3 : F.held = (R.s.size : Int)) :
    Calls Tryd.prog 10 #[.pointer (some ⟨g, 0, none⟩), .pointer (some ⟨gr, 0, none⟩)] w fun e w' => e = .returned (.bool true) ∧ ∃ n, w' = w.drewN n := by
  have HF := Aside0.mk hF
  have HR := Aside0.mk hR
  have h1b : ((F.state == 3) == R.dead) = true := by rw [h1]; exact beq_self_eq_true _
  have h2b : (F.dropped == R.dropped) = true := by rw [h2]; exact beq_self_eq_true _
  have h3b : (F.held == (R.s.size : Int)) = true := by rw [h3]; exact beq_self_eq_true _
  have hc1 := blk_cell hR.blk 1
  have hc2 := blk_cell hR.blk 2
  have hc3 := blk_cell hR.blk 3
  clear hF hR h1 h2 h3
  go_enter Tryd.func10, Tryd.ntmps10
  go_wp2
  go_quiet ((first | (go_at_call 18; exact frame_Framer_Dead.quiet B g F bv w _ HF.out) | (go_at_call 19; exact frame_Framer_Dropped.quiet B g F bv w _ HF.out) | (go_at_call 17; exact frame_Framer_Held.quiet B g F bv w _ HF.out)))
  all_goals
    go_wp2
    go_ret
    exact ⟨rfl, _, rfl⟩
/-! The law. -/
structure S34 where
  f0 : ByteArray
  f1 : Bool
def z34 : S34 := ⟨(⟨#[]⟩ : ByteArray), false⟩
def k34 : Kd S34 := Kd.iso (Kd.pair Kd.string Kd.bool) (fun x : S34 => (x.f0, x.f1))
theorem k34_open {w : World} {x : S34} {cs : List Value} (h : k34.K w x cs) : cs = [.string x.f0, .bool x.f1] := by
  obtain ⟨_, _, rfl, rfl, rfl⟩ := h
  exact rfl
def rd_T34 (xs : List S34) (i : Int) : S34 := xs.getD i.toNat z34
theorem at_T34 {w : World} {A : Option Addr} {n : Nat} {xs : List S34} (h : Kd.C k34 w A n xs) (i : Int) (h0 : 0 ≤ i) (h1 : i < n) : ∃ ad , A = some ad ∧ w.cell? (ad.add (i.toNat * 2)) = some (.string (rd_T34 xs i).f0) ∧ w.cell? ⟨(ad.add (i.toNat * 2)).block, (ad.add (i.toNat * 2)).off + 1, none⟩ = some (.bool (rd_T34 xs i).f1) := by
  obtain ⟨ad, c, e, _, hK, hc0⟩ := Kd.C_get h z34 i h0 h1
  have hc : ∀ j u, c[j]? = some u → w.cell? (ad.add (i.toNat * 2 + j)) = some u := hc0
  obtain rfl := k34_open hK
  exact ⟨ad, e, hc 0 _ rfl, by rw [← add_field _ _ 1 (by omega)]; exact hc 1 _ rfl⟩
theorem FmAt.low {w : World} {B B' g : Nat} {F : Fm} {bv : Value} (h : FmAt w B g F bv) (hb : B' ≤ B) : FmAt w B' g F bv := ⟨h.blk, own_weaken h.row hb, Nat.le_trans hb h.ge⟩
theorem RfAt.low {w : World} {B B' g : Nat} {R : Rf} (h : RfAt w B g R) (hb : B' ≤ B) : RfAt w B' g R := ⟨h.blk, Nat.le_trans hb h.ge⟩
theorem RfAt.drewN {w : World} {B g : Nat} {R : Rf} (h : RfAt w B g R) (n : Nat) : RfAt (w.drewN n) B g R := ⟨h.blk, h.ge⟩
theorem fr_ne {w : World} {B B' g gr : Nat} {F : Fm} {bv : Value} {R : Rf} (h : FmAt w B g F bv) (k : RfAt w B' gr R) : gr ≠ g ∧ bv.ownBlock ≠ some gr := by
  refine ⟨fun e => ?_, owns_ne h.row k.blk (by decide)⟩
  have h1 := h.blk
  have h2 := k.blk
  rw [e, h1] at h2
  injection h2 with h2
  injection h2 with _ h2 _
  exact absurd h2 (by decide)
theorem Mv.of_keepBut {w0 w w' : World} {g : Nat} (h : KeepBut w w' g none) (b0 : Below w0.heap.size w0 w) (b1 : Below w0.heap.size w0 w') : Mv (fun k => k = g) w w' :=
  ⟨b1.os.trans b0.os.symm, b1.tape.trans b0.tape.symm, b1.output.trans b0.output.symm, h.1, fun k hk hs => h.2 k hk hs (by simp)⟩
theorem Mv.of_kept {w0 w w' : World} {S : Nat → Prop} (h : Kept w w' S) (b0 : Below w0.heap.size w0 w) (b1 : Below w0.heap.size w0 w') : Mv S w w' :=
  ⟨b1.os.trans b0.os.symm, b1.tape.trans b0.tape.symm, b1.output.trans b0.output.symm, h.1, fun k hk hs => h.2 k hk hs⟩
theorem R_own_ok {w : World} {base : Nat} {ok : Nat → Prop} {v : Value} {xs : List ByteArray} (h : Kd.R Kd.string 9 w base ok v xs) : Kd.R Kd.string 9 w base (fun k => v.ownBlock = some k) v xs :=
  ⟨fun _ hk => hk, h.2⟩
/-- A row of texts is no row of bytes. -/
theorem R_fm_ne {w : World} {base B g : Nat} {ok : Nat → Prop} {v bv : Value} {xs : List ByteArray} {F : Fm} (h : Kd.R Kd.string 9 w base ok v xs) (hF : FmAt w B g F bv) : v.ownBlock ≠ some g ∧ ∀ k, bv.ownBlock = some k → v.ownBlock ≠ some k := by
  obtain ⟨inner, ho⟩ := Kd.R_own h
  refine ⟨owns_ne ho hF.blk (by decide), fun k hk => ?_⟩
  obtain ⟨cells, hc⟩ := own_typed hF.row k hk
  exact owns_ne ho hc (by decide)
theorem R_rf_ne {w : World} {base B g : Nat} {ok : Nat → Prop} {v : Value} {xs : List ByteArray} {R : Rf} (h : Kd.R Kd.string 9 w base ok v xs) (hR : RfAt w B g R) : v.ownBlock ≠ some g := by
  obtain ⟨inner, ho⟩ := Kd.R_own h
  exact owns_ne ho hR.blk (by decide)
set_option maxHeartbeats 8000000 in
set_option maxRecDepth 100000 in
theorem gonglaw12_FrameFeeds.calls (a0 : Int) (A1 : Option Addr) (c1 : Nat) (l1 : List S34) (a2 : ByteArray) (w : World) (hG : Gl w) (hr1 : Kd.C k34 w A1 l1.length l1) (hc1 : l1.length ≤ c1) :
    Calls Tryd.prog 3 #[.int .i64 a0, .slice A1 l1.length c1, .string a2] w fun e w' => e = .returned (.bool true) ∧ Below w.heap.size w w' := by
  have HGl := Aside0.mk hG
  have HR1 := Aside0.mk hr1
  have HC1 := Aside0.mk hc1
  clear hG hr1 hc1
  go_enter Tryd.func3, Tryd.ntmps3
  by_cases hm : 1 ≤ a0 ∧ a0 ≤ 65535
  · obtain ⟨hm1, hm2⟩ := hm
    have HM := Aside0.mk (And.intro hm1 hm2)
    go_wp2_with fail
    refine (frame_New.ok a0 _ hm1 hm2).mono ?_
    rintro e w1 ⟨rfl, hF1, hv1⟩
    obtain ⟨g, hg⟩ : ∃ g, g = w.heap.size := ⟨_, rfl⟩
    have HF1 := Aside0.mk (show FmAt w1 w.heap.size g ⟨a0, 0, 0, 0, [], 0⟩ (.slice none 0 0) from by rw [hg]; exact hF1)
    have HB1 := Aside0.mk (Mv.below (B := w.heap.size) hv1 (Nat.le_refl _) (fun _ h => h.elim))
    rw [← hg]
    clear hg hF1 hv1
    go_wp2_with fail
    refine (gongref12_New.ok a0 _ hm1 hm2).mono ?_
    rintro e w2 ⟨rfl, hR2, hv2⟩
    obtain ⟨gr, hgr⟩ : ∃ g, g = w1.heap.size := ⟨_, rfl⟩
    have HB2 := Aside0.mk (Below.trans HB1.out (Mv.below (B := w.heap.size) hv2 HB1.out.size (fun _ h => h.elim)))
    have HF2 := Aside0.mk (HF1.out.mv hv2 id (fun _ _ => id))
    have HR2 := Aside0.mk (show RfAt w2 w.heap.size gr ⟨a0, ⟨#[]⟩, false, 0⟩ from by rw [hgr]; exact hR2.low HB1.out.size)
    rw [← hgr]
    clear hgr hR2 hv2 HF1 HB1 hm1 hm2
    go_upto_if 33 with (fail)
    go_cut [] (fun W => Aside0 (FmAt W w.heap.size g ⟨a0, 0, 0, 0, [], 0⟩ (.slice none 0 0)) ∧ Aside0 (RfAt W w.heap.size gr ⟨a0, ⟨#[]⟩, false, 0⟩) ∧ Aside0 (Below w.heap.size w W))
    case first =>
      by_cases c : (a2.size : Int) ≤ 70000
      · obtain ⟨r1, r2, hf1, hf2⟩ := FrmS.frames_eq a2 (by omega)
        have A1 := Aside0.mk (frame_Frame.calls a2 r1 r2 w2 (HGl.out.below HB2.out) hf1)
        clear hf1
        have A2 := Aside0.mk hf2
        clear hf2
        go_wp2_with fail
        refine A1.out.mono ?_
        rintro e w3 ⟨rfl, hb3⟩
        have HF3 := Aside0.mk (HF2.out.mv (Mv.of_below (S := fun _ => False) hb3) id (fun _ _ => id))
        have HR3 := Aside0.mk (HR2.out.mv (Mv.of_below (S := fun _ => False) hb3) id)
        have HB3 := Aside0.mk (Below.trans HB2.out (Below.mono hb3 HB2.out.size))
        clear hb3 A1 HF2 HR2 HB2
        go_wp2_with fail
        refine (gongref12_Frame.calls 20 a2 r1 r2 w3 A2.out).mono ?_
        rintro e w4 ⟨rfl, hb4⟩
        have HF4 := Aside0.mk (HF3.out.mv (Mv.of_below (S := fun _ => False) hb4) id (fun _ _ => id))
        have HR4 := Aside0.mk (HR3.out.mv (Mv.of_below (S := fun _ => False) hb4) id)
        have HB4 := Aside0.mk (Below.trans HB3.out (Below.mono hb4 HB3.out.size))
        clear hb4 A2 HF3 HR3 HB3
        go_wp2
        go_meet
        case rel => exact ⟨HF4, HR4, HB4⟩
      · go_wp2
        go_meet
        case rel => exact ⟨HF2, HR2, HB2⟩
    case rest =>
      obtain ⟨HF5, HR5, HB5⟩ := hcut
      clear HF2 HR2 HB2
      obtain ⟨wo, rfl⟩ : ∃ wo : World, wo = wc := ⟨_, rfl⟩
      go_wp2_with fail
      refine (gonglaw12_works.calls 0 true _ rfl).mono ?_
      rintro e w6 ⟨rfl, hb6⟩
      have HF6 := Aside0.mk (HF5.out.mv (Mv.of_below (S := fun _ => False) hb6) id (fun _ _ => id))
      have HR6 := Aside0.mk (HR5.out.mv (Mv.of_below (S := fun _ => False) hb6) id)
      have HB6 := Aside0.mk (Below.trans HB5.out (Below.mono hb6 HB5.out.size))
      clear hb6 HF5 HR5 HB5
      have HRel := Aside0.mk (FrmS.rel_new a0 HM.out.1 HM.out.2)
      go_wp2_with fail
      go_loopg [7, 15] 41 (fun kq v7 v15 W => ∃ (i : Int) (g1 : Nat) (F : Fm) (R : Rf) (bv : Value), v7 = .pointer (some ⟨g1, 0, none⟩) ∧ v15 = .int .i64 i ∧ Aside0 (0 ≤ i ∧ i ≤ 40 ∧ (kq : Int) + i = 41) ∧ Aside0 (FmAt W w.heap.size g1 F bv) ∧ Aside0 (RfAt W w.heap.size gr R) ∧ Aside0 (FrmS.Rel F R) ∧ Aside0 (Below w.heap.size w W))
      case atStart => exact ⟨0, g, _, _, _, rfl, rfl, ⟨by omega⟩, HF6, HR6, HRel, HB6⟩
      case round =>
        clear HF6 HR6 HB6 HRel
        obtain ⟨i, g1, F, R, bv, rfl, rfl, HI, HF, HR, HRel, HB⟩ := hrel
        by_cases c1 : i < (l1.length : Int) ∧ i < 40
        · obtain ⟨c1, c2⟩ := c1
          obtain ⟨ki, rfl⟩ : ∃ ki, gk = ki + 1 := ⟨gk - 1, by have := HI.out; omega⟩
          obtain ⟨hi0, hi1, hi2⟩ := HI.out
          have HI := Aside0.mk (And.intro hi0 (And.intro c2 hi2))
          have e1 : decide (i < (l1.length : Int)) = true := decide_eq_true c1
          have e2 : decide (i < 40) = true := decide_eq_true c2
          obtain ⟨ad, e3, hx0, hx1⟩ := at_T34 HR1.out i hi0 c1
          subst e3
          have HX := Aside0.mk (show ∀ W, Below w.heap.size w W → W.cell? (ad.add (i.toNat * 2)) = some (.string (rd_T34 l1 i).f0) ∧ W.cell? ⟨(ad.add (i.toNat * 2)).block, (ad.add (i.toNat * 2)).off + 1, none⟩ = some (.bool (rd_T34 l1 i).f1) from fun W h => ⟨(h.cell (World.block_lt_of_cell? w _ hx0)).trans hx0, (h.cell (World.block_lt_of_cell? w _ hx1)).trans hx1⟩)
          clear hx0 hx1
          have c0' := eq_true hi0
          have c1' := eq_true c1
          have e8 : wrap64 (i + 1) = i + 1 := by have := HI.out; unfold wrap64; omega
          generalize hch : (rd_T34 l1 i).f0 = ch at HX
          generalize hfk : (rd_T34 l1 i).f1 = fk at HX
          clear hch hfk
          obtain ⟨hx0, hx1⟩ := HX.out wr HB.out
          have HE8 := Aside0.mk e8
          clear e8 hi0 hi1 hi2 c2
          by_cases c5 : (ch.size : Int) > 500
          · go_wp2
            go_roundg ki
            case measure => have := HI.out; omega
            case rel => exact ⟨i + 1, g1, F, R, bv, rfl, by rw [HE8.out], ⟨by have := HI.out; omega⟩, HF, HR, HRel, HB⟩
          · have HC5 := Aside0.mk (show ch.size ≤ 500 by omega)
            go_upto_if 93 with (fail)
            go_cut [7] (fun v7 W => ∃ (g2 : Nat) (bv2 : Value), v7 = .pointer (some ⟨g2, 0, none⟩) ∧ Aside0 (FmAt W w.heap.size g2 F bv2) ∧ Aside0 (RfAt W w.heap.size gr R) ∧ Aside0 (Below w.heap.size w W))
            case first =>
              cases fk with
              | false =>
                go_wp2
                go_meet
                case rel => exact ⟨g1, bv, rfl, HF, HR, HB⟩
              | true =>
                have AF := Aside0.mk (frame_Framer_Fork.calls w.heap.size g1 F bv wr HF.out (FrmS.body_small HRel.out.inv))
                clear hx0 hx1
                go_wp2_with fail
                refine AF.out.mono ?_
                rintro e w7 ⟨bv7, rfl, hF7, ho7, hm7⟩
                obtain ⟨gx, hgx⟩ : ∃ gx, gx = wr.heap.size := ⟨_, rfl⟩
                rw [← hgx] at hF7 ho7 ⊢
                have HGX := Aside0.mk (show w.heap.size ≤ gx ∧ g1 < gx ∧ ∀ k, bv.ownBlock = some k → k < gx from ⟨by rw [hgx]; exact HB.out.size, by rw [hgx]; exact HF.out.lt, fun k hk => by rw [hgx]; exact own_lt HF.out.row k hk⟩)
                have HX7 := Aside0.mk (hF7.low HGX.out.1)
                have HO7 := Aside0.mk ho7
                have HF7 := Aside0.mk (HF.out.mv hm7 id (fun _ _ => id))
                have HR7 := Aside0.mk (HR.out.mv hm7 id)
                have HB7 := Aside0.mk (Below.trans HB.out (Mv.below hm7 HB.out.size (fun _ h => h.elim)))
                clear hgx hF7 ho7 hm7 AF
                obtain ⟨q1, q2, q3⟩ := HRel.out.same
                have AS := Aside0.mk (gonglaw12_same.calls w.heap.size gx w.heap.size gr F R bv7 w7 HX7.out HR7.out q1 q2 q3)
                clear q1 q2 q3
                go_wp2_with fail
                refine AS.out.mono ?_
                rintro e w8 ⟨rfl, n8, hw8⟩
                have HX8 := Aside0.mk (show FmAt w8 w.heap.size gx F bv7 from by rw [hw8]; exact HX7.out.drewN n8)
                have HF8 := Aside0.mk (show FmAt w8 w.heap.size g1 F bv from by rw [hw8]; exact HF7.out.drewN n8)
                have HR8 := Aside0.mk (show RfAt w8 w.heap.size gr R from by rw [hw8]; exact HR7.out.drewN n8)
                have HB8 := Aside0.mk (show Below w.heap.size w w8 from by rw [hw8]; exact pw_below_drewN HB7.out n8)
                clear hw8 AS HX7 HF7 HR7 HB7
                obtain ⟨ms, en, Fn, Rn, hfeed, _, _, _, _⟩ := FrmS.feed_both HRel.out (⟨#[57, 32, 111, 116, 104, 101, 114]⟩ : ByteArray) (by decide) (FrmS.rs_small HRel.out) 1000000 (Nat.le_refl _)
                have AF := Aside0.mk (frame_Framer_Feed.calls 1000000 w.heap.size g1 F Fn bv _ ms en w8 HF8.out HB8.out.size hfeed)
                clear hfeed
                go_wp2_with fail
                refine AF.out.mono ?_
                rintro e w9 ⟨mv9, bv9, rfl, hr9, hF9, ho9, hm9⟩
                have HX9 := Aside0.mk (HX8.out.mv hm9 (fun h => h.elim (fun h => by have := HGX.out.2.1; omega) (fun h => by have := HGX.out.2.2 _ h; omega)) (fun k hk h => h.elim (fun h => by have := HGX.out.2.1; have := HO7.out k hk; omega) (fun h => by have := HGX.out.2.2 _ h; have := HO7.out k hk; omega)))
                have HR9 := Aside0.mk (HR8.out.mv hm9 (fun h => h.elim (fun h => (fr_ne HF8.out HR8.out).1 h) (fun h => (fr_ne HF8.out HR8.out).2 h)))
                have HB9 := Aside0.mk (Below.trans HB8.out (Mv.below hm9 HB8.out.size (fun k hk => hk.elim (fun h => by rw [h]; exact HF8.out.ge) (fun h => own_base HF8.out.row k h))))
                clear hr9 hF9 ho9 hm9 AF HX8 HF8 HR8 HB8
                go_wp2
                go_meet
                case rel => exact ⟨gx, bv7, rfl, HX9, HR9, HB9⟩
            case rest =>
              obtain ⟨g2, bv2, rfl, HF2, HR2, HB2⟩ := hcut
              obtain ⟨wo2, rfl⟩ : ∃ wo2 : World, wo2 = wc := ⟨_, rfl⟩
              clear hx0 hx1 HF HR HB
              obtain ⟨hx0, hx1⟩ := HX.out wo2 HB2.out
              clear hx1
              obtain ⟨ms, en, Fn, Rn, hfeed, hrfeed, hreln, hms, hmost⟩ := FrmS.feed_both HRel.out ch (by have := HC5.out; omega) (FrmS.rs_small HRel.out) 1000000 (Nat.le_refl _)
              have HREL := Aside0.mk hreln
              have HMS := Aside0.mk hms
              have HRF := Aside0.mk hrfeed
              have AF := Aside0.mk (frame_Framer_Feed.calls 1000000 w.heap.size g2 F Fn bv2 ch ms en wo2 HF2.out HB2.out.size hfeed)
              clear hfeed hreln hms hrfeed hmost HRel
              go_wp2_with fail
              refine AF.out.mono ?_
              rintro e w9 ⟨mv9, bv9, rfl, hr9, hF9, ho9, hm9⟩
              have HQ9 := Aside0.mk (Kd.R_lower hr9 HB2.out.size)
              have HS9 := Aside0.mk (show w.heap.size ≤ wo2.heap.size ∧ gr < wo2.heap.size from ⟨HB2.out.size, HR2.out.lt⟩)
              have HF9 := Aside0.mk hF9
              have HR9 := Aside0.mk (HR2.out.mv hm9 (fun h => h.elim (fun h => (fr_ne HF2.out HR2.out).1 h) (fun h => (fr_ne HF2.out HR2.out).2 h)))
              have HB9 := Aside0.mk (Below.trans HB2.out (Mv.below hm9 HB2.out.size (fun k hk => hk.elim (fun h => by rw [h]; exact HF2.out.ge) (fun h => own_base HF2.out.row k h))))
              clear hr9 hF9 ho9 hm9 AF HF2 HR2 HB2 hx0
              obtain ⟨hx0, hx1⟩ := HX.out w9 HB9.out
              clear hx1
              have AG := Aside0.mk (gongref12_Framer_Feed.calls 1000000 gr R.most R.s R.dead R.dropped ch ms en _ _ _ _ w w9 ⟨HR9.out.blk, HR9.out.ge⟩ HB9.out HRF.out)
              go_wp2_with fail
              refine AG.out.mono ?_
              rintro e w10 ⟨mv10, rfl, hr10, hR10, hB10, hk10⟩
              have hm10 := Mv.of_keepBut hk10 HB9.out hB10
              have HR10 := Aside0.mk (show RfAt w10 w.heap.size gr ⟨_, _, _, _⟩ from ⟨hR10.1, hR10.2⟩)
              have HF10 := Aside0.mk (HF9.out.mv hm10 (fun e => (fr_ne HF9.out HR9.out).1 e.symm) (fun k hk e => (fr_ne HF9.out HR9.out).2 (by rw [hk, e])))
              have HB10 := Aside0.mk hB10
              have HQ10 := Aside0.mk (Kd.R_step (R_own_ok HQ9.out) (fun k hk hlt => hm10.block k hlt (fun e => R_rf_ne HQ9.out HR9.out (by rw [hk, e]))))
              obtain ⟨P9, q9, rfl, hq9, hC9⟩ := Kd.R_reads HQ10.out
              obtain ⟨P10, q10, rfl, hq10, hC10⟩ := Kd.R_reads hr10
              have HC9 := Aside0.mk (And.intro hq9 hC9)
              have HC10 := Aside0.mk (And.intro hq10 hC10)
              clear hr10 hR10 hB10 hk10 hm10 AG HF9 HR9 HB9 HQ9 hx0 HX hq9 hC9 hq10 hC10
              have AE := Aside0.mk (gongbook_SameTexts.calls 2000 P9 q9 ms P10 q10 ms true w10 HC9.out.2 HC9.out.1 HC10.out.2 HC10.out.1 (FrmS.same_refl ms (by have := HMS.out; omega) 2000 (by have := HMS.out; omega)))
              go_wp2_with fail
              refine AE.out.mono ?_
              rintro e w11 ⟨rfl, n11, hw11⟩
              have HF11 := Aside0.mk (show FmAt w11 w.heap.size g2 Fn bv9 from by rw [hw11]; exact HF10.out.drewN n11)
              have HR11 := Aside0.mk (show RfAt w11 w.heap.size gr Rn from by rw [hw11]; exact HR10.out.drewN n11)
              have HB11 := Aside0.mk (show Below w.heap.size w w11 from by rw [hw11]; exact pw_below_drewN HB10.out n11)
              have HQ11 := Aside0.mk (show Kd.R Kd.string 9 w11 w.heap.size (fun k => (Value.slice P9 ms.length q9).ownBlock = some k) (.slice P9 ms.length q9) ms from by rw [hw11]; exact Kd.R_drewN HQ10.out n11)
              clear hw11 AE HF10 HR10 HB10 HQ10 HC9 HC10
              obtain ⟨q1, q2, q3⟩ := HREL.out.same
              have AS := Aside0.mk (gonglaw12_same.calls w.heap.size g2 w.heap.size gr Fn Rn bv9 w11 HF11.out HR11.out q1 q2 q3)
              clear q1 q2 q3
              go_wp2_with fail
              refine AS.out.mono ?_
              rintro e w12 ⟨rfl, n12, hw12⟩
              have HF12 := Aside0.mk (show FmAt w12 w.heap.size g2 Fn bv9 from by rw [hw12]; exact HF11.out.drewN n12)
              have HR12 := Aside0.mk (show RfAt w12 w.heap.size gr Rn from by rw [hw12]; exact HR11.out.drewN n12)
              have HB12 := Aside0.mk (show Below w.heap.size w w12 from by rw [hw12]; exact pw_below_drewN HB11.out n12)
              have HQ12 := Aside0.mk (show Kd.R Kd.string 9 w12 w.heap.size (fun k => (Value.slice P9 ms.length q9).ownBlock = some k) (.slice P9 ms.length q9) ms from by rw [hw12]; exact Kd.R_drewN HQ11.out n12)
              clear hw12 AS HF11 HR11 HB11 HQ11
              obtain ⟨sp, hsp⟩ := FrmS.spoil_eq ms HMS.out
              have AP := Aside0.mk (gongbook_SpoilTexts.calls 2000 _ _ ms sp w w12 HB12.out HQ12.out hsp)
              clear hsp
              go_wp2_with fail
              refine AP.out.mono ?_
              rintro e w13 ⟨rfl, hr13, hB13, hk13⟩
              have hm13 := Mv.of_kept hk13 HB12.out hB13
              have HF13 := Aside0.mk (HF12.out.mv hm13 (R_fm_ne HQ12.out HF12.out).1 (R_fm_ne HQ12.out HF12.out).2)
              have HR13 := Aside0.mk (HR12.out.mv hm13 (R_rf_ne HQ12.out HR12.out))
              have HB13 := Aside0.mk hB13
              clear hr13 hB13 hk13 hm13 AP HF12 HR12 HB12 HQ12
              go_wp2
              go_roundg ki
              case measure => have := HI.out; omega
              case rel => exact ⟨i + 1, g2, Fn, Rn, bv9, rfl, by rw [HE8.out], ⟨by have := HI.out; omega⟩, HF13, HR13, HREL, HB13⟩
        · have e3 : decide (i < (l1.length : Int) ∧ i < 40) = false := decide_eq_false c1
          by_cases c2 : i < (l1.length : Int)
          · have e1 : decide (i < (l1.length : Int)) = true := decide_eq_true c2
            have e2 : decide (i < 40) = false := decide_eq_false (fun h => c1 ⟨c2, h⟩)
            clear e3 c1 c2
            go_wp2
            go_ret
            exact ⟨rfl, HB.out⟩
          · have e1 : decide (i < (l1.length : Int)) = false := decide_eq_false c2
            clear e3 c1 c2
            go_wp2
            go_ret
            exact ⟨rfl, HB.out⟩
  · go_wp2_with fail
    refine (frame_New.bad a0 _ (by omega)).mono ?_
    rintro e w1 ⟨rfl, rfl⟩
    go_wp2_with fail
    refine (gongref12_New.bad a0 _ (by omega)).mono ?_
    rintro e w2 ⟨rfl, rfl⟩
    go_upto_if 33 with (fail)
    go_cut [] (fun W => Aside0 (Below w2.heap.size w2 W))
    case first =>
      by_cases c : (a2.size : Int) ≤ 70000
      · obtain ⟨r1, r2, hf1, hf2⟩ := FrmS.frames_eq a2 (by omega)
        have A1 := Aside0.mk (frame_Frame.calls a2 r1 r2 w2 HGl.out hf1)
        clear hf1
        have A2 := Aside0.mk hf2
        clear hf2
        go_wp2_with fail
        refine A1.out.mono ?_
        rintro e w3 ⟨rfl, hb3⟩
        have HB3 := Aside0.mk hb3
        clear hb3 A1
        go_wp2_with fail
        refine (gongref12_Frame.calls 20 a2 r1 r2 w3 A2.out).mono ?_
        rintro e w4 ⟨rfl, hb4⟩
        have HB4 := Aside0.mk (Below.trans HB3.out (Below.mono hb4 HB3.out.size))
        clear hb4 A2 HB3
        go_wp2
        go_meet
        case rel => exact HB4
      · go_wp2
        go_meet
        case rel => exact ⟨Below.refl _ _⟩
    case rest =>
      go_wp2_with fail
      refine (gonglaw12_works.calls 0 true _ rfl).mono ?_
      rintro e w6 ⟨rfl, hb6⟩
      have HB6 := Aside0.mk (Below.trans hcut.out (Below.mono hb6 hcut.out.size))
      clear hb6 hcut
      go_wp2_with fail
      go_loopg [15] 1 (fun kq v15 W => v15 = .int .i64 0 ∧ Aside0 (Below w2.heap.size w2 W))
      case atStart => exact ⟨rfl, HB6⟩
      case round =>
        clear HB6
        obtain ⟨rfl, HB⟩ := hrel
        go_wp2
        go_ret
        exact ⟨rfl, HB.out⟩

end Go.Proofs.YthacblokhhhlmaaDoor.XFf
