-- Laid by extprint.py (the session's own driver): functions told by the kit's printer and by hand.
import Derived.Test.YteidlffajcogcaaXFdx0
import Derived.Test.YteidlffajcogcaaXFdx1
namespace Go.Proofs.Yteidlffajcogcaa.XFd
open Go.RowKit Gong Go.Proofs.YteidlffajcogcaaW.PrintWords Go.Proofs.YteidlffajcogcaaW.PrintLast Go.Proofs.YteidlffajcogcaaW.PrintMore
attribute [local go_sem] max2_int min2_int max_two min_two max_three min_three max_four min_four   -- for this text's walks alone
set_option linter.unusedVariables false
set_option linter.unusedSimpArgs false

/-! ### bits_Mul: function 66 -/
def bits_Mul.f (a0 : Int) (a1 : Int) : Option (Int × Int) := (bits_Mul64.f a0 a1).bind fun bt103 => (some (bt103.1, bt103.2))
set_option maxHeartbeats 8000000 in
set_option maxRecDepth 100000 in
theorem bits_Mul.calls (a0 : Int) (a1 : Int) (r1 : Int) (r2 : Int) (w : World) (h : bits_Mul.f a0 a1 = some (r1, r2)) :
    Calls Try.prog 66 #[.int .u64 a0, .int .u64 a1] w fun e w' => e = .returned (.tuple #[.int .u64 r1, .int .u64 r2]) ∧ Drawn0 w w' := by
  have H : ((bits_Mul64.f a0 a1).bind fun bt103 => (some (bt103.1, bt103.2))) = some (r1, r2) := h
  clear h
  replace H := Option.bind_eq_some_iff.mp H
  obtain ⟨⟨t103, t104⟩, A30, H⟩ := H
  replace H : (some (t103, t104)) = some (r1, r2) := H
  have A3 := Aside0.mk A30
  clear A30
  simp only [Option.some.injEq, Prod.mk.injEq] at H
  obtain ⟨rfl, rfl⟩ := H
  go_enter Try.func66, Try.ntmps66
  go_wp2_with (first | ((with_reducible refine gate_callee (f := 85) rfl ?_); refine goesL_ (some 25) rfl rfl Try.func85 (by kernel_rfl) rfl #[.int .u64 a0, .int .u64 a1] rfl (by (try simp only [List.map_toArray, List.map_cons, List.map_nil]); first | done | rfl | (simp only [List.length_drop, List.length_take]; rfl)) ?_; (with_reducible refine (bits_Mul64.calls a0 a1 t103 t104 _ A3.out).mono ?_); rintro e w' ⟨rfl, ⟨nd, rfl⟩⟩; refine ⟨_, rfl, ?_⟩))
  go_ret2
  exact ⟨by first | rfl | (simp; done) | (simp [*]; done), by repeat (first | exact Drawn0.refl _ | apply Drawn0.step)⟩

/-! ### stringslite_HasPrefix: function 86 -/
def stringslite_HasPrefix.f (a0 : ByteArray) (a1 : ByteArray) : Option (Bool) := if (a0.size : Int) ≥ (a1.size : Int) then (if 0 ≤ (a1.size : Int) then (if (a1.size : Int) ≤ (a0.size : Int) then (some ((a0.extract 0 ((a1.size : Int) : Int).toNat).toList == a1.toList)) else (none)) else (none)) else (some false)
set_option maxHeartbeats 8000000 in
set_option maxRecDepth 100000 in
theorem stringslite_HasPrefix.calls (a0 : ByteArray) (a1 : ByteArray) (r : Bool) (w : World) (h : stringslite_HasPrefix.f a0 a1 = some r) :
    Calls Try.prog 86 #[.string a0, .string a1] w fun e w' => e = .returned (.bool r) ∧ Drawn0 w w' := by
  have H : (if (a0.size : Int) ≥ (a1.size : Int) then (if 0 ≤ (a1.size : Int) then (if (a1.size : Int) ≤ (a0.size : Int) then (some ((a0.extract 0 ((a1.size : Int) : Int).toNat).toList == a1.toList)) else (none)) else (none)) else (some false)) = some r := h
  clear h
  by_cases c3 : (a0.size : Int) ≥ (a1.size : Int)
  · rw [if_pos c3] at H
    have c3b0 : decide ((a1.size : Int) ≤ (a0.size : Int)) = true := decide_eq_true c3
    have c3b1 : decide (a1.size ≤ a0.size) = true := decide_eq_true (Int.ofNat_le.mp c3)
    clear c3
    by_cases c4 : 0 ≤ (a1.size : Int)
    · rw [if_pos c4] at H
      have c4b0 := eq_true c4
      have c4b1 : decide (0 ≤ (a1.size : Int)) = true := decide_eq_true c4
      clear c4
      by_cases c5 : (a1.size : Int) ≤ (a0.size : Int)
      · rw [if_pos c5] at H
        have c5b0 := eq_true c5
        have c5b1 : decide ((a1.size : Int) ≤ (a0.size : Int)) = true := decide_eq_true c5
        clear c5
        obtain rfl := Option.some.inj H
        go_enter Try.func86, Try.ntmps86
        go_wp2
        go_ret
        exact ⟨by first | rfl | (simp; done) | (simp [*]; done), by repeat (first | exact Drawn0.refl _ | apply Drawn0.step)⟩
      · rw [if_neg c5] at H
        exact absurd H (by simp)
    · rw [if_neg c4] at H
      exact absurd H (by simp)
  · rw [if_neg c3] at H
    have c3b0 : decide ((a1.size : Int) ≤ (a0.size : Int)) = false := decide_eq_false c3
    have c3b1 : decide (a1.size ≤ a0.size) = false := decide_eq_false (fun h => c3 (Int.ofNat_le.mpr h))
    clear c3
    obtain rfl := Option.some.inj H
    go_enter Try.func86, Try.ntmps86
    go_wp2
    go_ret
    exact ⟨by first | rfl | (simp; done) | (simp [*]; done), by repeat (first | exact Drawn0.refl _ | apply Drawn0.step)⟩

/-! ### strings_HasPrefix: function 67 -/
def strings_HasPrefix.f (a0 : ByteArray) (a1 : ByteArray) : Option (Bool) := (stringslite_HasPrefix.f a0 a1).bind fun t105 => (some t105)
set_option maxHeartbeats 8000000 in
set_option maxRecDepth 100000 in
theorem strings_HasPrefix.calls (a0 : ByteArray) (a1 : ByteArray) (r : Bool) (w : World) (h : strings_HasPrefix.f a0 a1 = some r) :
    Calls Try.prog 67 #[.string a0, .string a1] w fun e w' => e = .returned (.bool r) ∧ Drawn0 w w' := by
  have H : ((stringslite_HasPrefix.f a0 a1).bind fun t105 => (some t105)) = some r := h
  clear h
  replace H := Option.bind_eq_some_iff.mp H
  obtain ⟨t105, A30, H⟩ := H
  replace H : (some t105) = some r := H
  have A3 := Aside0.mk A30
  clear A30
  obtain rfl := Option.some.inj H
  go_enter Try.func67, Try.ntmps67
  go_wp2_with (first | ((with_reducible refine gate_callee (f := 86) rfl ?_); refine goesL_ (some 7) rfl rfl Try.func86 (by kernel_rfl) rfl #[.string a0, .string a1] rfl (by (try simp only [List.map_toArray, List.map_cons, List.map_nil]); first | done | rfl | (simp only [List.length_drop, List.length_take]; rfl)) ?_; (with_reducible refine (stringslite_HasPrefix.calls a0 a1 t105 _ A3.out).mono ?_); rintro e w' ⟨rfl, ⟨nd, rfl⟩⟩; refine ⟨_, rfl, ?_⟩))
  go_ret
  exact ⟨by first | rfl | (simp; done) | (simp [*]; done), by repeat (first | exact Drawn0.refl _ | apply Drawn0.step)⟩

-- NOT PRINTED: function 96 (abi_NoEscape)

/-! ### strings_Builder_copyCheck: function 79 -/
theorem bld_size : (Try.prog.info? 93).map (fun j => (j, decide (j.size ≠ 0))) = (Try.prog.info? 93).map (fun j => (j, true)) := by kernel_rfl
set_option maxHeartbeats 1600000 in
set_option maxRecDepth 100000 in
/-- copyCheck at a builder that lies at offset o of a block. -/
theorem bld_copyCheck (b o n : Nat) (T : TypeId) (cs : Array Value) (p : Value) (w : World) (hp : p = .pointer none ∨ p = .pointer (some ⟨b, o, none⟩))
    (hb : w.heap[b]? = some (.cells cs T (0, 0))) (hn : cs.size = n) (h0 : cs[o]? = some p) (hl : liesAt Try.prog Try.prog.depth T (n / Try.prog.cellsOf T) o 93 1 = true) :
    Calls Try.prog 79 #[.pointer (some ⟨b, o, none⟩)] w fun e w' => e = .returned (.tuple #[]) ∧ w'.heap[b]? = some (.cells (cs.setIfInBounds o (.pointer (some ⟨b, o, none⟩))) T (0, 0)) ∧ Mv (fun k => k = b) w w' := by
  obtain ⟨j, hj⟩ : ∃ j, Try.prog.info? 93 = some j := Option.isSome_iff_exists.mp (by kernel_rfl)
  have hjs : j.size ≠ 0 := by
    have h := bld_size
    rw [hj] at h
    simpa using h
  have hc : w.cell? ⟨b, o, none⟩ = some p := (blk_cell hb o).trans h0
  have hf : w.frozen? ⟨b, o, none⟩ = false := blk_frozen hb o
  have ho : o < n := by rw [← hn]; exact (Array.getElem?_eq_some_iff.1 h0).1
  have hsh : w.shape? b = some (T, n) := by simp [World.shape?, hb, hn]
  have hI := Aside0.mk hj
  have hS := Aside0.mk hjs
  have hSH := Aside0.mk hsh
  have hB := Aside0.mk hb
  have hN := Aside0.mk hn
  have hO := Aside0.mk ho
  have hC := Aside0.mk h0
  clear hj hjs hsh hb hn ho h0
  rcases hp with rfl | rfl
  · go_enter Try.func79, Try.ntmps79
    go_wp2
    rw [Lib.run_to_unsafe w ⟨b, o, none⟩ Try.underlying90 Try.underlying146 hI.out hS.out hSH.out hO.out]
    simp only [Result.andThen]
    rw [Oper.upon_value]
    go_wp2
    rw [run_callFunc_extern Try.func96 (by kernel_rfl) (by kernel_rfl) (by kernel_rfl) (e := Extern.AbiNoEscape.same) (by kernel_rfl)]
    rw [Lib.run_noEscape]
    simp only [Result.andThen]
    rw [Oper.upon_value]
    go_wp2
    rw [Lib.run_from_unsafe w ⟨b, o, none⟩ Try.underlying146 Try.underlying90 hI.out hSH.out hl]
    simp only [Result.andThen]
    rw [Oper.upon_value]
    go_wp2
    go_end0
    exact ⟨rfl, blk_set hB.out o _, Mv.setCell (S := fun k => k = b) (Mv.refl _ w) rfl o _⟩
  · go_enter Try.func79, Try.ntmps79
    go_wp2
    rw [Lib.run_neq_ptr_same w _ Try.underlying90 hI.out]
    go_wp2
    go_end0
    refine ⟨rfl, ?_, Mv.refl _ w⟩
    rw [hB.out, set_same hC.out]

-- NOT PRINTED: function 98 (bytealg_MakeNoZero)

-- NOT PRINTED: function 87 (strings_Builder_grow)

-- NOT PRINTED: function 68 (strings_Builder_Grow)

/-! ### strings_Builder_WriteString: function 69 -/
theorem bld_u8 : (Try.prog.info? 5).map (fun i => (i.zero, i.size, i.bytes)) = some (some (.int .u8 0), 1, 1) := by kernel_rfl
set_option maxHeartbeats 1600000 in
set_option maxRecDepth 100000 in
theorem bld_WriteString (B b o n : Nat) (T : TypeId) (cs : Array Value) (p v : Value) (l : List UInt8) (s : ByteArray) (w : World) (hp : p = .pointer none ∨ p = .pointer (some ⟨b, o, none⟩))
    (hb : w.heap[b]? = some (.cells cs T (0, 0))) (hn : cs.size = n) (h0 : cs[o]? = some p) (h1 : cs[o + 1]? = some v) (hl : liesAt Try.prog Try.prog.depth T (n / Try.prog.cellsOf T) o 93 1 = true)
    (hT : 5 ≠ T) (hr : BRow w B 5 v l) (hlen : l.length + s.size ≤ 140737488355328) (hBw : B ≤ w.heap.size) :
    Calls Try.prog 69 #[.pointer (some ⟨b, o, none⟩), .string s] w fun e w' => e = .returned (.tuple #[.int .i64 s.size, .nilIface]) ∧ ∃ v', w'.heap[b]? = some (.cells ((cs.setIfInBounds o (.pointer (some ⟨b, o, none⟩))).setIfInBounds (o + 1) v') T (0, 0)) ∧ BRow w' B 5 v' (l ++ s.data.toList) ∧ (∀ k, v'.ownBlock = some k → v.ownBlock = some k ∨ w.heap.size ≤ k) ∧ Mv (fun k => k = b ∨ v.ownBlock = some k) w w' := by
  obtain ⟨i0, hi, hz0, hz1, hz2⟩ := info_parts bld_u8
  have hne := owns_ne hr hb hT
  have HR := Aside0.mk hr
  have HNE := Aside0.mk hne
  have H1 := Aside0.mk h1
  have HB0 := Aside0.mk (Array.getElem?_eq_some_iff.1 hb).1
  have HI := Aside0.mk hi
  have HZ0 := Aside0.mk hz0
  have HZ1 := Aside0.mk hz1
  have HZ2 := Aside0.mk hz2
  have HC := Aside0.mk (bld_copyCheck b o n T cs p w hp hb hn h0 hl)
  clear hb hn h0 hl hr hne h1 hi hz0 hz1 hz2 hp
  go_enter Try.func69, Try.ntmps69
  go_wp2_with fail
  refine HC.out.mono ?_
  rintro e w1 ⟨rfl, hb1, hm1⟩
  have hv1 : (cs.setIfInBounds o (.pointer (some ⟨b, o, none⟩)))[o + 1]? = some v := by
    rw [Array.getElem?_setIfInBounds_ne (by omega)]; exact H1.out
  have c1 := (blk_cell hb1 (o + 1)).trans hv1
  have HB1 := Aside0.mk hb1
  have HM1 := Aside0.mk hm1
  have HR1 := Aside0.mk (BRow.mv HR.out hm1 (fun k hk e => HNE.out (by rw [hk, e])))
  obtain ⟨A, c, rfl⟩ := BRow.slice HR.out
  clear hb1 hm1 hv1
  go_wp2_with (at_builtin; refine wpList_append_brow _ rfl _ _ 91 9 rfl B 5 i0 Try.underlying91 Try.underlying9 HI.out HZ0.out HZ1.out HZ2.out _ l rfl HR1.out s rfl (by omega) (by have := HM1.out.size; omega) ?_)
  intro v' w2 hr2 hg2 hk2
  have hb2 := Aside0.mk (blk_grown HB1.out hg2 (fun e => HNE.out e.symm))
  have d1 := (blk_cell hb2.out (o + 1))
  have f1 := blk_frozen hb2.out (o + 1)
  have HR2 := Aside0.mk hr2
  have HG2 := Aside0.mk hg2
  have HK2 := Aside0.mk hk2
  obtain ⟨A', c', rfl⟩ := BRow.slice hr2
  rw [Array.getElem?_setIfInBounds_ne (by omega), H1.out] at d1
  clear hr2 hg2 hk2
  go_wp2
  go_ret2
  have hlen2 : (l ++ s.data.toList).length = l.length + s.size := by simp
  rw [hlen2] at HR2 HK2
  have hmv : Mv (fun k => k = b ∨ (Value.slice A l.length c).ownBlock = some k) w w2 := (HM1.out.mono (fun k _ h => .inl h)).grown HG2.out (fun k hk _ => .inr hk)
  refine ⟨rfl, _, blk_set hb2.out (o + 1) _, ?_, ?_, Mv.setCell (S := fun k => k = b ∨ (Value.slice A l.length c).ownBlock = some k) hmv (.inl rfl) _ _⟩
  · refine BRow.mv HR2.out (Mv.setCell (S := fun k => k = b) (Mv.refl _ w2) rfl _ _) (fun k hk e => ?_)
    rcases HK2.out k hk with h | h
    · exact HNE.out (by rw [h, e])
    · have := HM1.out.size
      have := HB0.out
      omega
  · intro k hk
    rcases HK2.out k hk with h | h
    · exact .inl h
    · exact .inr (by have := HM1.out.size; omega)

-- NOT PRINTED: function 70 (strings_Builder_Len)

/-! ### strings_Repeat: function 38 -/
def strings_Repeat.f (a0 : ByteArray) (a1 : Int) : Option ByteArray :=
  if 0 ≤ a1 ∧ a1 ≤ 9223372036854775807 ∧ a0.size * a1.toNat ≤ 140737488355328 then some ⟨(Lib.repeatL a0.data.toList a1.toNat).toArray⟩ else none
theorem strings_Repeat.calls (a0 : ByteArray) (a1 : Int) (r : ByteArray) (w : World) (h : strings_Repeat.f a0 a1 = some r) :
    Calls Try.prog 38 #[.string a0, .int .i64 a1] w fun e w' => e = .returned (.string r) ∧ Below w.heap.size w w' := by
  unfold strings_Repeat.f at h
  by_cases hc : 0 ≤ a1 ∧ a1 ≤ 9223372036854775807 ∧ a0.size * a1.toNat ≤ 140737488355328
  · rw [if_pos hc] at h
    obtain rfl := Option.some.inj h
    obtain ⟨n, rfl⟩ := Int.eq_ofNat_of_zero_le hc.1
    exact Try.strings_Repeat a0 n w (by omega) (by simpa using hc.2.2)
  · rw [if_neg hc] at h
    exact absurd h (by simp)

/-! ### frame_Framer_Dead: function 39 -/
set_option maxHeartbeats 1600000 in
set_option maxRecDepth 100000 in
theorem frame_Framer_Dead.calls (B g : Nat) (F : Fm) (bv : Value) (w : World) (hF : FmAt w B g F bv) :
    Calls Try.prog 39 #[.pointer (some ⟨g, 0, none⟩)] w fun e w' => e = .returned (.bool (F.state == 3)) ∧ Mv (fun _ => False) w w' := by
  have hc1 := blk_cell hF.blk 1
  clear hF
  go_enter Try.func39, Try.ntmps39
  go_wp2
  go_ret
  exact ⟨rfl, Mv.refl _ _⟩

/-! ### frame_Framer_Dropped: function 40 -/
set_option maxHeartbeats 1600000 in
set_option maxRecDepth 100000 in
theorem frame_Framer_Dropped.calls (B g : Nat) (F : Fm) (bv : Value) (w : World) (hF : FmAt w B g F bv) :
    Calls Try.prog 40 #[.pointer (some ⟨g, 0, none⟩)] w fun e w' => e = .returned (.int .i64 F.dropped) ∧ Mv (fun _ => False) w w' := by
  have hc1 := blk_cell hF.blk 5
  clear hF
  go_enter Try.func40, Try.ntmps40
  go_wp2
  go_ret
  exact ⟨rfl, Mv.refl _ _⟩

/-! ### gonglaw12_FrameDead: function 9 -/
theorem Fm.dead1 : Fm.feed 12 ⟨5, 0, 0, 0, [], 0⟩ ⟨#[49, 32, 97, 54, 120, 120, 120]⟩ = some ([⟨#[97]⟩], 120, ⟨5, 3, 0, 0, [], 0⟩) := by kernel_rfl
theorem Fm.deadrep : strings_Repeat.f ⟨#[120]⟩ 3 = some ⟨#[120, 120, 120]⟩ := by decide +kernel
theorem Fm.deadsame : gongbook_SameTexts.f 4 [⟨#[97]⟩] [⟨#[97]⟩] = some true := by kernel_rfl
theorem Fm.deadfeed (i : Int) (h0 : 0 ≤ i) (h1 : i < 1000) (c : ByteArray) : Fm.feed 0 ⟨5, 3, 0, 0, [], i⟩ c = some ([], 120, ⟨5, 3, 0, 0, [], i + 1⟩) := by
  unfold Fm.feed
  rw [if_pos rfl]
  have e : wrap64 (i + 1) = i + 1 := by unfold wrap64; omega
  simp only [e]
set_option maxHeartbeats 4000000 in
set_option maxRecDepth 100000 in
theorem gonglaw12_FrameDead.calls (A0 : Option Addr) (c0 : Nat) (l0 : List ByteArray) (w : World) (hr0 : Kd.C Kd.string w A0 l0.length l0) (hc0 : l0.length ≤ c0) :
    Calls Try.prog 9 #[.slice A0 l0.length c0] w fun e w' => e = .returned (.bool true) ∧ Below w.heap.size w w' := by
  have HR0 := Aside0.mk hr0
  have HC0 := Aside0.mk hc0
  clear hr0 hc0
  go_enter Try.func9, Try.ntmps9
  go_wp2_with fail
  refine (gonglaw12_works.calls 0 true _ rfl).mono ?_
  rintro e w1 ⟨rfl, hb1⟩
  have HB1 := Aside0.mk hb1
  clear hb1
  go_wp2_with fail
  refine (frame_New.ok 5 _ (by decide) (by decide)).mono ?_
  rintro e w2 ⟨rfl, hF2, hm2⟩
  have hg2 := hF2.lt
  obtain ⟨g, hg⟩ : ∃ g, g = w1.heap.size := ⟨_, rfl⟩
  rw [← hg] at hF2 hg2 ⊢
  have HG := Aside0.mk (show w.heap.size ≤ g by have := HB1.out.size; omega)
  have HB2 := Aside0.mk (Below.trans HB1.out (Mv.below (B := w.heap.size) hm2 (by have := HG.out; omega) (fun _ h => h.elim)))
  have HF2 := Aside0.mk hF2
  clear hg hg2 hm2 hF2
  go_wp2_with fail
  refine (strings_Repeat.calls _ _ _ _ Fm.deadrep).mono ?_
  rintro e w3 ⟨rfl, hb3⟩
  have HF3 := Aside0.mk (HF2.out.mv (Mv.of_below (S := fun _ => False) hb3) id (fun _ _ => id))
  have HB3 := Aside0.mk (Below.trans HB2.out (Below.mono hb3 HB2.out.size))
  have AF := Aside0.mk (frame_Framer_Feed.calls 12 g g _ _ _ _ _ _ w3 HF3.out (Nat.le_of_lt HF3.out.lt) Fm.dead1)
  clear hb3
  go_wp2_with fail
  refine AF.out.mono ?_
  rintro e w4 ⟨mv4, bv4, rfl, hr4, hF4, ho4, hm4⟩
  have HF4 := Aside0.mk hF4
  have HN4 := Aside0.mk (show ∀ k, bv4.ownBlock = some k → g + 1 ≤ k from fun k hk => by
    rcases ho4 k hk with h | h
    · simp [Value.ownBlock] at h
    · have := HF3.out.lt
      omega)
  have HB4 := Aside0.mk (Below.trans HB3.out (Mv.below (B := w.heap.size) hm4 (by have := HF3.out.lt; have := HG.out; omega) (fun k hk => by
    rcases hk with hk | hk
    · have := HG.out; omega
    · simp [Value.ownBlock] at hk)))
  obtain ⟨P4, q4, rfl, hq4, hC4⟩ := Kd.R_reads hr4
  have HC4 := Aside0.mk hC4
  clear hr4 hF4 ho4 hm4 AF hC4
  go_wp2_with fail
  refine (gongbook_SameTexts.calls 4 P4 q4 [⟨#[97]⟩] (some ⟨w4.heap.size, 0, none⟩) 1 [⟨#[97]⟩] true _ (Kd.C_alloc HC4.out _) hq4 (lit_C w4 _) (Nat.le_refl _) Fm.deadsame).mono ?_
  rintro e w5 ⟨rfl, m5, rfl⟩
  have HF5 := Aside0.mk (HF4.out.mv (((Mv.refl (fun _ => False) w4).alloc (.cells #[.string ⟨#[97]⟩] 9)).drewN m5) id (fun _ _ => id))
  have HB5 := Aside0.mk (Below.trans HB4.out (Mv.below (B := w.heap.size) (((Mv.refl (fun _ => False) w4).alloc (.cells #[.string ⟨#[97]⟩] 9)).drewN m5) HB4.out.size (fun _ h => h.elim)))
  obtain ⟨w6, hw6⟩ : ∃ w6, w6 = (w4.alloc (.cells #[.string ⟨#[97]⟩] 9)).drewN m5 := ⟨_, rfl⟩
  rw [← hw6] at HF5 HB5 ⊢
  clear hw6 HF2 HF3 HF4 HB1 HB2 HB3 HB4 HC4 hq4
  go_wp2_with fail
  go_loopw [7] (fun v7 W => ∃ (i : Int) (bv : Value), v7 = .int .i64 i ∧ 0 ≤ i ∧ i ≤ 100 ∧ Aside0 (FmAt W g g ⟨5, 3, 0, 0, [], i⟩ bv) ∧ Aside0 (∀ k, bv.ownBlock = some k → g + 1 ≤ k) ∧ Aside0 (Below w.heap.size w W)) (fun v7 _ => (200 - intOf v7).toNat)
  case atStart => exact ⟨0, bv4, rfl, by omega, by omega, HF5, HN4, HB5⟩
  case round =>
    clear HF5 HN4 HB5
    obtain ⟨i, bv, rfl, hi0, hi1, HF, HN, HB⟩ := hrel
    by_cases c1 : i < (l0.length : Int) ∧ i < 100
    · obtain ⟨c1, c2⟩ := c1
      have e1 : decide (i < (l0.length : Int)) = true := decide_eq_true c1
      have e2 : decide (i < 100) = true := decide_eq_true c2
      obtain ⟨ad, e3, hx⟩ := Kd.at_string HR0.out i hi0 c1
      subst e3
      replace hx := (HB.out.cell (World.block_lt_of_cell? w _ hx)).trans hx
      have c0' := eq_true hi0
      have c1' := eq_true c1
      have HI := Aside0.mk (And.intro hi0 c2)
      have AF := Aside0.mk (frame_Framer_Feed.calls 0 g g _ _ _ (rdOf ByteArray.empty l0 i) _ _ wr HF.out (Nat.le_of_lt HF.out.lt) (Fm.deadfeed i hi0 (by omega) _))
      clear hi0 hi1 c1 c2
      go_wp2_with fail
      refine AF.out.mono ?_
      rintro e w7 ⟨mv7, bv7, rfl, hr7, hF7, ho7, hm7⟩
      have HF7 := Aside0.mk hF7
      have HN7 := Aside0.mk (show ∀ k, bv7.ownBlock = some k → g + 1 ≤ k from fun k hk => by
        rcases ho7 k hk with h | h
        · exact HN.out k h
        · have := HF.out.lt
          omega)
      have HB7 := Aside0.mk (Below.trans HB.out (Mv.below (B := w.heap.size) hm7 (by have := HF.out.lt; have := HG.out; omega) (fun k hk => by
        rcases hk with hk | hk
        · have := HG.out; omega
        · have := HN.out k hk; have := HG.out; omega)))
      obtain ⟨P7, q7, rfl, hq7, hC7⟩ := Kd.R_reads hr7
      have AD := Aside0.mk (frame_Framer_Dead.calls g g _ bv7 w7 HF7.out)
      have hl7 : (([] : List ByteArray).length) = 0 := rfl
      rw [hl7]
      clear hr7 hF7 ho7 hm7 AF hC7 hq7 HF HN HB hl7 hx
      go_wp2_with fail
      refine AD.out.mono ?_
      rintro e w8 ⟨rfl, hm8⟩
      have HF8 := Aside0.mk (HF7.out.mv hm8 id (fun _ _ => id))
      have HB8 := Aside0.mk (Below.trans HB7.out (Mv.below hm8 HB7.out.size (fun _ h => h.elim)))
      have AP := Aside0.mk (frame_Framer_Dropped.calls g g _ bv7 w8 HF8.out)
      clear hm8 AD HF7 HB7
      go_wp2_with fail
      refine AP.out.mono ?_
      rintro e w9 ⟨rfl, hm9⟩
      have HF9 := Aside0.mk (HF8.out.mv hm9 id (fun _ _ => id))
      have HB9 := Aside0.mk (Below.trans HB8.out (Mv.below hm9 HB8.out.size (fun _ h => h.elim)))
      have AH := Aside0.mk (frame_Framer_Held.calls g g _ bv7 w9 HF9.out)
      have e8 : wrap64 (i + 1) = i + 1 := by have := HI.out; unfold wrap64; omega
      have e9 : ((i + 1) == wrap64 (i + 1)) = true := by rw [e8]; exact beq_self_eq_true _
      have e10 : ((i + 1) != wrap64 (i + 1)) = false := by rw [e8]; exact bne_self_eq_false _
      clear hm9 AP HF8 HB8
      go_wp2_with fail
      refine AH.out.mono ?_
      rintro e w10 ⟨rfl, hm10⟩
      have hh : (Fm.mk 5 3 0 0 [] (i + 1)).held = 0 := rfl
      rw [hh]
      have HF10 := Aside0.mk (HF9.out.mv hm10 id (fun _ _ => id))
      have HB10 := Aside0.mk (Below.trans HB9.out (Mv.below hm10 HB9.out.size (fun _ h => h.elim)))
      clear hm10 AH HF9 HB9 hh
      go_wp2
      go_roundw
      case rel => exact ⟨i + 1, bv7, by rw [e8], by have := HI.out; omega, by have := HI.out; omega, HF10, HN7, HB10⟩
      case measure => have := HI.out; simp only [intOf, e8]; omega
    · have AD := Aside0.mk (frame_Framer_Dead.calls g g _ bv wr HF.out)
      by_cases c2 : i < (l0.length : Int)
      · have e1 : decide (i < (l0.length : Int)) = true := decide_eq_true c2
        have e2 : decide (i < 100) = false := decide_eq_false (fun h => c1 ⟨c2, h⟩)
        clear c1 c2 hi0 hi1
        go_wp2_with fail
        refine AD.out.mono ?_
        rintro e w8 ⟨rfl, hm8⟩
        go_wp2
        go_ret
        exact ⟨rfl, Below.trans HB.out (Mv.below hm8 HB.out.size (fun _ h => h.elim))⟩
      · have e1 : decide (i < (l0.length : Int)) = false := decide_eq_false c2
        clear c1 c2 hi0 hi1
        go_wp2_with fail
        refine AD.out.mono ?_
        rintro e w8 ⟨rfl, hm8⟩
        go_wp2
        go_ret
        exact ⟨rfl, Below.trans HB.out (Mv.below hm8 HB.out.size (fun _ h => h.elim))⟩

end Go.Proofs.Yteidlffajcogcaa.XFd
