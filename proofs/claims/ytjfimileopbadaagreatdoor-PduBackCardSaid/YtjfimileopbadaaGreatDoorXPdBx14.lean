-- Laid by extprint.py (the session's own driver): functions told by the kit's printer and by hand.
import Derived.Test.YtjfimileopbadaaGreatDoorXPdBx0
import Derived.Test.YtjfimileopbadaaGreatDoorXPdBx5
import Derived.Test.YtjfimileopbadaaGreatDoorXPdBx6
import Derived.Test.YtjfimileopbadaaGreatDoorXPdBx9
import Derived.Test.YtjfimileopbadaaGreatDoorXPdBx13
namespace Go.Proofs.YtjfimileopbadaaGreatDoor.XPdB
open Go.RowKit Gong Go.Proofs.YtjfimileopbadaaGreatDoorW.PrintWords Go.Proofs.YtjfimileopbadaaGreatDoorW.PrintLast Go.Proofs.YtjfimileopbadaaGreatDoorW.PrintMore
attribute [local go_sem] max2_int min2_int max_two min_two max_three min_three max_four min_four   -- for this text's walks alone
set_option linter.unusedVariables false
set_option linter.unusedSimpArgs false

/-! ### ber_walk: function 65 -/
/-- An element that is open. -/
structure Fr where
  tag : Int
  rest : ByteArray
  out : List UInt8
  deep : Int
def ber_walk.l0 : Nat → List Fr → Option (ByteArray × Int × Int)
  | 0, _ => none
  | _ + 1, [] => none
  | k + 1, top :: below =>
    if top.rest.size = 0 then
      match below with
      | [] => some (⟨top.out.toArray⟩, top.deep, 0)
      | b :: bs => (ber_put.f k top.tag ⟨top.out.toArray⟩).bind fun t =>
        if b.out.length + t.size ≤ 140737488355328 ∧ 0 ≤ top.deep ∧ top.deep < 1000 then ber_walk.l0 k (⟨b.tag, b.rest, b.out ++ t.data.toList, mx b.deep (top.deep + 1)⟩ :: bs) else none
    else (ber_Next.f k top.rest).bind fun q =>
      if q.2.2.2 ≠ 0 then some (⟨#[]⟩, 0, q.2.2.2) else
      if 32 < below.length + 1 then some (⟨#[]⟩, 0, 51) else
      (ber_Part_made.f q.1 q.2.1).bind fun m =>
        if m = true then ber_walk.l0 k (⟨q.1, q.2.1, [], 0⟩ :: ⟨top.tag, q.2.2.1, top.out, top.deep⟩ :: below)
        else (ber_put.f k q.1 q.2.1).bind fun t =>
          if top.out.length + t.size ≤ 140737488355328 then ber_walk.l0 k (⟨top.tag, q.2.2.1, top.out ++ t.data.toList, mx top.deep 1⟩ :: below) else none
def ber_walk.f (k : Nat) (a0 : ByteArray) : Option (ByteArray × Int × Int) :=
  (ber_Next.f k a0).bind fun q => if q.2.2.2 = 0 ∧ q.2.2.1.size = 0 then ber_walk.l0 k [⟨0, a0, [], 0⟩] else some (⟨#[]⟩, 0, 50)
theorem ber_walk.mono_l : ∀ k fs, LeO (ber_walk.l0 k fs) (ber_walk.l0 (k + 1) fs)
  | 0, fs => fun r h => by simp [ber_walk.l0] at h
  | k + 1, [] => fun r h => by simp [ber_walk.l0] at h
  | k + 1, top :: below => by
    unfold ber_walk.l0
    refine LeO.ite ?_ ?_
    · cases below with
      | nil => exact LeO.refl _
      | cons b bs => exact LeO.bind (ber_put.mono _ _ _) (fun t => LeO.ite (ber_walk.mono_l k _) (LeO.refl _))
    · refine LeO.bind (ber_Next.mono _ _) (fun q => LeO.ite (LeO.refl _) (LeO.ite (LeO.refl _) (LeO.bind (LeO.refl _) (fun m => LeO.ite (ber_walk.mono_l k _) (LeO.bind (ber_put.mono _ _ _) (fun t => LeO.ite (ber_walk.mono_l k _) (LeO.refl _)))))))
theorem ber_walk.mono : ∀ a0 k, LeO (ber_walk.f k a0) (ber_walk.f (k + 1) a0) := by
  intro a0 k
  unfold ber_walk.f
  exact LeO.bind (ber_Next.mono _ _) (fun q => LeO.ite (ber_walk.mono_l _ _) (LeO.refl _))
/-- A frame's block: where it lies, its builder's address, its builder's row. -/
structure FrAt (w : World) (B : Nat) (x : Nat × Value × Value) (f : Fr) : Prop where
  blk : w.heap[x.1]? = some (.cells #[.int .i64 f.tag, .string f.rest, x.2.1, x.2.2, .int .i64 f.deep] 139 (0, 0))
  ptr : x.2.1 = .pointer none ∨ x.2.1 = .pointer (some ⟨x.1, 2, none⟩)
  row : BRow w B 5 x.2.2 f.out
  ge : B ≤ x.1
theorem FrAt.ne {w : World} {B : Nat} {x : Nat × Value × Value} {f : Fr} (h : FrAt w B x f) : x.2.2.ownBlock ≠ some x.1 := owns_ne h.row h.blk (by decide)
theorem FrAt.mv {w w' : World} {B : Nat} {x : Nat × Value × Value} {f : Fr} {S : Nat → Prop} (h : FrAt w B x f) (hm : Mv S w w') (h1 : ¬ S x.1) (h2 : ∀ k, x.2.2.ownBlock = some k → ¬ S k) : FrAt w' B x f :=
  ⟨hm.heap h.blk h1, h.ptr, h.row.mv hm h2, h.ge⟩
/-- No two frames share a block. -/
def Apart2 (x y : Nat × Value × Value) : Prop := x.1 ≠ y.1 ∧ ∀ k, x.2.2.ownBlock = some k → y.2.2.ownBlock ≠ some k
theorem Apart2.symm {x y : Nat × Value × Value} (h : Apart2 x y) : Apart2 y x := ⟨fun e => h.1 e.symm, fun k hk e => h.2 k e hk⟩
def Frs (w : World) (B : Nat) : List (Nat × Value × Value) → List Fr → Prop
  | [], [] => True
  | x :: xs, f :: fs => FrAt w B x f ∧ (∀ y ∈ xs, Apart2 x y) ∧ Frs w B xs fs
  | _, _ => False
theorem Frs.length {w : World} {B : Nat} : ∀ {xs : List (Nat × Value × Value)} {fs : List Fr}, Frs w B xs fs → xs.length = fs.length
  | [], [], _ => rfl
  | x :: xs, f :: fs, h => by simp [Frs.length h.2.2]
theorem Frs.mv {w w' : World} {B : Nat} {S : Nat → Prop} (hm : Mv S w w') : ∀ {xs : List (Nat × Value × Value)} {fs : List Fr}, Frs w B xs fs → (∀ x ∈ xs, ¬ S x.1 ∧ ∀ k, x.2.2.ownBlock = some k → ¬ S k) → Frs w' B xs fs
  | [], [], _, _ => trivial
  | x :: xs, f :: fs, h, hs => ⟨h.1.mv hm (hs x (by simp)).1 (hs x (by simp)).2, h.2.1, Frs.mv hm h.2.2 (fun y hy => hs y (by simp [hy]))⟩
theorem Frs.at {w : World} {B : Nat} : ∀ {xs : List (Nat × Value × Value)} {fs : List Fr}, Frs w B xs fs → ∀ x ∈ xs, ∃ f, FrAt w B x f
  | [], [], _, x, hx => by simp at hx
  | y :: xs, f :: fs, h, x, hx => by
    rcases List.mem_cons.mp hx with rfl | hx
    · exact ⟨f, h.1⟩
    · exact Frs.at h.2.2 x hx
/-- The stack: a row of pointers of the call's own. -/
def Stk (w : World) (B : Nat) (v : Value) (xs : List (Nat × Value × Value)) : Prop :=
  w.ownsRow B 137 1 v xs.length (xs.reverse.map fun x => Value.pointer (some ⟨x.1, 0, none⟩))
theorem Stk.mv {w w' : World} {B : Nat} {S : Nat → Prop} {v : Value} {xs : List (Nat × Value × Value)} (h : Stk w B v xs) (hm : Mv S w w') (h1 : ∀ k, v.ownBlock = some k → ¬ S k) : Stk w' B v xs := hm.own h h1
theorem Stk.top {w : World} {B : Nat} {v : Value} {x : Nat × Value × Value} {xs : List (Nat × Value × Value)} (h : Stk w B v (x :: xs)) :
    ∃ g cap, v = .slice (some ⟨g, 0, none⟩) (xs.length + 1) cap ∧ w.cell? ⟨g, xs.length, none⟩ = some (.pointer (some ⟨x.1, 0, none⟩)) := by
  rcases h.2 with ⟨_, h0⟩ | ⟨g, cap, cur, rfl, _⟩
  · simp at h0
  · refine ⟨g, cap, rfl, ?_⟩
    have := World.ownsRow.cellAt h xs.length (by simp)
    rw [this]
    simp
theorem Stk.small {w : World} {B : Nat} {v : Value} {x : Nat × Value × Value} {xs : List (Nat × Value × Value)} (h : Stk w B v (x :: xs)) : xs.length ≤ 9223372036854775806 := by
  rcases h.2 with ⟨_, h0⟩ | ⟨g, cap, cur, _, _, _, h1, h2, _⟩
  · simp at h0
  · unfold maxLen at h2
    simp only [List.length_cons] at h1
    omega
theorem Stk.pop {w : World} {B : Nat} {g cap : Nat} {x y : Nat × Value × Value} {ys : List (Nat × Value × Value)} (h : Stk w B (.slice (some ⟨g, 0, none⟩) ((y :: ys).length + 1) cap) (x :: y :: ys)) :
    Stk w B (.slice (some ⟨g, 0, none⟩) (ys.length + 1) cap) (y :: ys) := by
  unfold Stk at h ⊢
  rw [List.reverse_cons, List.map_append] at h
  exact ownsRow_pop (by simp) h
theorem Stk.cap {w : World} {B : Nat} {g n cap : Nat} {xs : List (Nat × Value × Value)} (h : Stk w B (.slice (some ⟨g, 0, none⟩) n cap) xs) : xs.length ≤ cap := by
  rcases h.2 with ⟨h0, _⟩ | ⟨g', cap', cur, hv, _, _, h1, _⟩
  · cases h0
  · cases hv
    exact h1
theorem Stk.blk {w : World} {B : Nat} {v : Value} {x : Nat × Value × Value} {xs : List (Nat × Value × Value)} (h : Stk w B v (x :: xs)) : ∀ k, v.ownBlock = some k → ∃ cur, w.heap[k]? = some (.cells cur 137 (0, 0)) := by
  rcases h.2 with ⟨_, h0⟩ | ⟨g', cap', cur, rfl, _, hg, _⟩
  · simp at h0
  · intro k hk
    simp [Value.ownBlock] at hk
    subst hk
    exact ⟨cur, hg⟩
theorem Stk.blk_ne {w : World} {B : Nat} {v : Value} {x : Nat × Value × Value} {xs : List (Nat × Value × Value)} {b : Nat} {cs : Array Value} {t : TypeId} {fr : Nat × Nat} (h : Stk w B v (x :: xs)) (hb : w.heap[b]? = some (.cells cs t fr)) (ht : 137 ≠ t) : v.ownBlock ≠ some b := owns_ne h hb ht
theorem Stk.row_ne {w : World} {B : Nat} {v u : Value} {l : List UInt8} {x : Nat × Value × Value} {xs : List (Nat × Value × Value)} (h : Stk w B v (x :: xs)) (hr : BRow w B 5 u l) : ∀ k, v.ownBlock = some k → u.ownBlock ≠ some k := by
  intro k hk
  obtain ⟨cur, hg⟩ := h.blk k hk
  exact owns_ne hr hg (by decide)
theorem Frs.wrote {w w' : World} {B : Nat} {y : Nat × Value × Value} {ys : List (Nat × Value × Value)} {f : Fr} {fs : List Fr} {v' : Value} {l' : List UInt8} (h : Frs w B (y :: ys) (f :: fs))
    (hb : w'.heap[y.1]? = some (.cells #[.int .i64 f.tag, .string f.rest, .pointer (some ⟨y.1, 2, none⟩), v', .int .i64 f.deep] 139 (0, 0))) (hr : BRow w' B 5 v' l')
    (hk : ∀ k, v'.ownBlock = some k → y.2.2.ownBlock = some k ∨ w.heap.size ≤ k) (hm : Mv (fun k => k = y.1 ∨ y.2.2.ownBlock = some k) w w') :
    Frs w' B ((y.1, .pointer (some ⟨y.1, 2, none⟩), v') :: ys) (⟨f.tag, f.rest, l', f.deep⟩ :: fs) := by
  obtain ⟨hy, hA, hF⟩ := h
  refine ⟨⟨hb, .inr rfl, hr, hy.ge⟩, fun z hz => ⟨(hA z hz).1, fun k hv hz2 => ?_⟩, Frs.mv hm hF (fun z hz => ?_)⟩
  · rcases hk k hv with h1 | h1
    · exact (hA z hz).2 k h1 hz2
    · obtain ⟨g, hg⟩ := Frs.at hF z hz
      have := (World.ownsRow.lt hg.row k hz2).2
      omega
  · obtain ⟨g, hg⟩ := Frs.at hF z hz
    refine ⟨fun e => ?_, fun k hk2 e => ?_⟩
    · rcases e with e | e
      · exact (hA z hz).1 e.symm
      · exact owns_ne hy.row hg.blk (by decide) e
    · rcases e with e | e
      · exact owns_ne hg.row hy.blk (by decide) (by rw [hk2, e])
      · exact (hA z hz).2 k e hk2
theorem Stk.wrote {w w' : World} {B : Nat} {sv : Value} {y : Nat × Value × Value} {ys : List (Nat × Value × Value)} {f : Fr} {p v' : Value} (h : Stk w B sv (y :: ys)) (hy : FrAt w B y f)
    (hm : Mv (fun k => k = y.1 ∨ y.2.2.ownBlock = some k) w w') : Stk w' B sv ((y.1, p, v') :: ys) := by
  refine Stk.mv (show Stk w B sv ((y.1, p, v') :: ys) by simpa [Stk] using h) hm (fun k hk e => ?_)
  rcases e with e | e
  · exact h.blk_ne hy.blk (by decide) (by rw [hk, e])
  · exact h.row_ne hy.row k hk e
theorem Frs.set {w : World} {B : Nat} {y : Nat × Value × Value} {ys : List (Nat × Value × Value)} {f f' : Fr} {fs : List Fr} (h : Frs w B (y :: ys) (f :: fs)) (j : Nat) (u : Value)
    (he : (#[.int .i64 f.tag, .string f.rest, y.2.1, y.2.2, .int .i64 f.deep] : Array Value).setIfInBounds j u = #[.int .i64 f'.tag, .string f'.rest, y.2.1, y.2.2, .int .i64 f'.deep]) (ho : f'.out = f.out) :
    Frs (w.setCell ⟨y.1, j, none⟩ u) B (y :: ys) (f' :: fs) := by
  obtain ⟨hy, hA, hF⟩ := h
  have hm : Mv (fun k => k = y.1) w (w.setCell ⟨y.1, j, none⟩ u) := Mv.setCell (S := fun k => k = y.1) (Mv.refl _ w) rfl _ _
  refine ⟨⟨?_, hy.ptr, ?_, hy.ge⟩, hA, Frs.mv hm hF (fun z hz => ⟨fun e => (hA z hz).1 e.symm, fun k hk e => ?_⟩)⟩
  · exact blk_put hy.blk j u he
  · rw [ho]
    exact hy.row.mv hm (fun k hk e => hy.ne (by rw [hk, e]))
  · obtain ⟨g, hg⟩ := Frs.at hF z hz
    exact owns_ne hg.row hy.blk (by decide) (by rw [hk, e])
theorem Stk.set {w : World} {B : Nat} {sv : Value} {y : Nat × Value × Value} {ys : List (Nat × Value × Value)} {f : Fr} (h : Stk w B sv (y :: ys)) (hy : FrAt w B y f) (j : Nat) (u : Value) : Stk (w.setCell ⟨y.1, j, none⟩ u) B sv (y :: ys) :=
  Stk.mv h (Mv.setCell (S := fun k => k = y.1) (Mv.refl _ w) rfl _ _) (fun k hk e => h.blk_ne hy.blk (by decide) (by rw [hk, e]))
theorem Frs.drew {w : World} {B : Nat} {xs : List (Nat × Value × Value)} {fs : List Fr} (h : Frs w B xs fs) : Frs w.drew B xs fs := Frs.mv (Mv.drew (Mv.refl (fun _ => False) w)) h (fun _ _ => ⟨id, fun _ _ => id⟩)
theorem ptr_open : (Tryz.prog.info? 137).map (fun i => (i.zero, i.size, i.bytes)) = some (some (.pointer none), 1, 8) := by kernel_rfl
theorem Frs.push {W w8 : World} {B g m cap : Nat} {x : Nat × Value × Value} {xs : List (Nat × Value × Value)} {f : Fr} {fs : List Fr} {v' : Value} {q1 : Int} {q2 : ByteArray}
    (hF : Frs W B (x :: xs) (f :: fs)) (hS : Stk W B (.slice (some ⟨g, 0, none⟩) (m + 1) cap) (x :: xs)) (hB : B ≤ W.heap.size) (hm : m = xs.length)
    (hr : w8.ownsRow B 137 1 v' (m + 1 + 1) (((x :: xs).reverse.map fun x => Value.pointer (some ⟨x.1, 0, none⟩)) ++ [.pointer (some ⟨W.heap.size, 0, none⟩)]))
    (hg : ((W.alloc (.cells #[.int .i64 q1, .string q2, .pointer none, .slice none 0 0, .int .i64 0] 139)).alloc (.cells #[.pointer (some ⟨W.heap.size, 0, none⟩)] 137)).grownBy w8 (Value.slice (some ⟨g, 0, none⟩) (m + 1) cap).ownBlock) :
    Frs w8 B ((W.heap.size, .pointer none, .slice none 0 0) :: x :: xs) (⟨q1, q2, [], 0⟩ :: f :: fs) ∧ Stk w8 B v' ((W.heap.size, .pointer none, .slice none 0 0) :: x :: xs) ∧ Below B W w8 := by
  have hmv : Mv (fun k => g = k) W w8 := Mv.grown (((Mv.refl _ W).alloc _).alloc _) hg (fun k hk _ => by simpa [Value.ownBlock] using hk)
  obtain ⟨cur, hgb⟩ := hS.blk g rfl
  have hgl : g < W.heap.size := (Array.getElem?_eq_some_iff.1 hgb).1
  have hnew : ((W.alloc (.cells #[.int .i64 q1, .string q2, .pointer none, .slice none 0 0, .int .i64 0] 139)).alloc (.cells #[.pointer (some ⟨W.heap.size, 0, none⟩)] 137)).heap[W.heap.size]? = some (.cells #[.int .i64 q1, .string q2, .pointer none, .slice none 0 0, .int .i64 0] 139 (0, 0)) :=
    blk_alloc (by simpa using heap_alloc_new W _) _
  refine ⟨⟨⟨blk_grown hnew hg (fun e => by simp [Value.ownBlock] at e; omega), .inl rfl, BRow.nil _ _ _, hB⟩, fun z hz => ⟨fun e => ?_, fun k hk => by simp [Value.ownBlock] at hk⟩, Frs.mv hmv hF (fun z hz => ?_)⟩, ?_, ?_⟩
  · obtain ⟨fz, hfz⟩ := Frs.at hF z hz
    have := (Array.getElem?_eq_some_iff.1 hfz.blk).1
    simp only at e
    omega
  · obtain ⟨fz, hfz⟩ := Frs.at hF z hz
    refine ⟨fun e => ?_, fun k hk e => ?_⟩
    · exact hS.blk_ne hfz.blk (by decide) (by simp [Value.ownBlock, e])
    · exact hS.row_ne hfz.row k (by simp [Value.ownBlock, e]) hk
  · unfold Stk
    rw [List.reverse_cons, List.map_append]
    simp only [List.length_cons, ← hm]
    exact hr
  · exact Mv.below hmv hB (fun k hk => by subst hk; exact (World.ownsRow.lt hS g rfl).1)
set_option maxHeartbeats 4000000 in
set_option maxRecDepth 100000 in
theorem ber_walk.calls (k : Nat) (a0 : ByteArray) (r1 : ByteArray) (r2 r3 : Int) (w : World) (h : ber_walk.f k a0 = some (r1, r2, r3)) :
    Calls Tryz.prog 65 #[.string a0] w fun e w' => e = .returned (.tuple #[.string r1, .int .i64 r2, .int .i64 r3]) ∧ Below w.heap.size w w' := by
  unfold ber_walk.f at h
  obtain ⟨⟨n1, n2, n3, n4⟩, A0, h⟩ := Option.bind_eq_some_iff.mp h
  have A := Aside0.mk A0
  have H := Aside0.mk h
  clear A0 h
  have hu1 := Tryz.underlying50
  have hu2 := Tryz.underlying139
  go_enter Tryz.func65, Tryz.ntmps65
  go_wp2_with fail
  go_step3
  go_wp2_with fail
  (with_reducible refine (ber_Next.calls k a0 n1 n2 n3 n4 _ A.out).mono ?_)
  rintro e w1 ⟨rfl, hb⟩
  have HB := Aside0.mk hb
  clear hb
  have h := H.out
  by_cases hq : n4 = 0 ∧ n3.size = 0
  · obtain ⟨rfl, hz⟩ := hq
    rw [if_pos ⟨rfl, hz⟩] at h
    obtain rfl := size_zero hz
    clear H A hz
    have H := Aside0.mk h
    clear h
    go_wp2_with fail
    go_step3
    go_wp2_with fail
    have hF : Frs (((w1.alloc (.cells #[.int .i64 n1, .string n2] 50)).alloc (.cells #[.int .i64 0, .string a0, .pointer none, .slice none 0 0, .int .i64 0] 139)).alloc (.cells #[.pointer (some ⟨w1.heap.size + 1, 0, none⟩)] 137)) w.heap.size [(w1.heap.size + 1, .pointer none, .slice none 0 0)] [⟨0, a0, [], 0⟩] :=
      ⟨⟨blk_alloc (by simpa using heap_alloc_new (w1.alloc (.cells #[.int .i64 n1, .string n2] 50)) _) _, .inl rfl, BRow.nil _ _ _, by have := HB.out.size; simp; omega⟩, by simp, trivial⟩
    have hS : Stk (((w1.alloc (.cells #[.int .i64 n1, .string n2] 50)).alloc (.cells #[.int .i64 0, .string a0, .pointer none, .slice none 0 0, .int .i64 0] 139)).alloc (.cells #[.pointer (some ⟨w1.heap.size + 1, 0, none⟩)] 137)) w.heap.size (.slice (some ⟨w1.heap.size + 1 + 1, 0, none⟩) 1 1) [(w1.heap.size + 1, .pointer none, .slice none 0 0)] := by
      refine ⟨rfl, .inr ⟨w1.heap.size + 1 + 1, 1, #[.pointer (some ⟨w1.heap.size + 1, 0, none⟩)], rfl, by have := HB.out.size; omega, ?_, Nat.le_refl _, by unfold maxLen; omega, rfl, rfl⟩⟩
      simpa using heap_alloc_new ((w1.alloc (.cells #[.int .i64 n1, .string n2] 50)).alloc (.cells #[.int .i64 0, .string a0, .pointer none, .slice none 0 0, .int .i64 0] 139)) _
    have hB2 : Below w.heap.size w (((w1.alloc (.cells #[.int .i64 n1, .string n2] 50)).alloc (.cells #[.int .i64 0, .string a0, .pointer none, .slice none 0 0, .int .i64 0] 139)).alloc (.cells #[.pointer (some ⟨w1.heap.size + 1, 0, none⟩)] 137)) := below_alloc (below_alloc (below_alloc HB.out _) _) _
    have HF := Aside0.mk hF
    have HS := Aside0.mk hS
    have HB2 := Aside0.mk hB2
    clear hF hS hB2
    go_loopg [8] k (fun kq v8 W => ∃ (xs : List (Nat × Value × Value)) (fs : List Fr), Aside0 (Stk W w.heap.size v8 xs) ∧ Aside0 (Frs W w.heap.size xs fs) ∧ Aside0 (ber_walk.l0 kq fs = some (r1, r2, r3)) ∧ Aside0 (kq ≤ k) ∧ Aside0 (Below w.heap.size w W))
    case atStart => exact ⟨_, _, HS, HF, H, ⟨Nat.le_refl _⟩, HB2⟩
    case round =>
      clear HS HF H HB2 HB
      obtain ⟨xs, fs, HS, HF, H, HK, HB⟩ := hrel
      obtain ⟨f, fs, rfl⟩ : ∃ f fs', fs = f :: fs' := by
        cases fs with
        | nil => cases gk <;> exact absurd H.out (by simp [ber_walk.l0])
        | cons f fs => exact ⟨f, fs, rfl⟩
      obtain ⟨x, xs, rfl⟩ : ∃ x xs', xs = x :: xs' := by
        cases xs with
        | nil => exact absurd (Frs.length HF.out) (by simp)
        | cons x xs => exact ⟨x, xs, rfl⟩
      obtain ⟨g, cap, rfl, hc5⟩ := Stk.top HS.out
      have hl5 : xs.length ≤ 9223372036854775806 := Stk.small HS.out
      go_wp2_with fail
      clear hc5
      obtain ⟨kO, rfl⟩ : ∃ kO, kO = gk := ⟨_, rfl⟩
      obtain ⟨wo, rfl⟩ : ∃ wo : World, wo = wr := ⟨_, rfl⟩
      go_loopg [8] kO (fun kq v8 W => ∃ (p v : Value) (f' : Fr), v8 = .slice (some ⟨g, 0, none⟩) (xs.length + 1) cap ∧ Aside0 (Stk W w.heap.size (.slice (some ⟨g, 0, none⟩) (xs.length + 1) cap) ((x.1, p, v) :: xs)) ∧ Aside0 (Frs W w.heap.size ((x.1, p, v) :: xs) (f' :: fs)) ∧ Aside0 (ber_walk.l0 kq (f' :: fs) = some (r1, r2, r3)) ∧ Aside0 (kq ≤ kO) ∧ Aside0 (Below w.heap.size w W))
      case atStart => exact ⟨x.2.1, x.2.2, f, rfl, HS, HF, H, ⟨Nat.le_refl _⟩, HB⟩
      case round =>
        clear HS HF H HB
        obtain ⟨p, v, f', rfl, HS, HF, H, HKI, HB⟩ := hrel
        obtain ⟨tag, rest, out, deep⟩ := f'
        obtain ⟨hFt, hAp, hFs⟩ := HF.out
        obtain ⟨b, hxb⟩ : ∃ b, b = x.1 := ⟨_, rfl⟩
        rw [← hxb] at HS HF hFt hAp ⊢
        have HXB := Aside0.mk hxb
        clear hxb
        have hcz0 := blk_cell hFt.blk 0
        have hcz1 := blk_cell hFt.blk 1
        have hcz4 := blk_cell hFt.blk 4
        have hfz1 := blk_frozen hFt.blk 1
        have hfz4 := blk_frozen hFt.blk 4
        have HT := Aside0.mk hFt
        have HA := Aside0.mk hAp
        have HFS := Aside0.mk hFs
        have HL := Aside0.mk (Frs.length hFs)
        have hl5 : xs.length ≤ 9223372036854775806 := Stk.small (x := (b, p, v)) HS.out
        clear hFt hAp hFs
        obtain ⟨ki, rfl⟩ : ∃ ki, gk = ki + 1 := by
          cases gk with
          | zero => exact absurd H.out (by simp [ber_walk.l0])
          | succ ki => exact ⟨ki, rfl⟩
        have h := H.out
        simp only [ber_walk.l0] at h
        by_cases hz : rest.size = 0
        · rw [if_pos hz] at h
          obtain rfl := size_zero hz
          clear hz
          cases fs with
          | nil =>
            simp only [Option.some.injEq, Prod.mk.injEq] at h
            obtain ⟨rfl, rfl, rfl⟩ := h
            obtain rfl : xs = [] := List.length_eq_zero_iff.mp HL.out
            go_wp2_with fail
            go_region_with (go_at_call 46; refine (bld_String w.heap.size b 2 139 _ v out _ (by exact HT.out.blk) rfl (by exact HT.out.row)).mono ?_; rintro e w4 ⟨rfl, hm⟩; have hcy4 := blk_cell (hm.heap (w := wr.drew) HT.out.blk (fun e => HT.out.ne e)) 4)
            all_goals
              go_wp2
              rw [Exit.noGoto_ret]
              go_ret3
              exact ⟨rfl, Below.trans HB.out (Mv.below (Mv.undrew hm) HB.out.size (fun k hk => (World.ownsRow.lt HT.out.row k hk).1))⟩
          | cons fb fs =>
            obtain ⟨y, ys, rfl⟩ : ∃ y ys, xs = y :: ys := by
              cases xs with
              | nil => exact absurd HL.out (by simp)
              | cons y ys => exact ⟨y, ys, rfl⟩
            obtain ⟨t, A0, h⟩ := Option.bind_eq_some_iff.mp h
            have A := Aside0.mk A0
            by_cases hq : fb.out.length + t.size ≤ 140737488355328 ∧ 0 ≤ deep ∧ deep < 1000
            · rw [if_pos hq] at h
              have H := Aside0.mk h
              obtain ⟨hq1, hq2, hq3⟩ := hq
              clear A0 h
              have HS1 := Aside0.mk (Stk.pop HS.out)
              obtain ⟨g', cap', hge, hc20⟩ := Stk.top HS1.out
              injection hge with hg1 hg2 hg3
              injection hg1 with hg1
              injection hg1 with hg1 _ _
              subst hg1 hg3
              clear hg2
              simp only [List.length_cons] at hl5 ⊢
              obtain ⟨m, hm⟩ : ∃ m, m = ys.length := ⟨_, rfl⟩
              rw [← hm] at hl5 hc20 ⊢
              have hl6 : ((m : Int) + 1 + 1 == 1) = false := beq_eq_false_iff_ne.mpr (by omega)
              have hl7 := eq_true (show (m : Int) + 1 ≤ (cap : Int) by have := Stk.cap HS.out; simp only [List.length_cons] at this; omega)
              have HMY := Aside0.mk hm
              clear hm
              have hY := HFS.out.1
              have hne := owns_ne HT.out.row hY.blk (by decide)
              have HY := Aside0.mk (show ∀ W, Mv (fun k => v.ownBlock = some k) wr W → FrAt W w.heap.size y fb from fun W hm => hY.mv hm hne (fun k hk e => (HA.out y (by simp)).2 k e hk))
              have HTG := Aside0.mk (show ∀ W, Mv (fun k => v.ownBlock = some k) wr W → W.cell? ⟨b, 0, none⟩ = some (.int .i64 tag) from fun W hm => blk_cell (hm.heap HT.out.blk HT.out.ne) 0)
              clear hY hne
              have hl8 : liesAt Tryz.prog Tryz.prog.depth 139 (5 / Tryz.prog.cellsOf 139) 2 75 1 = true := by kernel_rfl
              have HL8 := Aside0.mk hl8
              clear hl8
              have HY2 := Aside0.mk (show ∀ W, Mv (fun k => v.ownBlock = some k) wr W → Frs W w.heap.size (y :: ys) (fb :: fs) from fun W hm => by
                refine Frs.mv hm HFS.out (fun z hz => ⟨fun e => ?_, fun k hk e => (HA.out z hz).2 k e hk⟩)
                obtain ⟨gz, hgz⟩ := Frs.at HFS.out z hz
                exact owns_ne HT.out.row hgz.blk (by decide) e)
              have HS2 := Aside0.mk (show ∀ W, Mv (fun k => v.ownBlock = some k) wr W → Stk W w.heap.size (.slice (some ⟨g, 0, none⟩) (m + 1) cap) (y :: ys) from fun W hm => by
                rw [HMY.out]
                exact Stk.mv HS1.out hm (fun k hk e => HS1.out.row_ne HT.out.row k hk e))
              have HD2 := Aside0.mk (show ∀ W, Mv (fun k => v.ownBlock = some k) wr W → W.heap[b]? = wr.heap[b]? ∧ b < wr.heap.size from fun W hm => ⟨(hm.heap HT.out.blk HT.out.ne).trans HT.out.blk.symm, (Array.getElem?_eq_some_iff.1 HT.out.blk).1⟩)
              go_upto_region 21 with (fail)
              go_cut [] (fun W => ∃ p' v' : Value, Aside0 (Frs W w.heap.size ((y.1, p', v') :: ys) (⟨fb.tag, fb.rest, fb.out ++ t.data.toList, fb.deep⟩ :: fs)) ∧ Aside0 (Stk W w.heap.size (.slice (some ⟨g, 0, none⟩) (m + 1) cap) ((y.1, p', v') :: ys)) ∧ Aside0 (Below w.heap.size w W) ∧ W.cell? ⟨b, 4, none⟩ = some (.int .i64 deep))
              case first =>
                -- HEAVY{
                go_region_with (first
                  | (go_at_call 46; refine (bld_String w.heap.size b 2 139 _ v out _ (by exact HT.out.blk) rfl (by exact HT.out.row)).mono ?_; rintro e w4 ⟨rfl, hm4⟩; have hcy4 := HTG.out _ (Mv.undrew hm4))
                  | (go_at_call 66; refine (ber_put.calls ki tag ⟨out.toArray⟩ t _ A.out).mono ?_; rintro e w5 ⟨rfl, hb5⟩; have hm5 := Mv.then_below (Mv.undrew hm4) hb5; have hcy5 := HTG.out _ hm5)
                  | (go_at_call 41; refine (bld_WriteString w.heap.size y.1 2 5 139 _ y.2.1 y.2.2 fb.out t _ (HY.out _ hm5).ptr (HY.out _ hm5).blk rfl rfl rfl HL8.out (by decide) (HY.out _ hm5).row hq1 (by have := hm5.size; have := HB.out.size; omega)).mono ?_; rintro e w6 ⟨rfl, v', hb6, hr6, hk6, hm6⟩))
                all_goals
                  go_wp2
                  go_meet
                  case rel =>
                    refine ⟨_, v', ⟨Frs.wrote (HY2.out _ hm5) hb6 hr6 hk6 hm6⟩, ⟨Stk.wrote (HS2.out _ hm5) (HY.out _ hm5) hm6⟩, ⟨?_⟩, ?_⟩
                    · refine Below.trans (Below.trans HB.out (Mv.below hm5 HB.out.size (fun k hk => (World.ownsRow.lt HT.out.row k hk).1))) (Mv.below hm6 (by have := hm5.size; have := HB.out.size; omega) (fun k hk => ?_))
                      rcases hk with hk | hk
                      · rw [hk]; exact (HY.out _ hm5).ge
                      · exact (World.ownsRow.lt (HY.out _ hm5).row k hk).1
                    · have hb5b := (HD2.out _ hm5).1.trans HT.out.blk
                      exact blk_cell (hm6.heap hb5b (fun e => by
                        rcases e with e | e
                        · exact (HA.out y (by simp)).1 e
                        · exact owns_ne (HY.out _ hm5).row hb5b (by decide) e)) 4
                -- }HEAVY
              case rest =>
                obtain ⟨p', v', HF5, HS5, HB5, hcb⟩ := hcut
                have hF5 := HF5.out.1
                have hcy := blk_cell hF5.blk 4
                have hfy := blk_frozen hF5.blk 4
                clear hF5
                go_wp2_with fail
                -- HEAVY{
                by_cases hdd : fb.deep < deep + 1
                · have hx : mx fb.deep (deep + 1) = deep + 1 := by unfold mx; rw [if_pos hdd]
                  rw [hx] at H
                  have HX := HF5.out
                  go_region
                  all_goals
                    go_wp2
                    go_roundg ki
                    case measure => have := HKI.out; omega
                    case rel =>
                      refine ⟨_, _, ⟨Stk.set HS5.out HX.1 4 _⟩, ⟨Frs.drew (Frs.set HX 4 (.int .i64 (deep + 1)) (f' := ⟨fb.tag, fb.rest, fb.out ++ t.data.toList, (deep + 1)⟩) rfl rfl)⟩, H, ⟨by have := HKI.out; have := HK.out; omega⟩, ⟨?_⟩⟩
                      exact (Below.setCell HB5.out (p := ⟨y.1, 4, none⟩) HX.1.ge _).drew
                · have hx : mx fb.deep (deep + 1) = fb.deep := by unfold mx; rw [if_neg hdd]
                  rw [hx] at H
                  have HX := HF5.out
                  go_region
                  all_goals
                    go_wp2
                    go_roundg ki
                    case measure => have := HKI.out; omega
                    case rel =>
                      refine ⟨_, _, ⟨Stk.set HS5.out HX.1 4 _⟩, ⟨Frs.drew (Frs.set HX 4 (.int .i64 fb.deep) (f' := ⟨fb.tag, fb.rest, fb.out ++ t.data.toList, fb.deep⟩) rfl rfl)⟩, H, ⟨by have := HKI.out; have := HK.out; omega⟩, ⟨?_⟩⟩
                      exact (Below.setCell HB5.out (p := ⟨y.1, 4, none⟩) HX.1.ge _).drew
                -- }HEAVY
            · rw [if_neg hq] at h
              exact absurd h (by simp)
        · rw [if_neg hz] at h
          obtain ⟨⟨q1, q2, q3, q4⟩, A0, h⟩ := Option.bind_eq_some_iff.mp h
          have A := Aside0.mk A0
          have h : (if q4 ≠ 0 then some ((⟨#[]⟩ : ByteArray), (0 : Int), q4) else if 32 < fs.length + 1 then some (⟨#[]⟩, 0, 51) else (ber_Part_made.f q1 q2).bind fun m => if m = true then ber_walk.l0 ki (⟨q1, q2, [], 0⟩ :: ⟨tag, q3, out, deep⟩ :: fs) else (ber_put.f ki q1 q2).bind fun t => if out.length + t.size ≤ 140737488355328 then ber_walk.l0 ki (⟨tag, q3, out ++ t.data.toList, mx deep 1⟩ :: fs) else none) = some (r1, r2, r3) := h
          have HN := Aside0.mk h
          have e0 : (rest.toList == ([] : List UInt8)) = false := toList_ne hz
          clear A0 hz h H
          obtain ⟨m, hm⟩ : ∃ m, m = xs.length := ⟨_, rfl⟩
          have HM := Aside0.mk hm
          rw [← hm] at hl5 HS HL ⊢
          clear hm
          go_wp2_with fail
          (with_reducible refine (ber_Next.calls ki rest q1 q2 q3 q4 _ A.out).mono ?_)
          rintro e w4 ⟨rfl, hb⟩
          have HB4 := Aside0.mk hb
          clear hb hcz0 hcz1 hcz4 hfz1 hfz4
          go_upto_region 8 with (fail)
          have hblk : (w4.alloc (.cells #[.int .i64 q1, .string q2] 50)).heap[w4.heap.size]? = some (.cells #[.int .i64 q1, .string q2] 50 (0, 0)) := by simpa using heap_alloc_new w4 _
          have hm4 : Mv (fun _ => False) wr (w4.alloc (.cells #[.int .i64 q1, .string q2] 50)) := (Mv.of_below HB4.out).alloc _
          have HC5 := Aside0.mk hblk
          have HCS := Aside0.mk (show wr.heap.size ≤ w4.heap.size from HB4.out.size)
          have HF5 := Aside0.mk (Frs.mv hm4 HF.out (fun _ _ => ⟨id, fun _ _ => id⟩))
          have HS5 := Aside0.mk (Stk.mv (xs := (b, p, v) :: xs) HS.out hm4 (fun _ _ => id))
          have HB5 := Aside0.mk (Below.trans HB.out (Mv.below hm4 HB.out.size (fun _ h => h.elim)))
          obtain ⟨w5, hw5⟩ : ∃ w5, w5 = w4.alloc (.cells #[.int .i64 q1, .string q2] 50) := ⟨_, rfl⟩
          rw [← hw5] at HC5 HF5 HS5 HB5 ⊢
          clear hw5 hblk hm4
          obtain ⟨c, hc⟩ : ∃ c, c = w4.heap.size := ⟨_, rfl⟩
          rw [← hc] at HC5 HCS ⊢
          clear hc
          by_cases h4 : q4 = 0
          · subst h4
            have h := HN.out
            rw [if_neg (by simp)] at h
            by_cases h32 : 32 < fs.length + 1
            · rw [if_pos h32] at h
              simp only [Option.some.injEq, Prod.mk.injEq] at h
              obtain ⟨rfl, rfl, rfl⟩ := h
              have f1 : decide (32 < (m : Int) + 1) = true := decide_eq_true (by have := HL.out; omega)
              have f2 : decide (32 < m + 1) = true := decide_eq_true (by have := HL.out; omega)
              go_wp2
              rw [Exit.noGoto_ret]
              go_ret3
              exact ⟨rfl, HB5.out⟩
            · rw [if_neg h32] at h
              have f1 : decide (32 < (m : Int) + 1) = false := decide_eq_false (by have := HL.out; omega)
              have f2 : decide (32 < m + 1) = false := decide_eq_false (by have := HL.out; omega)
              obtain ⟨md, A0, h⟩ := Option.bind_eq_some_iff.mp h
              have AM := Aside0.mk A0
              have HN := Aside0.mk h
              have HSM := Aside0.mk (show fs.length ≤ 31 by omega)
              clear A0 h h32
              have hfz1 := blk_frozen HF5.out.1.blk 1
              have hcz1 := blk_cell HF5.out.1.blk 1
              go_upto_region 13 with (fail)
              have hcb : c ≠ b := by have := HCS.out; have := (Array.getElem?_eq_some_iff.1 HT.out.blk).1; omega
              have HC6 := Aside0.mk (show (w5.setCell ⟨b, 1, none⟩ (.string q3)).heap[c]? = some (.cells #[.int .i64 q1, .string q2] 50 (0, 0)) from blk_far HC5.out hcb _)
              have HF6 := Aside0.mk (Frs.set HF5.out 1 (.string q3) (f' := ⟨tag, q3, out, deep⟩) rfl rfl)
              have HS6 := Aside0.mk (Stk.set HS5.out HF5.out.1 1 (.string q3))
              have HB6 := Aside0.mk (Below.setCell HB5.out (p := ⟨b, 1, none⟩) HT.out.ge (.string q3))
              obtain ⟨w6, hw6⟩ : ∃ w6, w6 = w5.setCell ⟨b, 1, none⟩ (.string q3) := ⟨_, rfl⟩
              rw [← hw6] at HC6 HB6 ⊢
              have HF6 : Aside0 (Frs w6 w.heap.size ((b, p, v) :: xs) (⟨tag, q3, out, deep⟩ :: fs)) := by rw [hw6]; exact HF6
              have HS6 : Aside0 (Stk w6 w.heap.size (.slice (some ⟨g, 0, none⟩) (m + 1) cap) ((b, p, v) :: xs)) := by rw [hw6]; exact HS6
              clear hw6 hfz1 hcz1 hcb
              have hcc0 := blk_cell HC6.out 0
              have hcc1 := blk_cell HC6.out 1
              go_wp2_with fail
              (with_reducible refine (ber_Part_made.calls q1 q2 md _ AM.out).mono ?_)
              rintro e w7 ⟨rfl, hb7⟩
              have hm7 : Mv (fun _ => False) w6 w7 := Mv.of_below hb7
              have HC7 := Aside0.mk (hm7.heap HC6.out id)
              have HF7 := Aside0.mk (Frs.mv hm7 HF6.out (fun _ _ => ⟨id, fun _ _ => id⟩))
              have HS7 := Aside0.mk (Stk.mv HS6.out hm7 (fun _ _ => id))
              have HB7 := Aside0.mk (Below.trans HB6.out (Mv.below hm7 HB6.out.size (fun _ h => h.elim)))
              clear hm7 hb7 hcc0 hcc1
              have hcc0 := blk_cell HC7.out 0
              have hcc1 := blk_cell HC7.out 1
              have h := HN.out
              cases md with
              | true =>
                rw [if_pos rfl] at h
                have H := Aside0.mk h
                clear h
                obtain ⟨i0, hi, hz0, hz1, hz2⟩ := info_parts ptr_open
                have HI := Aside0.mk hi
                have HZ0 := Aside0.mk hz0
                have HZ1 := Aside0.mk hz1
                have HZ2 := Aside0.mk hz2
                clear hi hz0 hz1 hz2
                have h31 : m + 1 + 1 ≤ maxLen := by have := HL.out; have := HSM.out; unfold maxLen; omega
                have h32 : (m + 1 + 1) * 8 ≤ 140737488355328 := by have := HL.out; have := HSM.out; omega
                have hown : ∀ o1 o2, ((w7.alloc o1).alloc o2).ownsRow w.heap.size 137 1 (.slice (some ⟨g, 0, none⟩) (m + 1) cap) (m + 1) (((b, p, v) :: xs).reverse.map fun x => Value.pointer (some ⟨x.1, 0, none⟩)) := fun o1 o2 => by
                  have := World.ownsRow.alloc (World.ownsRow.alloc HS7.out o1) o2
                  rw [List.length_cons, ← HM.out] at this
                  exact this
                have HOWN := Aside0.mk hown
                clear hown
                go_wp2_with (at_builtin; refine wpList_append_one _ rfl (.tmp 64) (.tmp 71) 140 rfl w.heap.size 137 i0 (.pointer none) 8 Tryz.underlying140 HI.out HZ0.out rfl HZ1.out HZ2.out (.slice (some ⟨g, 0, none⟩) (m + 1) cap) (m + 1) (((b, p, v) :: xs).reverse.map fun x => Value.pointer (some ⟨x.1, 0, none⟩)) rfl (HOWN.out _ _) ⟨w7.heap.size + 1, 0, none⟩ 1 (.pointer (some ⟨w7.heap.size, 0, none⟩)) rfl ?c1 rfl h31 h32 ?c2 ?_)
                case c1 => simp
                case c2 => have := HB7.out.size; simp; omega
                intro v' w8 hr8 hg8 hk8
                have HPUSH := Aside0.mk (Frs.push (q1 := q1) (q2 := q2) HF7.out HS7.out HB7.out.size (by simpa using HM.out) (v' := v') (by simpa using hr8) hg8)
                clear hr8 hg8 hk8
                go_wp2
                go_roundg ki
                case measure => have := HKI.out; omega
                case rel => exact ⟨_, _, ⟨HPUSH.out.2.1⟩, ⟨HPUSH.out.1⟩, H, ⟨by have := HKI.out; have := HK.out; omega⟩, ⟨Below.trans HB7.out HPUSH.out.2.2⟩⟩
              | false =>
                rw [if_neg (by decide)] at h
                obtain ⟨t, A0, h⟩ := Option.bind_eq_some_iff.mp h
                have AP := Aside0.mk A0
                by_cases hq : out.length + t.size ≤ 140737488355328
                · rw [if_pos hq] at h
                  have H := Aside0.mk h
                  clear A0 h
                  have hl8 : liesAt Tryz.prog Tryz.prog.depth 139 (5 / Tryz.prog.cellsOf 139) 2 75 1 = true := by kernel_rfl
                  have HL8 := Aside0.mk hl8
                  clear hl8
                  have HCP := Aside0.mk (show ∀ W, Mv (fun _ => False) w7 W → W.cell? ⟨c, 0, none⟩ = some (.int .i64 q1) ∧ W.cell? ⟨c, 1, none⟩ = some (.string q2) from fun W hm => ⟨blk_cell (hm.heap HC7.out id) 0, blk_cell (hm.heap HC7.out id) 1⟩)
                  have HFP := Aside0.mk (show ∀ W, Mv (fun _ => False) w7 W → Frs W w.heap.size ((b, p, v) :: xs) (⟨tag, q3, out, deep⟩ :: fs) from fun W hm => Frs.mv hm HF7.out (fun _ _ => ⟨id, fun _ _ => id⟩))
                  have HSP := Aside0.mk (show ∀ W, Mv (fun _ => False) w7 W → Stk W w.heap.size (.slice (some ⟨g, 0, none⟩) (m + 1) cap) ((b, p, v) :: xs) from fun W hm => Stk.mv HS7.out hm (fun _ _ => id))
                  go_upto_region 15 with (fail)
                  go_cut [] (fun W => ∃ p' v' : Value, Aside0 (Frs W w.heap.size ((b, p', v') :: xs) (⟨tag, q3, out ++ t.data.toList, deep⟩ :: fs)) ∧ Aside0 (Stk W w.heap.size (.slice (some ⟨g, 0, none⟩) (m + 1) cap) ((b, p', v') :: xs)) ∧ Aside0 (Below w.heap.size w W))
                  case first =>
                    -- HEAVY{
                    go_region_with (first
                      | (go_at_call 66; refine (ber_put.calls ki q1 q2 t _ AP.out).mono ?_; rintro e w9 ⟨rfl, hb9⟩; have hm9 : Mv (fun _ => False) w7 w9 := Mv.undrew (Mv.of_below hb9); obtain ⟨hp0, hp1⟩ := HCP.out _ hm9)
                      | (go_at_call 41; refine (bld_WriteString w.heap.size b 2 5 139 _ p v out t _ (HFP.out _ hm9).1.ptr (HFP.out _ hm9).1.blk rfl rfl rfl HL8.out (by decide) (HFP.out _ hm9).1.row hq (by have := hm9.size; have := HB7.out.size; omega)).mono ?_; rintro e w10 ⟨rfl, v', hb10, hr10, hk10, hm10⟩))
                    all_goals
                      go_wp2
                      go_meet
                      case rel =>
                        refine ⟨_, v', ⟨Frs.wrote (HFP.out _ hm9) hb10 hr10 hk10 hm10⟩, ⟨Stk.wrote (HSP.out _ hm9) (HFP.out _ hm9).1 hm10⟩, ⟨?_⟩⟩
                        refine Below.trans (Below.trans HB7.out (Mv.below hm9 HB7.out.size (fun k hk => hk.elim))) (Mv.below hm10 (by have := hm9.size; have := HB7.out.size; omega) (fun k hk => ?_))
                        rcases hk with hk | hk
                        · rw [hk]; exact HT.out.ge
                        · exact (World.ownsRow.lt (HFP.out _ hm9).1.row k hk).1
                    -- }HEAVY
                  case rest =>
                    obtain ⟨p', v', HF9, HS9, HB9⟩ := hcut
                    have HX := HF9.out
                    have hcy := blk_cell HX.1.blk 4
                    have hfy := blk_frozen HX.1.blk 4
                    by_cases hdd : deep < 1
                    · have hx : mx deep 1 = 1 := by unfold mx; rw [if_pos hdd]
                      rw [hx] at H
                      go_wp2
                      have hxb := HXB.out
                      subst hxb
                      have hm := HM.out
                      subst hm
                      go_roundg ki
                      case measure => omega
                      case rel => exact ⟨_, _, ⟨tag, q3, out ++ t.data.toList, 1⟩, rfl, ⟨Stk.set HS9.out HX.1 4 _⟩, ⟨Frs.set HX 4 (.int .i64 1) rfl rfl⟩, H, ⟨by have := HKI.out; omega⟩, ⟨Below.setCell HB9.out (p := ⟨_, 4, none⟩) HX.1.ge _⟩⟩
                    · have hx : mx deep 1 = deep := by unfold mx; rw [if_neg hdd]
                      rw [hx] at H
                      go_wp2
                      have hxb := HXB.out
                      subst hxb
                      have hm := HM.out
                      subst hm
                      go_roundg ki
                      case measure => omega
                      case rel => exact ⟨_, _, ⟨tag, q3, out ++ t.data.toList, deep⟩, rfl, ⟨Stk.set HS9.out HX.1 4 _⟩, ⟨Frs.set HX 4 (.int .i64 deep) rfl rfl⟩, H, ⟨by have := HKI.out; omega⟩, ⟨Below.setCell HB9.out (p := ⟨_, 4, none⟩) HX.1.ge _⟩⟩
                · rw [if_neg hq] at h
                  exact absurd h (by simp)
          · have h := HN.out
            rw [if_pos h4] at h
            simp only [Option.some.injEq, Prod.mk.injEq] at h
            obtain ⟨rfl, rfl, rfl⟩ := h
            have f1 : (q4 != 0) = true := bne_iff_ne.mpr h4
            clear h4
            go_wp2
            rw [Exit.noGoto_ret]
            go_ret3
            exact ⟨rfl, HB5.out⟩
  · rw [if_neg hq] at h
    simp only [Option.some.injEq, Prod.mk.injEq] at h
    obtain ⟨rfl, rfl, rfl⟩ := h
    by_cases h4 : n4 = 0
    · have e1 : (n4 != 0) = false := bne_eq_false_iff_eq.mpr h4
      have e2 : (n3.toList == ([] : List UInt8)) = false := toList_ne (fun hh => hq ⟨h4, hh⟩)
      clear h4 hq H A
      go_wp2
      rw [Exit.noGoto_ret]
      go_ret3
      exact ⟨rfl, (HB.out.alloc HB.out.size _)⟩
    · have e1 : (n4 != 0) = true := bne_iff_ne.mpr h4
      clear h4 hq H A
      go_wp2
      rw [Exit.noGoto_ret]
      go_ret3
      exact ⟨rfl, (HB.out.alloc HB.out.size _)⟩

/-! ### ber_Canon: function 28 -/
def ber_Canon.f (k : Nat) (a0 : ByteArray) : Option (ByteArray × Int) := (ber_walk.f k a0).bind fun bt260 => (some (bt260.1, bt260.2.2))
theorem ber_Canon.mono : ∀ a0 k, LeO (ber_Canon.f k a0) (ber_Canon.f (k + 1) a0) := by
  intro a0 k
  unfold ber_Canon.f
  repeat' first
      | (with_reducible exact ber_walk.mono _ _)
      | (with_reducible exact LeO.refl _)
      | (with_reducible exact LeO.none _)
      | (with_reducible refine LeO.ite ?_ ?_)
      | (with_reducible refine LeO.bind ?_ (fun _ => ?_))
      | exact ber_walk.mono _ _
      | exact LeO.none _
      | refine LeO.ite ?_ ?_
      | refine LeO.bind ?_ (fun _ => ?_)
set_option maxHeartbeats 8000000 in
set_option maxRecDepth 100000 in
theorem ber_Canon.calls (k : Nat) (a0 : ByteArray) (r1 : ByteArray) (r2 : Int) (w : World) (h : ber_Canon.f k a0 = some (r1, r2)) :
    Calls Tryz.prog 28 #[.string a0] w fun e w' => e = .returned (.tuple #[.string r1, .int .i64 r2]) ∧ Below w.heap.size w w' := by
  have HB := Aside0.mk (Below.refl w.heap.size w)
  have H : ((ber_walk.f k a0).bind fun bt260 => (some (bt260.1, bt260.2.2))) = some (r1, r2) := h
  clear h
  replace H := Option.bind_eq_some_iff.mp H
  obtain ⟨⟨t260, t261, t262⟩, A20, H⟩ := H
  replace H : (some (t260, t262)) = some (r1, r2) := H
  have A2 := Aside0.mk A20
  clear A20
  simp only [Option.some.injEq, Prod.mk.injEq] at H
  obtain ⟨rfl, rfl⟩ := H
  go_enter Tryz.func28, Tryz.ntmps28
  go_wp2_with (first | ((with_reducible refine gate_callee (f := 65) rfl ?_); refine goesL_ (some 9) rfl rfl Tryz.func65 (by kernel_rfl) rfl #[.string a0] rfl (by (try simp only [List.map_toArray, List.map_cons, List.map_nil]); first | done | rfl | (simp only [List.length_drop, List.length_take]; rfl)) ?_; (with_reducible refine (ber_walk.calls k a0 t260 t261 t262 _ A2.out).mono ?_); rintro e w3 ⟨rfl, hb⟩; refine ⟨_, rfl, ?_⟩; have n0_ := Aside0.mk (below_step (by repeat (first | (with_reducible first | exact HB.out | apply below_alloc | apply pw_below_drewN | apply below_drew1) | exact HB.out)) hb); clear HB; have HB := n0_; clear n0_; (try clear hb); (try clear hb2); (try clear hk); (try clear hi)))
  go_ret2
  exact ⟨by first | rfl | (simp only [i64_w, i32_w]; rfl) | (simp [errW_none, errW_some] <;> rfl) | (simp [*, errW_none, errW_some] <;> rfl), by repeat (first | (with_reducible first | exact HB.out | apply below_alloc | apply pw_below_drewN | apply below_drew1) | exact HB.out)⟩

end Go.Proofs.YtjfimileopbadaaGreatDoor.XPdB
