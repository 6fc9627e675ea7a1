/- Memory: what a step may change ('Mv'), and a row of bytes of the call's own. No program in sight. -/
import Derived.Below
import Derived.Laws.AppendOwn
import Derived.Laws.OwnMore
import Derived.Lib.AppendStr
import Derived.Lib.Builder
import Derived.Lib.UnsafeStr
import Derived.WalkKit
import Derived.Deep.Draws
import Derived.OwnWalk
import Derived.Maps.AppendAt
import Derived.WalkSmall
namespace Gong
open Go Go.RowKit
set_option linter.unusedVariables false
set_option linter.unusedSimpArgs false
/-- From w to w' at most the blocks that S names have changed, of those that were there. -/
structure Mv (S : Nat → Prop) (w w' : World) : Prop where
  os : w'.os = w.os
  tape : w'.tape = w.tape
  output : w'.output = w.output
  size : w.heap.size ≤ w'.heap.size
  block : ∀ k, k < w.heap.size → ¬ S k → w'.heap[k]? = w.heap[k]?
theorem Mv.refl (S : Nat → Prop) (w : World) : Mv S w w := ⟨rfl, rfl, rfl, Nat.le_refl _, fun _ _ _ => rfl⟩
theorem Mv.trans {S T : Nat → Prop} {a b c : World} (h : Mv S a b) (k : Mv T b c) (hT : ∀ i, i < a.heap.size → T i → S i) : Mv S a c :=
  ⟨k.os.trans h.os, k.tape.trans h.tape, k.output.trans h.output, Nat.le_trans h.size k.size, fun i hi hs =>
    (k.block i (Nat.lt_of_lt_of_le hi h.size) (fun ht => hs (hT i hi ht))).trans (h.block i hi hs)⟩
theorem Mv.mono {S T : Nat → Prop} {a b : World} (h : Mv S a b) (hT : ∀ i, i < a.heap.size → S i → T i) : Mv T a b :=
  ⟨h.os, h.tape, h.output, h.size, fun i hi ht => h.block i hi (fun hs => ht (hT i hi hs))⟩
theorem Mv.below {S : Nat → Prop} {B : Nat} {w w' : World} (h : Mv S w w') (hB : B ≤ w.heap.size) (hS : ∀ k, S k → B ≤ k) : Below B w w' :=
  ⟨h.os, h.tape, h.output, h.size, fun k hk => h.block k (Nat.lt_of_lt_of_le hk hB) (fun hs => by have := hS k hs; omega)⟩
theorem Mv.of_below {S : Nat → Prop} {w w' : World} (h : Below w.heap.size w w') : Mv S w w' :=
  ⟨h.os, h.tape, h.output, h.size, fun k hk _ => h.block k hk⟩
theorem Mv.then_below {S : Nat → Prop} {a w w' : World} (h : Mv S a w) (k : Below w.heap.size w w') : Mv S a w' :=
  h.trans (Mv.of_below (S := fun _ => False) k) (fun _ _ h => h.elim)
theorem heap_setCell_ne (w : World) (a : Addr) (v : Value) (k : Nat) (h : k ≠ a.block) : (w.setCell a v).heap[k]? = w.heap[k]? := Below.heap_setCell w a v k h
theorem Mv.setCell {S : Nat → Prop} {a w : World} (h : Mv S a w) {b : Nat} (hb : S b) (o : Nat) (v : Value) : Mv S a (w.setCell ⟨b, o, none⟩ v) :=
  ⟨h.os, h.tape, h.output, by simpa [World.setCell] using h.size, fun i hi hs =>
    (heap_setCell_ne w ⟨b, o, none⟩ v i (fun e => hs (by rw [show i = b from e]; exact hb))).trans (h.block i hi hs)⟩
theorem Mv.setNew {S : Nat → Prop} {a w : World} (h : Mv S a w) {b : Nat} (hb : a.heap.size ≤ b) (o : Nat) (v : Value) : Mv S a (w.setCell ⟨b, o, none⟩ v) :=
  ⟨h.os, h.tape, h.output, by simpa [World.setCell] using h.size, fun i hi hs =>
    (heap_setCell_ne w ⟨b, o, none⟩ v i (by show i ≠ b; omega)).trans (h.block i hi hs)⟩
theorem Mv.alloc {S : Nat → Prop} {a w : World} (h : Mv S a w) (o : Obj) : Mv S a (w.alloc o) :=
  h.then_below ((Below.refl _ _).alloc (Nat.le_refl _) o)
theorem Mv.drewN {S : Nat → Prop} {a w : World} (h : Mv S a w) (n : Nat) : Mv S a (w.drewN n) := ⟨h.os, h.tape, h.output, h.size, h.block⟩
theorem Mv.drew {S : Nat → Prop} {a w : World} (h : Mv S a w) : Mv S a w.drew := ⟨h.os, h.tape, h.output, h.size, h.block⟩
theorem Mv.undrew {S : Nat → Prop} {a w : World} (h : Mv S a.drew w) : Mv S a w := ⟨h.os, h.tape, h.output, h.size, h.block⟩
theorem Mv.grown {S : Nat → Prop} {a w w' : World} {row : Option Nat} (h : Mv S a w) (hg : w.grownBy w' row) (hr : ∀ k, row = some k → k < a.heap.size → S k) : Mv S a w' :=
  ⟨hg.os.trans h.os, hg.tape.trans h.tape, hg.output.trans h.output, Nat.le_trans h.size hg.size, fun i hi hs =>
    (hg.block i (Nat.lt_of_lt_of_le hi h.size) (fun e => hs (hr i e.symm hi))).trans (h.block i hi hs)⟩
theorem Mv.freeze {S : Nat → Prop} {a w : World} (h : Mv S a w) {p : Addr} (hp : S p.block) (n : Nat) : Mv S a (w.freeze p n) := by
  refine h.trans (T := fun k => k = p.block) ?_ (fun i _ e => by rw [e]; exact hp)
  unfold World.freeze
  split
  · exact Mv.refl _ w
  · exact ⟨rfl, rfl, rfl, by simp, fun k hk hs => by
      simp only [Array.getElem?_modify]
      rw [if_neg (fun e => hs e.symm)]⟩
theorem Mv.heap {S : Nat → Prop} {w w' : World} (h : Mv S w w') {k : Nat} {o : Obj} (hb : w.heap[k]? = some o) (hk : ¬ S k) : w'.heap[k]? = some o :=
  (h.block k (Array.getElem?_eq_some_iff.1 hb).1 hk).trans hb
theorem Mv.own {S : Nat → Prop} {w w' : World} (h : Mv S w w') {base : Nat} {e : TypeId} {size : Nat} {v : Value} {n : Nat} {xs : List Value}
    (ho : w.ownsRow base e size v n xs) (hv : ∀ k, v.ownBlock = some k → ¬ S k) : w'.ownsRow base e size v n xs := by
  refine ⟨ho.1, ?_⟩
  rcases ho.2 with hn | ⟨g, cap, cur, rfl, hb, hgg, rest⟩
  · exact .inl hn
  · exact .inr ⟨g, cap, cur, rfl, hb, h.heap hgg (hv g rfl), rest⟩
theorem owns_ne {w : World} {base : Nat} {e t : TypeId} {size : Nat} {v : Value} {n : Nat} {xs : List Value} {b : Nat} {cs : Array Value} {fr : Nat × Nat}
    (ho : w.ownsRow base e size v n xs) (hb : w.heap[b]? = some (.cells cs t fr)) (ht : e ≠ t) : v.ownBlock ≠ some b := by
  rcases ho.2 with ⟨rfl, _⟩ | ⟨g, cap, cur, rfl, _, hg, _⟩
  · simp [Value.ownBlock]
  · intro e1
    simp [Value.ownBlock] at e1
    subst e1
    rw [hb] at hg
    injection hg with hg
    injection hg with _ h2 _
    exact ht h2.symm
theorem set_same {cs : Array Value} {o : Nat} {p : Value} (h : cs[o]? = some p) : cs.setIfInBounds o p = cs := by
  apply Array.ext_getElem?
  intro i
  by_cases e : o = i
  · subst e
    rw [h, Array.getElem?_setIfInBounds_self]
    rw [if_pos (Array.getElem?_eq_some_iff.1 h).1]
  · rw [Array.getElem?_setIfInBounds_ne e]
/-- A row of bytes of the call's own. -/
def BRow (w : World) (B : Nat) (e : TypeId) (v : Value) (l : List UInt8) : Prop := w.ownsRow B e 1 v l.length (l.map fun b => Value.int .u8 b.toNat)
theorem strCells_eq (s : ByteArray) : Lib.strCells s = s.data.toList.map fun b => Value.int .u8 b.toNat := by
  simp [Lib.strCells]
theorem BRow.nil (w : World) (B : Nat) (e : TypeId) : BRow w B e (.slice none 0 0) [] := World.ownsRow_nil w B e 1
theorem BRow.slice {w : World} {B : Nat} {e : TypeId} {v : Value} {l : List UInt8} (h : BRow w B e v l) : ∃ A c, v = .slice A l.length c := by
  rcases h.2 with ⟨rfl, h0⟩ | ⟨g, cap, cur, rfl, _⟩
  · exact ⟨none, 0, by rw [h0]⟩
  · exact ⟨_, _, rfl⟩
theorem BRow.mv {S : Nat → Prop} {w w' : World} {B : Nat} {e : TypeId} {v : Value} {l : List UInt8} (h : BRow w B e v l) (hm : Mv S w w') (hv : ∀ k, v.ownBlock = some k → ¬ S k) : BRow w' B e v l := hm.own h hv
section
variable {P : Program} (w : World)
/-- Appending a text's bytes: where the new row lies, too. -/
theorem run_append_brow (base : Nat) (t u ty e : TypeId) (i : TypeInfo) (ht : P.underlying t = some (.slice e)) (hu : P.underlying u = some .string) (hi : P.info? e = some i) (hz : i.zero = some (.int .u8 0))
    (hsize : i.size = 1) (hby : i.bytes = 1) (v : Value) (l : List UInt8) (hown : BRow w base e v l) (s : ByteArray) (hb : l.length + s.size ≤ 140737488355328) (hbase : base ≤ w.heap.size) :
    ∃ v' w', (Builtin.append_ #[t, u] ty #[v, .string s]).run P w = .ok v' w' ∧ BRow w' base e v' (l ++ s.data.toList) ∧ w.grownBy w' v.ownBlock ∧ (∀ k, v'.ownBlock = some k → v.ownBlock = some k ∨ k = w.heap.size) := by
  have hm : l.length + s.size ≤ maxLen := by unfold maxLen; omega
  obtain ⟨v', w', hr, h1, h2, h3⟩ := Lib.run_append_own_string w base t u ty e i ht hu hi hz hsize hby v l.length _ hown s hm hb hbase
  refine ⟨v', w', hr, ?_, h2, ?_⟩
  · unfold BRow
    rw [strCells_eq, ← List.map_append] at h1
    rw [List.length_append]
    exact h1
  · have hsm : ((l.length + s.size : Nat) : Int) ≤ 9223372036854775807 := by omega
    rcases hown.2 with ⟨rfl, h0⟩ | ⟨g, cap, cur, rfl, hbg, hg, hnc, hcm, hcs, htake⟩
    · by_cases hs : s.size = 0
      · intro k hk
        rw [(h3.2 ⟨rfl, hs⟩)] at hk
        simp [Value.ownBlock] at hk
      · have hr' := run_append_nil_string (P := P) w t u ty e i (.int .u8 0) ht hu hi hz s (by omega) (by omega) (by rw [hby]; omega)
        rw [hr] at hr'
        injection hr' with e1 _
        subst e1
        intro k hk
        simp [Value.ownBlock] at hk
        exact .inr hk.symm
    · by_cases hroom : l.length + s.size ≤ cap
      · have hr' := Lib.run_append_room_string (P := P) w t u ty e i ht hu hi hsize g l.length cap cur hg s hroom (by omega)
        rw [hr] at hr'
        injection hr' with e1 _
        subst e1
        intro k hk
        exact .inl (by simpa [Value.ownBlock] using hk)
      · have holds : ∀ j u, (l.map fun b => Value.int .u8 b.toNat)[j]? = some u → w.cell? ((⟨g, 0, none⟩ : Addr).add j) = some u := World.ownsRow.cells hown (g := g) rfl
        have hr' := Lib.run_append_grow_string (P := P) w t u ty e i (.int .u8 0) ht hu hi hz ⟨g, 0, none⟩ l.length cap _ (by rw [hsize]; simp) holds s (by omega) (by omega) (by rw [hby]; exact growslice_fits (by omega) (by omega))
        rw [hr] at hr'
        injection hr' with e1 _
        subst e1
        intro k hk
        simp [Value.ownBlock] at hk
        exact .inr hk.symm
theorem wpList_append_brow {ops : Array Oper} {rest : List Oper} {o : Oper} {a : Act} {Q : Exit → Act → World → Prop} (hgd : o.guard = none) (sl x : Operand) (t u : TypeId)
    (ho : o.op = .call { callee := .builtin .append, args := #[sl, x], argTypes := #[t, u] })
    (base : Nat) (e : TypeId) (i : TypeInfo) (ht : P.underlying t = some (.slice e)) (hu : P.underlying u = some .string) (hi : P.info? e = some i) (hz : i.zero = some (.int .u8 0))
    (hsize : i.size = 1) (hby : i.bytes = 1)
    (v : Value) (l : List UInt8) (hs : a.eval sl = v) (hown : BRow w base e v l) (s : ByteArray) (hx : a.eval x = .string s)
    (hbytes : l.length + s.size ≤ 140737488355328) (hbase : base ≤ w.heap.size)
    (h : ∀ v' w', BRow w' base e v' (l ++ s.data.toList) → w.grownBy w' v.ownBlock → (∀ k, v'.ownBlock = some k → v.ownBlock = some k ∨ k = w.heap.size) → wpList P ops Q rest (a.put o.dst v') w') : wpList P ops Q (o :: rest) a w := by
  refine wpList_plain hgd fun K hK => ?_
  obtain ⟨v', w', hr, h2, h3, h4⟩ := run_append_brow (P := P) w base t u o.type e i ht hu hi hz hsize hby v l hown s hbytes hbase
  unfold Oper.wp execOp
  simp only [ho, resolve, invoke, builtin, Sem.run_bind, Sem.run_pure, Result.andThen_ok, List.map_toArray, List.map_cons, List.map_nil, hs, hx, hr]
  exact hK _ _ (h v' w' h2 h3 h4)
theorem wpList_append_one {ops : Array Oper} {rest : List Oper} {o : Oper} {a : Act} {Q : Exit → Act → World → Prop} (hgd : o.guard = none) (sl x : Operand) (t : TypeId)
    (ho : o.op = .call { callee := .builtin .append, args := #[sl, x], argTypes := #[t, t] })
    (base : Nat) (e : TypeId) (i : TypeInfo) (z : Value) (bytes : Nat) (ht : P.underlying t = some (.slice e)) (hi : P.info? e = some i) (hz : i.zero = some z) (hz1 : z.cells.size = 1)
    (hsize : i.size = 1) (hby : i.bytes = bytes)
    (v : Value) (n : Nat) (xs : List Value) (hs : a.eval sl = v) (hown : w.ownsRow base e 1 v n xs) (b : Addr) (c : Nat) (u : Value) (hx : a.eval x = .slice (some b) 1 c) (hc : w.cell? b = some u) (hu : u.oneCell' = true)
    (hlen : n + 1 ≤ maxLen) (hbytes : (n + 1) * bytes ≤ 140737488355328) (hbase : base ≤ w.heap.size)
    (h : ∀ v' w', w'.ownsRow base e 1 v' (n + 1) (xs ++ [u]) → w.grownBy w' v.ownBlock → (∀ k, v'.ownBlock = some k → v.ownBlock = some k ∨ k = w.heap.size) → wpList P ops Q rest (a.put o.dst v') w') : wpList P ops Q (o :: rest) a w := by
  refine wpList_plain hgd fun K hK => ?_
  obtain ⟨v', w', hr, h2, h3, h4, h5⟩ := run_append_own_at (P := P) w base t o.type e i z 1 bytes ht hi hz hsize hby hz1 (by decide) v n xs hown b 1 c [u] rfl
    (fun j y hj => by
      match j, hj with
      | 0, hj =>
        simp at hj
        subst hj
        have e0 : b.add 0 = b := by unfold Addr.add; simp
        rw [e0]; exact hc)
    (fun y hy => by simp at hy; subst hy; exact hu) hlen hbytes hbase
  unfold Oper.wp execOp
  simp only [ho, resolve, invoke, builtin, Sem.run_bind, Sem.run_pure, Result.andThen_ok, List.map_toArray, List.map_cons, List.map_nil, hs, hx, hr]
  refine hK _ _ (h v' w' h2 h3 (fun k hk => ?_))
  rcases h5 with h5 | h5
  · exact .inl (by rw [← h5]; exact hk)
  · rw [h5] at hk
    exact .inr (Option.some.inj hk).symm
theorem wpList_append_byte {ops : Array Oper} {rest : List Oper} {o : Oper} {a : Act} {Q : Exit → Act → World → Prop} (hgd : o.guard = none) (sl x : Operand) (t : TypeId)
    (ho : o.op = .call { callee := .builtin .append, args := #[sl, x], argTypes := #[t, t] })
    (base : Nat) (e : TypeId) (i : TypeInfo) (ht : P.underlying t = some (.slice e)) (hi : P.info? e = some i) (hz : i.zero = some (.int .u8 0))
    (hsize : i.size = 1) (hby : i.bytes = 1)
    (v : Value) (l : List UInt8) (hs : a.eval sl = v) (hown : BRow w base e v l) (b : Addr) (c : Nat) (u : UInt8) (hx : a.eval x = .slice (some b) 1 c) (hc : w.cell? b = some (.int .u8 u.toNat))
    (hbytes : l.length + 1 ≤ 140737488355328) (hbase : base ≤ w.heap.size)
    (h : ∀ v' w', BRow w' base e v' (l ++ [u]) → w.grownBy w' v.ownBlock → (∀ k, v'.ownBlock = some k → v.ownBlock = some k ∨ k = w.heap.size) → wpList P ops Q rest (a.put o.dst v') w') : wpList P ops Q (o :: rest) a w := by
  refine wpList_plain hgd fun K hK => ?_
  obtain ⟨v', w', hr, h2, h3, h4, h5⟩ := run_append_own_at (P := P) w base t o.type e i (.int .u8 0) 1 1 ht hi hz hsize hby rfl (by decide) v l.length _ hown b 1 c [.int .u8 u.toNat] rfl
    (fun j y hj => by
      match j, hj with
      | 0, hj =>
        simp at hj
        subst hj
        have e0 : b.add 0 = b := by unfold Addr.add; simp
        rw [e0]; exact hc)
    (fun y hy => by simp at hy; subst hy; rfl) (by unfold maxLen; omega) (by omega) hbase
  unfold Oper.wp execOp
  simp only [ho, resolve, invoke, builtin, Sem.run_bind, Sem.run_pure, Result.andThen_ok, List.map_toArray, List.map_cons, List.map_nil, hs, hx, hr]
  refine hK _ _ (h v' w' ?_ h3 (fun k hk => ?_))
  · unfold BRow
    rw [List.length_append, List.map_append]
    exact h2
  · rcases h5 with h5 | h5
    · exact .inl (by rw [← h5]; exact hk)
    · rw [h5] at hk
      exact .inr (Option.some.inj hk).symm
theorem BRow.alloc {w : World} {B : Nat} {e : TypeId} {v : Value} {l : List UInt8} (h : BRow w B e v l) (o : Obj) : BRow (w.alloc o) B e v l := World.ownsRow.alloc h o
end
end Gong
