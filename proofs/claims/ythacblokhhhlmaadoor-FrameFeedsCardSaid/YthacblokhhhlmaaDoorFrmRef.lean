/- The reference's framer: what is read anew at each turn is what is read byte by byte. -/
import Derived.Test.YthacblokhhhlmaaDoorFrmSpec
namespace Go.Proofs.YthacblokhhhlmaaDoor.FrmS
open Go.RowKit Gong Go.Proofs.YthacblokhhhlmaaDoor.XFf Go.Proofs.YthacblokhhhlmaaDoorW.PrintWords Go.Proofs.YthacblokhhhlmaaDoorW.PrintLast Go.Proofs.YthacblokhhhlmaaDoorW.PrintMore
set_option linter.unusedVariables false
set_option linter.unusedSimpArgs false
def st (m d : Int) : Fm := ⟨m, 0, 0, 0, [], d⟩
theorem st_inv {m : Int} (d : Int) (h0 : 1 ≤ m) (h1 : m ≤ 65535) : Inv (st m d) := ⟨h0, h1, .inl ⟨rfl, rfl, rfl, rfl⟩⟩
theorem bstep_held {F F' : Fm} {b : UInt8} (h : Inv F) (hs : F.state ≠ 3) (hb : bstep F b = some (F', none)) : F'.held = F.held + 1 := by
  have m1 := h.m1
  have m2 := h.m2
  unfold bstep at hb
  by_cases c : F.state = 2
  · rw [if_pos c] at hb
    by_cases c2 : ((F.body.length : Int) + 1) = F.number
    · rw [if_pos c2] at hb; simp at hb
    · rw [if_neg c2] at hb
      simp only [Option.some.injEq, Prod.mk.injEq, and_true] at hb
      subst hb
      unfold Fm.held
      simp only
      rw [if_neg (by omega), if_pos c, if_neg (by omega), if_pos c, List.length_append, List.length_singleton]
      rcases h.st with h | h | h | h
      · omega
      · omega
      · obtain ⟨_, h1, h2, h3, h4, h5⟩ := h
        unfold wrap64
        omega
      · omega
  · rw [if_neg c] at hb
    have hst : (F.state = 0 ∧ F.digits = 0 ∧ F.body = []) ∨ (F.state = 1 ∧ 1 ≤ F.digits ∧ F.digits ≤ 65535 ∧ F.body = []) := by
      rcases h.st with h | h | h | h
      · exact .inl ⟨h.1, h.2.2.1, h.2.2.2⟩
      · exact .inr ⟨h.1, h.2.2.2.1, by omega, h.2.2.2.2.2⟩
      · omega
      · omega
    split at hb
    · simp only [Option.some.injEq, Prod.mk.injEq, and_true] at hb
      subst hb
      unfold Fm.head at *
      by_cases c1 : F.state = 1 ∧ (b.toNat : Int) = 32
      · rw [if_pos c1]
        rcases hst with h | h
        · omega
        · unfold Fm.held
          simp only
          rw [if_neg (by decide), if_pos trivial, if_pos c1.1, h.2.2.2]
          unfold wrap64
          simp
          omega
      · rw [if_neg c1] at *
        rename_i hh
        by_cases c2 : F.state = 0 ∧ (b.toNat : Int) = 48
        · rw [if_pos c2] at hh; simp at hh
        · rw [if_neg c2] at *
          by_cases c3 : (b.toNat : Int) < 48 ∨ 57 < (b.toNat : Int)
          · rw [if_pos c3] at hh; simp at hh
          · rw [if_neg c3]
            unfold Fm.held
            simp only
            rw [if_pos trivial]
            rcases hst with h | h
            · rw [if_neg (by omega), if_neg (by omega), h.2.1]; unfold wrap64; omega
            · rw [if_pos h.1]; unfold wrap64; omega
    · simp at hb
theorem run_held : ∀ (s : List UInt8) (F F' : Fm), Inv F → F.state ≠ 3 → brun F s [] = ([], F') → F'.state ≠ 3 → F'.held = F.held + s.length
  | [], F, F', _, _, h, _ => by
    obtain ⟨_, rfl⟩ := Prod.mk.inj (show (([] : List ByteArray), F) = ([], F') from h)
    simp
  | b :: s, F, F', hI, hs, h, h3 => by
    cases hb : bstep F b with
    | none =>
      rw [brun_none hb] at h
      obtain ⟨_, rfl⟩ := Prod.mk.inj h
      exact absurd rfl h3
    | some p =>
      obtain ⟨F1, m⟩ := p
      have hi := bstep_inv hI hs hb
      cases m with
      | none =>
        rw [brun_some hb] at h
        have h1 := run_held s F1 F' hi.1 hi.2.1 h h3
        rw [h1, bstep_held hI hs hb, List.length_cons]
        omega
      | some m =>
        rw [brun_tell hb, brun_out] at h
        simp at h
end Go.Proofs.YthacblokhhhlmaaDoor.FrmS
