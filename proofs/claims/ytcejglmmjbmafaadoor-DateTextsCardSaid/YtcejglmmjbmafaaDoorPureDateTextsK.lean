/- Plain Lean: what DateTexts' printed function answers. -/
import Derived.Test.YtcejglmmjbmafaaDoorPure5K
import Derived.Test.YtcejglmmjbmafaaDoorXF3K
namespace Go.Proofs.YtcejglmmjbmafaaDoor.Pure
open Go.RowKit Go.Proofs.YtcejglmmjbmafaaDoor.X Go.Proofs.YtcejglmmjbmafaaDoor.Cal Go.Proofs.YtcejglmmjbmafaaDoorW.PrintWords Go.Proofs.YtcejglmmjbmafaaDoorW.PrintLast Go.Proofs.YtcejglmmjbmafaaDoorW.PrintMore
set_option linter.unusedVariables false
set_option linter.unusedSimpArgs false

/-- A time's text, the document's, and what is read of it. -/
theorem round_t (x : Int) : ∃ a, Ev (fun k => date_Text.f k x) a ∧ Ev (fun k => ambryref9_Text.f k x) a ∧ Ev (fun k => date_Parse.f k a) (cl x, 0) := by
  obtain ⟨h0, h1⟩ := cl_lo x
  obtain ⟨y, mo, d, t, hs, _, _⟩ := parts (cl x) h0 h1
  refine ⟨_, text_ev t hs.symm, rtext_ev t hs.symm, ?_⟩
  have := parse_yes (a := X.bytes (T1 y mo d _ _ _ (wk y mo d))) t (.inl rfl)
  rw [hs] at this
  exact this
theorem one_text (x : Int) : ∃ k, (ambrylaw9_known.f k).bind (fun t217 => (if t217 = true then ((date_Text.f k x).bind fun t218 => ((date_Parse.f k t218).bind fun bt219 => ((ambryref9_Text.f k x).bind fun t221 => (if t218.toList = t221.toList then (if bt219.2 = 0 then (some (bt219.1 == (mn (mx x 0) 253402300799))) else (some false)) else (some false))))) else some false)) = some true := by
  obtain ⟨s, hs, rs, ps⟩ := round_t x
  obtain ⟨k0, h0⟩ := known_ev
  obtain ⟨k1, h1⟩ := hs
  obtain ⟨k2, h2⟩ := ps
  obtain ⟨k3, h3⟩ := rs
  refine ⟨k0 + k1 + k2 + k3, ?_⟩
  have e0 := h0 (k0 + k1 + k2 + k3) (by omega)
  have e1 := h1 (k0 + k1 + k2 + k3) (by omega)
  have e2 := h2 (k0 + k1 + k2 + k3) (by omega)
  have e3 := h3 (k0 + k1 + k2 + k3) (by omega)
  simp only at e0 e1 e2 e3
  simp only [e0, e1, e2, e3, Option.bind_some, if_true]
  have c0 : mn (mx x 0) 253402300799 = cl x := rfl
  rw [c0]
  simp
theorem DateTexts : X.ambrylaw9_DateTexts.Pure := by
  intro a0 a1 _
  cases a1
  · obtain ⟨k, h⟩ := one_text (Int.tmod a0 253402300799)
    refine ⟨k, h ▸ ?_⟩
    simp only [ambrylaw9_DateTexts.f, Bool.false_eq_true, if_false]
  · obtain ⟨k, h⟩ := one_text a0
    refine ⟨k, h ▸ ?_⟩
    simp only [ambrylaw9_DateTexts.f, if_true]
end Go.Proofs.YtcejglmmjbmafaaDoor.Pure
