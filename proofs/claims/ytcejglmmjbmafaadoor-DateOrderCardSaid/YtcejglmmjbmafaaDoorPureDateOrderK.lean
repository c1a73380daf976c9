/- Plain Lean: what DateOrder's printed function answers. -/
import Derived.Test.YtcejglmmjbmafaaDoorK29
import Derived.Test.YtcejglmmjbmafaaDoorXF7K
namespace Go.Proofs.YtcejglmmjbmafaaDoor.Pure
open Go.RowKit Go.Proofs.YtcejglmmjbmafaaDoor.X Go.Proofs.YtcejglmmjbmafaaDoor.Cal Go.Proofs.YtcejglmmjbmafaaDoorW.PrintWords Go.Proofs.YtcejglmmjbmafaaDoorW.PrintLast Go.Proofs.YtcejglmmjbmafaaDoorW.PrintMore
set_option linter.unusedVariables false
set_option linter.unusedSimpArgs false

/-- A time's text, and what is read of it. -/
theorem round_o (x : Int) : ∃ a, Ev (fun k => date_Text.f k x) a ∧ Ev (fun k => date_Parse.f k a) (cl x, 0) := by
  obtain ⟨h0, h1⟩ := cl_lo x
  obtain ⟨y, mo, d, t, hs, _, _⟩ := parts (cl x) h0 h1
  refine ⟨_, text_ev t hs.symm, ?_⟩
  have := parse_yes (a := X.bytes (T1 y mo d _ _ _ (wk y mo d))) t (.inl rfl)
  rw [hs] at this
  exact this
theorem DateOrder : X.ambrylaw9_DateOrder.Pure := by
  intro a0 a1 _ _
  obtain ⟨s, hs, ps⟩ := round_o a0
  obtain ⟨u, hu, pu⟩ := round_o a1
  obtain ⟨k0, h0⟩ := known_ev
  obtain ⟨k1, h1⟩ := hs
  obtain ⟨k2, h2⟩ := ps
  obtain ⟨k3, h3⟩ := hu
  obtain ⟨k4, h4⟩ := pu
  refine ⟨k0 + k1 + k2 + k3 + k4, ?_⟩
  have e0 := h0 (k0 + k1 + k2 + k3 + k4) (by omega)
  have e1 := h1 (k0 + k1 + k2 + k3 + k4) (by omega)
  have e2 := h2 (k0 + k1 + k2 + k3 + k4) (by omega)
  have e3 := h3 (k0 + k1 + k2 + k3 + k4) (by omega)
  have e4 := h4 (k0 + k1 + k2 + k3 + k4) (by omega)
  simp only at e0 e1 e2 e3 e4
  simp only [ambrylaw9_DateOrder.f, e0, e1, e2, e3, e4, Option.bind_some, if_true]
  have ew : wrap64 ((0 : Int) + 0) = 0 := by rw [w64 (x := (0 : Int) + 0) (by omega) (by omega)]; rfl
  rw [if_pos ew]
  have c0 : mn (mx a0 0) 253402300799 = cl a0 := rfl
  have c1 : mn (mx a1 0) 253402300799 = cl a1 := rfl
  rw [c0, c1]
  simp
end Go.Proofs.YtcejglmmjbmafaaDoor.Pure
