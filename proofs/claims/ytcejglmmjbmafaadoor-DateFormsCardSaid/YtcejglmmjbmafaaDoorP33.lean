/- DateForms: the law answers true for every input: what its walk wants, shown. -/
import Derived.Test.YtcejglmmjbmafaaDoorP32
namespace Go.Proofs.YtcejglmmjbmafaaDoor.Pure
open Go.RowKit Go.Proofs.YtcejglmmjbmafaaDoor.X Go.Proofs.YtcejglmmjbmafaaDoor.Cal Go.Proofs.YtcejglmmjbmafaaDoorW.PrintWords Go.Proofs.YtcejglmmjbmafaaDoorW.PrintLast Go.Proofs.YtcejglmmjbmafaaDoorW.PrintMore
set_option linter.unusedVariables false
set_option linter.unusedSimpArgs false

theorem sd_inj {i j : Int} (hi : 0 ≤ i ∧ i < 7) (hj : 0 ≤ j ∧ j < 7) (h : sd i = sd j) : i = j := by
  rw [← dIdx_sd i hi.1 hi.2, h, dIdx_sd j hj.1 hj.2]
theorem tw_inj {i j : Int} (hi : 0 ≤ i ∧ i ≤ 99) (hj : 0 ≤ j ∧ j ≤ 99) (h : tw i = tw j) : i = j := by
  have e := D_tw i hi.1 hi.2
  rw [h, D_tw j hj.1 hj.2] at e
  exact (Prod.mk.inj e).1.symm
theorem y_inj {i j : Int} (hi : 0 ≤ i ∧ i ≤ 9999) (hj : 0 ≤ j ∧ j ≤ 9999) (h : tw (i / 100) ++ tw i = tw (j / 100) ++ tw j) : i = j := by
  have e := D_tw4 i hi.1 hi.2
  rw [h, D_tw4 j hj.1 hj.2] at e
  exact (Prod.mk.inj e).1.symm
theorem m3_inj {i j : Int} (hi : 0 ≤ i ∧ i < 12) (hj : 0 ≤ j ∧ j < 12) (h : m3 i = m3 j) : i = j := by
  rw [← mIdx_m3 i hi.1 hi.2, h, mIdx_m3 j hj.1 hj.2]
theorem dl_inj {i j : Int} (hi : 0 ≤ i ∧ i ≤ 99) (hj : 0 ≤ j ∧ j ≤ 99) (h : dl i = dl j) : i = j := by
  rw [← dl_num i hi.1 hi.2, h, dl_num j hj.1 hj.2]
/-- The pieces of the first form, with any day of the week. -/
theorem T1_parts {y mo d h mi s : Int} (t : Tm y mo d h mi s) (w : Int) (hw : 0 ≤ w ∧ w < 7) :
    (T1 y mo d h mi s w).length = 29 ∧ (T1 y mo d h mi s w).take 3 = sd w ∧ (T1 y mo d h mi s w).drop 3 = [44, 32] ++ tw d ++ [32] ++ m3 mo ++ [32] ++ tw (y / 100) ++ tw y ++ [32] ++ ck h mi s ++ [32, 71, 77, 84] ∧ ((T1 y mo d h mi s w).drop 5).take 2 = tw d ∧ ((T1 y mo d h mi s w).drop 8).take 3 = m3 mo ∧
      ((T1 y mo d h mi s w).drop 12).take 4 = tw (y / 100) ++ tw y ∧ ((T1 y mo d h mi s w).drop 14).take 2 = tw y ∧ ((T1 y mo d h mi s w).drop 17).take 8 = ck h mi s := by
  obtain ⟨p1, p2, p3, es, _⟩ := sd_three w hw
  obtain ⟨m1, m2, m3', em, _⟩ := m3_three mo t.ok.m0 t.ok.m1
  unfold T1
  rw [es, em]
  exact ⟨rfl, rfl, rfl, rfl, rfl, rfl, rfl, rfl⟩
theorem T3_parts' {y mo d h mi s : Int} (t : Tm y mo d h mi s) (w : Int) (hw : 0 ≤ w ∧ w < 7) : (T3 y mo d h mi s w).length = 24 ∧
    (T3 y mo d h mi s w).take 3 = sd w ∧ ((T3 y mo d h mi s w).drop 4).take 3 = m3 mo ∧ ((T3 y mo d h mi s w).drop 8).take 2 = dl d ∧ ((T3 y mo d h mi s w).drop 11).take 8 = ck h mi s ∧ ((T3 y mo d h mi s w).drop 20).take 4 = tw (y / 100) ++ tw y := by
  obtain ⟨p1, p2, p3, es, _⟩ := sd_three w hw
  obtain ⟨m1, m2, m3', em, _⟩ := m3_three mo t.ok.m0 t.ok.m1
  obtain ⟨u, v, ed, _⟩ := dl_two d (Int.le_trans (by decide) t.d.1)
  unfold T3
  rw [es, em, ed]
  exact ⟨rfl, rfl, rfl, rfl, rfl, rfl⟩
/-- Another day's name makes a text no time's. -/
theorem no_T1 {y mo d h mi s : Int} (t : Tm y mo d h mi s) (w : Int) (hw : 0 ≤ w ∧ w < 7) (hn : w ≠ wk y mo d) : ∀ y' mo' d' h' mi' s', Tm y' mo' d' h' mi' s' → ¬ Says (X.bytes (T1 y mo d h mi s w)) y' mo' d' h' mi' s' := by
  intro y' mo' d' h' mi' s' t' hs
  obtain ⟨l1, a1, _, a2, a3, a4, _, _⟩ := T1_parts t w hw
  have e := says_29 l1 t' hs
  obtain ⟨_, b1, _, b2, b3, b4, _, _⟩ := T1_parts t' (wk y' mo' d') (wk0 y' mo' d')
  rw [e, b1] at a1
  rw [e, b2] at a2
  rw [e, b3] at a3
  rw [e, b4] at a4
  have hd := t.d
  have hd' := t'.d
  obtain rfl := tw_inj (by omega) (by omega) a2
  obtain rfl := m3_inj ⟨t'.ok.m0, t'.ok.m1⟩ ⟨t.ok.m0, t.ok.m1⟩ a3
  obtain rfl := y_inj ⟨by have := t'.ok.y0; omega, t'.ok.y1⟩ ⟨by have := t.ok.y0; omega, t.ok.y1⟩ a4
  exact hn (sd_inj (wk0 y' mo' d') hw a1).symm
theorem no_T3 {y mo d h mi s : Int} (t : Tm y mo d h mi s) (w : Int) (hw : 0 ≤ w ∧ w < 7) (hn : w ≠ wk y mo d) : ∀ y' mo' d' h' mi' s', Tm y' mo' d' h' mi' s' → ¬ Says (X.bytes (T3 y mo d h mi s w)) y' mo' d' h' mi' s' := by
  intro y' mo' d' h' mi' s' t' hs
  obtain ⟨l1, a1, a3, a2, _, a4⟩ := T3_parts' t w hw
  have e := says_24 l1 t' hs
  obtain ⟨_, b1, b3, b2, _, b4⟩ := T3_parts' t' (wk y' mo' d') (wk0 y' mo' d')
  rw [e, b1] at a1
  rw [e, b2] at a2
  rw [e, b3] at a3
  rw [e, b4] at a4
  have hd := t.d
  have hd' := t'.d
  obtain rfl := dl_inj (by omega) (by omega) a2
  obtain rfl := m3_inj ⟨t'.ok.m0, t'.ok.m1⟩ ⟨t.ok.m0, t.ok.m1⟩ a3
  obtain rfl := y_inj ⟨by have := t'.ok.y0; omega, t'.ok.y1⟩ ⟨by have := t.ok.y0; omega, t.ok.y1⟩ a4
  exact hn (sd_inj (wk0 y' mo' d') hw a1).symm
theorem sh_at (w : Int) (h0 : 0 ≤ w) (h1 : w < 7) : rdOf ByteArray.empty SHL w = X.bytes (sd w) := rdays_at w h0 h1
theorem lo_at (w : Int) (h0 : 0 ≤ w) (h1 : w < 7) : rdOf ByteArray.empty LOL w = X.bytes (ld w) := by
  have : w = 0 ∨ w = 1 ∨ w = 2 ∨ w = 3 ∨ w = 4 ∨ w = 5 ∨ w = 6 := by omega
  rcases this with rfl | rfl | rfl | rfl | rfl | rfl | rfl <;> rfl
theorem ld_len (w : Int) (h0 : 0 ≤ w) (h1 : w < 7) : (ld w).length = 6 ∨ (ld w).length = 7 ∨ (ld w).length = 8 ∨ (ld w).length = 9 := by
  have := (ld_ok w ⟨h0, h1⟩).1
  have := (ld_ok w ⟨h0, h1⟩).2.1
  omega
set_option maxHeartbeats 4000000 in
/-- The law's own walk: true for every input. -/
theorem DateForms_walk (a0 : Int) (a1 : Int) (w : World) (hG : GL w) (w0 : (Lit.int .i64 a0).wf = true) (w1 : (Lit.int .u8 a1).wf = true) :
    Calls Tryd.prog 5 #[.int .i64 a0, .int .u8 a1] w fun e w' => e = .returned (.bool true) ∧ Below w.heap.size w w' := by
  have b0 := i64_wf w0
  have b1 := u8_wf w1
  obtain ⟨T, hT0, hT1, hT⟩ : ∃ T : Int, 0 ≤ T ∧ T < 4099680000 ∧ ((0 ≤ a0 ∧ Int.tmod a0 4099680000 = T) ∨ (a0 < 0 ∧ Int.tmod (wrap64 (-(wrap64 (a0 + 1)))) 4099680000 = T)) := by
    by_cases c : 0 ≤ a0
    · exact ⟨a0 % 4099680000, by omega, by omega, .inl ⟨c, Int.tmod_eq_emod_of_nonneg c⟩⟩
    · have e1 : wrap64 (a0 + 1) = a0 + 1 := w64 (by omega) (by omega)
      have e2 : wrap64 (-(a0 + 1)) = -(a0 + 1) := w64 (by omega) (by omega)
      exact ⟨(-(a0 + 1)) % 4099680000, by omega, by omega, .inr ⟨by omega, by rw [e1, e2]; exact Int.tmod_eq_emod_of_nonneg (by omega)⟩⟩
  obtain ⟨y, mo, d, t, hs, hn, _⟩ := parts T hT0 (by omega)
  generalize hh : T % 86400 / 3600 = h at t hs
  generalize hmi : T % 86400 / 60 % 60 = mi at t hs
  generalize hsc : T % 60 = sc at t hs
  have hA := rtext_ev t (x := T) (by rw [hs]; exact cl_id hT0 (by omega))
  have hw := wk0 y mo d
  have hwe : wk y mo d = (T / 86400 + 4) % 7 := by unfold wk; rw [hn]
  obtain ⟨V, hVe⟩ : ∃ V, V = (wk y mo d + a1 % 7) % 7 := ⟨_, rfl⟩
  have hV : 0 ≤ V ∧ V < 7 := by omega
  have eW : Int.tmod (wrap64 ((wrap64 (Int.tdiv T 86400)) + 4)) 7 = wk y mo d := by
    rw [Int.tdiv_eq_ediv_of_nonneg hT0, w64 (x := T / 86400) (by omega) (by omega), w64 (x := T / 86400 + 4) (by omega) (by omega), hwe]
    exact Int.tmod_eq_emod_of_nonneg (by omega)
  have eV : Int.tmod (wrap64 (wk y mo d + (wrap64 (Int.tmod a1 7)))) 7 = V := by
    rw [Int.tmod_eq_emod_of_nonneg b1.1, w64 (x := a1 % 7) (by omega) (by omega), w64 (x := wk y mo d + a1 % 7) (by omega) (by omega), hVe]
    exact Int.tmod_eq_emod_of_nonneg (by omega)
  have hd := t.d
  obtain ⟨lA, _, c3, c5, c8, c12, c14, c17⟩ := T1_parts t (wk y mo d) hw
  have t1 : X.bytes (sd V) ++ X.bytes ([44, 32] ++ tw d ++ [32] ++ m3 mo ++ [32] ++ tw (y / 100) ++ tw y ++ [32] ++ ck h mi sc ++ [32, 71, 77, 84]) = X.bytes (T1 y mo d h mi sc V) := by
    rw [bytes_append]; simp [T1]
  have t3 : ((((((((X.bytes (sd V) ++ X.bytes [32]) ++ X.bytes (m3 mo)) ++ X.bytes [32]) ++ X.bytes (dl d)) ++ X.bytes [32]) ++ X.bytes (ck h mi sc)) ++ X.bytes [32]) ++ X.bytes (tw (y / 100) ++ tw y)) = X.bytes (T3 y mo d h mi sc V) := by
    simp only [bytes_append]; simp [T3]
  have t2 : (((((((((X.bytes (ld V) ++ X.bytes [44, 32]) ++ X.bytes (tw d)) ++ X.bytes [45]) ++ X.bytes (m3 mo)) ++ X.bytes [45]) ++ X.bytes (tw y)) ++ X.bytes [32]) ++ X.bytes (ck h mi sc)) ++ X.bytes [32, 71, 77, 84]) = X.bytes (T2 y mo d h mi sc V) := by
    simp only [bytes_append]; simp [T2]
  obtain ⟨r1, r3, e1, e3, hfin⟩ : ∃ r1 r3 : Int × Int, Ev (fun k => date_Parse.f k (X.bytes (T1 y mo d h mi sc V))) r1 ∧ Ev (fun k => date_Parse.f k (X.bytes (T3 y mo d h mi sc V))) r3 ∧
      ((V = wk y mo d ∧ r1.1 = T ∧ r3.1 = T ∧ r1.2 = 0 ∧ r3.2 = 0 ∧ (2145916800 ≤ T ∨ T < 2145916800 ∧ Ev (fun k => date_Parse.f k (X.bytes (T2 y mo d h mi sc V))) (T, 0))) ∨ (V ≠ wk y mo d ∧ r1.2 = 80 ∧ r3.2 = 80)) := by
    by_cases c : V = wk y mo d
    · refine ⟨(T, 0), (T, 0), ?_, ?_, .inl ⟨c, rfl, rfl, rfl, rfl, ?_⟩⟩
      · rw [c, ← hs]; exact parse_yes t (.inl rfl)
      · rw [c, ← hs]; exact parse_yes t (.inr (.inr rfl))
      · by_cases hb : 2145916800 ≤ T
        · exact .inl hb
        · refine .inr ⟨by omega, ?_⟩
          have hy : y < 2070 := by
            refine Int.not_le.1 fun z => ?_
            have l1 := dys_le z
            have l2 := t.ok.lo
            have l3 : dys 2070 = 36525 := by decide
            omega
          rw [c]
          have := parse_yes t (.inr (.inl ⟨rfl, hy⟩))
          rw [hs] at this
          exact this
    · have hsz1 : (X.bytes (T1 y mo d h mi sc V)).size ≤ 1000000000 := by rw [bytes_size, (T1_parts t V hV).1]; decide
      have hsz3 : (X.bytes (T3 y mo d h mi sc V)).size ≤ 1000000000 := by rw [bytes_size, (T3_parts' t V hV).1]; decide
      exact ⟨(0, 80), (0, 80), parse_no _ hsz1 (no_T1 t V hV c), parse_no _ hsz3 (no_T3 t V hV c), .inr ⟨c, rfl, rfl⟩⟩
  obtain ⟨k2, hP2⟩ : ∃ k2, V = wk y mo d → T < 2145916800 → ∀ k, k2 ≤ k → date_Parse.f k (X.bytes (T2 y mo d h mi sc V)) = some (T, 0) := by
    rcases hfin with ⟨_, _, _, _, _, hb | ⟨_, ⟨k2, h2⟩⟩⟩ | ⟨c, _⟩
    · exact ⟨0, fun _ z => by omega⟩
    · exact ⟨k2, fun _ _ k hk => h2 k hk⟩
    · exact ⟨0, fun z => absurd z c⟩
  obtain ⟨k0, hk⟩ := known_ev
  obtain ⟨k1, hA⟩ := hA
  obtain ⟨k3, e1⟩ := e1
  obtain ⟨k4, e3⟩ := e3
  have q0 := hk (k0 + k1 + k2 + k3 + k4) (by omega)
  have q1 := hA (k0 + k1 + k2 + k3 + k4) (by omega)
  have q3 := e1 (k0 + k1 + k2 + k3 + k4) (by omega)
  have q4 := e3 (k0 + k1 + k2 + k3 + k4) (by omega)
  simp only at q0 q1 q3 q4
  have q2 := fun z z' => hP2 z z' (k0 + k1 + k2 + k3 + k4) (by omega)
  rw [← t1] at q3
  rw [← t3] at q4
  rw [← t2] at q2
  refine forms_core (k0 + k1 + k2 + k3 + k4) a0 a1 T V (wk y mo d) r1.1 r1.2 r3.1 r3.2 LOL SHL ⟨rfl⟩ ⟨rfl⟩ (X.bytes (T1 y mo d h mi sc (wk y mo d))) (X.bytes (dl d)) (X.bytes (sd V)) (X.bytes (ld V)) _ (X.bytes (m3 mo)) (X.bytes (ck h mi sc)) (X.bytes (tw (y / 100) ++ tw y)) (X.bytes (tw d)) (X.bytes (tw y)) (X.bytes [32]) (X.bytes [44, 32]) (X.bytes [45]) (X.bytes [32, 71, 77, 84])
    w hG q0 q1 q3 q4 hT eW eV hV.1 hV.2 rfl rfl lA ?_ rfl ?_ ?_ (sh_at V hV.1 hV.2) (lo_at V hV.1 hV.2) ?_ (ld_len V hV.1 hV.2) ?_ ?_ ?_ ?_ ?_ rfl ?_ rfl ?_ rfl rfl rfl rfl rfl ?_
  · rw [extract_bytes]; exact congrArg X.bytes c5
  · by_cases c : d < 10
    · left
      have z1 : tw d = [48, dg d] := by unfold tw; rw [show d / 10 % 10 = 0 by omega, show d % 10 = d by omega]; rfl
      rw [z1, dl, if_pos c]
      refine ⟨bt_bytes [48, dg d] 0 (by simp), ?_⟩
      rw [extract_bytes, bytes_append]
      rfl
    · right
      rw [dl, if_neg c]
      refine ⟨beq_eq_false_iff_ne.mpr fun z => ?_, rfl⟩
      have z2 : bt (X.bytes (tw d)) 0 = ((dg (d / 10 % 10)).toNat : Int) := bt_bytes [dg (d / 10 % 10), dg (d % 10)] 0 (by simp)
      have z3 := dg_nat (show 0 ≤ d / 10 % 10 by omega) (show d / 10 % 10 ≤ 9 by omega)
      omega
  · obtain ⟨u, v, ed, _⟩ := dl_two d (by omega)
    rw [ed]; rfl
  · obtain ⟨u, v, x, ed, _⟩ := sd_three V hV
    rw [ed]; rfl
  · rw [extract_bytes, show 29 - 3 = 26 by rfl]
    refine congrArg X.bytes (Eq.trans ?_ c3)
    exact List.take_of_length_le (by rw [List.length_drop, lA]; decide)
  · rw [bytes_size, ← c3, List.length_drop, lA]
  · rw [extract_bytes]; exact congrArg X.bytes c8
  · obtain ⟨u, v, x, em, _⟩ := m3_three mo t.ok.m0 t.ok.m1
    rw [em]; rfl
  · rw [extract_bytes]; exact congrArg X.bytes c17
  · rw [extract_bytes]; exact congrArg X.bytes c12
  · rw [extract_bytes]; exact congrArg X.bytes c14
  · rcases hfin with ⟨c, x1, x2, x3, x4, hb⟩ | hc
    · exact .inl ⟨c, x1, x2, x3, x4, hb.imp id (fun z => ⟨z.1, q2 c z.1⟩)⟩
    · exact .inr hc
end Go.Proofs.YtcejglmmjbmafaaDoor.Pure
