/- Words and walks, joined by a program. -/
import Derived.Test.YtcejglmmjbmafaaDoorP22
import Derived.Test.YtcejglmmjbmafaaDoorP30
import Derived.LoopN
/- The document's reader of dates, Parse: the walks of its first two forms (the regions that draw are the print's; see wip/gen_ref2.py). -/
namespace Go.Proofs.YtcejglmmjbmafaaDoor.X
open Go.RowKit Go.Proofs.YtcejglmmjbmafaaDoorW.PrintWords Go.Proofs.YtcejglmmjbmafaaDoorW.PrintLast Go.Proofs.YtcejglmmjbmafaaDoorW.PrintMore
set_option linter.unusedVariables false
set_option linter.unusedSimpArgs false

def RefW.T5 : Bool × List (List Nat × List Nat) := (true, [([], []), ([], []), ([1], [1]), ([0, 2, 0], [0, 2]), ([], []), ([3], []), ([], []), ([6], [6]), ([5, 7, 5], [5, 7]), ([], []), ([], []), ([10], [10]), ([3, 4, 8, 9, 11, 8], [3, 4, 8, 9, 11]), ([12], [12]), ([12], [12]), ([13, 12, 0, 1, 2, 3, 4, 5, 6, 7, 8, 9, 10, 11, 12, 13, 14], [13]), ([14, 15, 0, 1, 2, 3, 4, 5, 6, 7, 8, 9, 10, 11, 12, 13, 14, 15], [14])])
def RefW.B5 : List Nat := [0, 0, 2, 7, 0, 15, 0, 64, 239, 0, 0, 1024, 4095, 8191, 8191, 32767, 65535]
theorem RefW.tab5 : rtab .any (opsOf Tryd.f12 5) = RefW.T5 := by kernel_rfl
theorem RefW.bits5 : waitsOk RefW.T5.2 RefW.B5 = true := by kernel_rfl
def RefW.T16 : Bool × List (List Nat × List Nat) := (true, [([], []), ([], []), ([1], [1]), ([0, 2, 0], [0, 2]), ([], []), ([3], []), ([], []), ([6], [6]), ([5, 7, 5], [5, 7]), ([], []), ([], []), ([10], [10]), ([3, 4, 8, 9, 11, 8], [3, 4, 8, 9, 11]), ([12], [12]), ([12], [12]), ([13, 12, 0, 1, 2, 3, 4, 5, 6, 7, 8, 9, 10, 11, 12, 13, 14], [13]), ([14, 15, 0, 1, 2, 3, 4, 5, 6, 7, 8, 9, 10, 11, 12, 13, 14, 15], [14])])
def RefW.B16 : List Nat := [0, 0, 2, 7, 0, 15, 0, 64, 239, 0, 0, 1024, 4095, 8191, 8191, 32767, 65535]
theorem RefW.tab16 : rtab .any (opsOf Tryd.f12 16) = RefW.T16 := by kernel_rfl
theorem RefW.bits16 : waitsOk RefW.T16.2 RefW.B16 = true := by kernel_rfl
def RefW.T31 : Bool × List (List Nat × List Nat) := (true, [([], []), ([], []), ([], []), ([], []), ([3], [3]), ([2, 4, 2], [2, 4]), ([], []), ([], []), ([7], [7]), ([0, 1, 5, 6, 8, 5], [0, 1, 5, 6, 8]), ([9], [9]), ([9], [9]), ([10, 9, 0, 1, 2, 3, 4, 5, 6, 7, 8, 9, 10, 11], [10]), ([11, 12, 0, 1, 2, 3, 4, 5, 6, 7, 8, 9, 10, 11, 12], [11])])
def RefW.B31 : List Nat := [0, 0, 0, 0, 8, 28, 0, 0, 128, 511, 1023, 1023, 4095, 8191]
theorem RefW.tab31 : rtab .any (opsOf Tryd.f12 31) = RefW.T31 := by kernel_rfl
theorem RefW.bits31 : waitsOk RefW.T31.2 RefW.B31 = true := by kernel_rfl
theorem slice_of {w : World} {base : Nat} {v : Value} {r : List ByteArray} (h : Kd.R Kd.string 9 w base (fun _ => True) v r) :
    ∃ A c, v = .slice A r.length c ∧ Kd.C Kd.string w A r.length r ∧ r.length ≤ c := by
  obtain ⟨A, c, e⟩ := Kd.R_slice h
  subst e
  exact ⟨A, c, rfl, (Kd.R_reads' h).2.2, (Kd.R_reads' h).2.1⟩

set_option maxRecDepth 100000 in
set_option maxHeartbeats 100000000 in
theorem ref_form1 (k : Nat) (a : ByteArray) (r1 r2 : Int) (w : World) (hg : G1 a = true) (h : rform1 k a = some (r1, r2)) :
    Calls Tryd.prog 12 #[.string a] w fun e w' => e = .returned (.tuple #[.int .i64 r1, .int .i64 r2]) ∧ Below w.heap.size w w' := by
  simp only [G1, Bool.and_eq_true, decide_eq_true_eq] at hg
  obtain ⟨hs, f3, b7, b11, b16, f25⟩ := hg
  rw [hs] at f25
  have x7 : ∀ h : 7 < a.size, ((a[7]'h).toNat : Int) = 32 := fun h => (bt_at a 7 h).trans (beq_iff_eq.mp b7)
  have x11 : ∀ h : 11 < a.size, ((a[11]'h).toNat : Int) = 32 := fun h => (bt_at a 11 h).trans (beq_iff_eq.mp b11)
  have x16 : ∀ h : 16 < a.size, ((a[16]'h).toNat : Int) = 32 := fun h => (bt_at a 16 h).trans (beq_iff_eq.mp b16)
  clear b7 b11 b16
  simp only [rform1, rparts] at h
  obtain ⟨⟨d, p⟩, h1, h⟩ := Option.bind_eq_some_iff.mp h
  obtain ⟨⟨y, q⟩, h2, h3⟩ := Option.bind_eq_some_iff.mp h
  clear h
  simp only at h3
  have C1 := Lib.hid (fun W => ambryref9_digits.calls k _ d p W h1)
  have C2 := Lib.hid (fun W => ambryref9_digits.calls k _ y q W h2)
  have H := Lib.hid h3
  clear h1 h2 h3
  go_enter Tryd.func12, Tryd.ntmps12
  go_wp2_with fail
  with_reducible refine (C1.out _).mono ?_
  rintro e w1 ⟨rfl, hd⟩
  have HB1 := Lib.hid hd.below
  clear hd
  go_wp2_with fail
  with_reducible refine (C2.out _).mono ?_
  rintro e w2 ⟨rfl, hd⟩
  have HB := Aside0.mk (below_step HB1.out hd.below)
  clear hd
  cases p with
  | false =>
    have h := H.out
    clear H
    simp only [Bool.false_eq_true, false_and, if_false] at h
    obtain ⟨rfl, rfl⟩ := Prod.mk.inj (Option.some.inj h)
    clear h
    go_wp2_with fail
    go_ret2
    exact ⟨rfl, HB.out⟩
  | true =>
    cases q with
    | false =>
      have h := H.out
      clear H
      simp only [Bool.false_eq_true, and_false, if_false] at h
      obtain ⟨rfl, rfl⟩ := Prod.mk.inj (Option.some.inj h)
      clear h
      go_wp2_with fail
      go_ret2
      exact ⟨rfl, HB.out⟩
    | true =>
      have h := H.out
      clear H
      simp only [and_self, if_true] at h
      obtain ⟨DS, h1, h⟩ := Option.bind_eq_some_iff.mp h
      obtain ⟨II, h2, h⟩ := Option.bind_eq_some_iff.mp h
      obtain ⟨MS, h3, h⟩ := Option.bind_eq_some_iff.mp h
      obtain ⟨JJ, h4, h5⟩ := Option.bind_eq_some_iff.mp h
      clear h
      have A27 := Aside0.mk h1
      have A30 := Aside0.mk h2
      have A31 := Aside0.mk h3
      have A34 := Aside0.mk h4
      have A37 := Aside0.mk h5
      clear h1 h2 h3 h4 h5
      go_wp2_with fail
      have n0_ := Aside0.mk (below_drew1 HB.out)
      clear HB
      have HB := n0_
      clear n0_
      refine start_ (n := 17) (S := fun w' => True) (ds := []) #[false, false, false, false, false, false, false, false, false, false, false, false, false, false, false, false, false] (by kernel_rfl) rfl rfl trivial (fun hHeld => ?_); refine with_tabW RefW.tab5 RefW.bits5 (fun HT_ HW_ => ?_)
      generalize w2.drew = w38 at HB hHeld ⊢
      refine pure_ (i := 1) (N := some 65) (v := ?_) (a' := ?_) #[false, true, false, false, false, false, false, false, false, false, false, false, false, false, false, false, false] rfl rfl (any_of HT_.out (by kernel_rfl)) (fun _ _ _ h => h) (Or.inl ⟨by rfl, ?_⟩) ?_ ?_
      rotate_left
      · intro w'
        go_simp
        with_reducible rfl
      rotate_left
      · simp only [Act.put, List.setIfInBounds_toArray, List.set_cons_zero, List.set_cons_succ, i64_w, i32_w]
        rfl
      refine pure_ (i := 2) (N := some 66) (v := ?_) (a' := ?_) #[false, true, true, false, false, false, false, false, false, false, false, false, false, false, false, false, false] rfl rfl (any_of HT_.out (by kernel_rfl)) (fun _ _ _ h => h) (Or.inl ⟨by rfl, ?_⟩) ?_ ?_
      rotate_left
      · intro w'
        go_simp
        with_reducible rfl
      rotate_left
      · simp only [Act.put, List.setIfInBounds_toArray, List.set_cons_zero, List.set_cons_succ, i64_w, i32_w]
        rfl
      refine pure_ (i := 4) (N := some 68) (v := ?_) (a' := ?_) #[false, true, true, false, true, false, false, false, false, false, false, false, false, false, false, false, false] rfl rfl (any_of HT_.out (by kernel_rfl)) (fun _ _ _ h => h) (Or.inl ⟨by rfl, ?_⟩) ?_ ?_
      rotate_left
      · intro w'
        go_simp
        with_reducible rfl
      rotate_left
      · simp only [Act.put, List.setIfInBounds_toArray, List.set_cons_zero, List.set_cons_succ, i64_w, i32_w]
        rfl
      refine pure_ (i := 6) (N := some 70) (v := ?_) (a' := ?_) #[false, true, true, false, true, false, true, false, false, false, false, false, false, false, false, false, false] rfl rfl (any_of HT_.out (by kernel_rfl)) (fun _ _ _ h => h) (Or.inl ⟨by rfl, ?_⟩) ?_ ?_
      rotate_left
      · intro w'
        go_simp
        with_reducible rfl
      rotate_left
      · simp only [Act.put, List.setIfInBounds_toArray, List.set_cons_zero, List.set_cons_succ, i64_w, i32_w]
        rfl
      refine pure_ (i := 7) (N := some 71) (v := ?_) (a' := ?_) #[false, true, true, false, true, false, true, true, false, false, false, false, false, false, false, false, false] rfl rfl (any_of HT_.out (by kernel_rfl)) (fun _ _ _ h => h) (Or.inl ⟨by rfl, ?_⟩) ?_ ?_
      rotate_left
      · intro w'
        go_simp
        with_reducible rfl
      rotate_left
      · simp only [Act.put, List.setIfInBounds_toArray, List.set_cons_zero, List.set_cons_succ, i64_w, i32_w]
        rfl
      refine pure_ (i := 9) (N := some 73) (v := ?_) (a' := ?_) #[false, true, true, false, true, false, true, true, false, true, false, false, false, false, false, false, false] rfl rfl (any_of HT_.out (by kernel_rfl)) (fun _ _ _ h => h) (Or.inl ⟨by rfl, ?_⟩) ?_ ?_
      rotate_left
      · intro w'
        go_simp
        with_reducible rfl
      rotate_left
      · simp only [Act.put, List.setIfInBounds_toArray, List.set_cons_zero, List.set_cons_succ, i64_w, i32_w]
        rfl
      refine pure_ (i := 10) (N := some 74) (v := ?_) (a' := ?_) #[false, true, true, false, true, false, true, true, false, true, true, false, false, false, false, false, false] rfl rfl (any_of HT_.out (by kernel_rfl)) (fun _ _ _ h => h) (Or.inl ⟨by rfl, ?_⟩) ?_ ?_
      rotate_left
      · intro w'
        go_simp
        with_reducible rfl
      rotate_left
      · simp only [Act.put, List.setIfInBounds_toArray, List.set_cons_zero, List.set_cons_succ, i64_w, i32_w]
        rfl
      refine pure_ (i := 11) (N := some 75) (v := ?_) (a' := ?_) #[false, true, true, false, true, false, true, true, false, true, true, true, false, false, false, false, false] rfl rfl (any_of HT_.out (by kernel_rfl)) (fun _ _ _ h => h) (Or.inl ⟨by rfl, ?_⟩) ?_ ?_
      rotate_left
      · intro w'
        go_simp
        with_reducible rfl
      rotate_left
      · simp only [Act.put, List.setIfInBounds_toArray, List.set_cons_zero, List.set_cons_succ, i64_w, i32_w]
        rfl
      refine one_ (i := 0) (N := some 64) #[true, true, true, false, true, false, true, true, false, true, true, true, false, false, false, false, false] rfl rfl (one_of HT_.out (by kernel_rfl)) (by decide) (fun K hK => ?_)
      refine goes_ Tryd.func25 (by kernel_rfl) rfl #[] (by rfl) rfl rfl (by (try simp only [List.map_toArray, List.map_cons, List.map_nil]); first | done | rfl | (simp only [List.length_drop, List.length_take]; rfl)) ?_
      with_reducible refine (ambryref9_days.calls  DS _ A27.out).mono ?_
      rintro e w39 ⟨v247, rfl, ho0, hb⟩
      refine ⟨_, rfl, ?_⟩
      have n0_ := Aside0.mk (Kd.R_lower ho0 (below_size (by repeat (first | (with_reducible first | exact HB.out | apply below_alloc | apply pw_below_drewN | apply below_drew1) | exact HB.out))))
      have n1_ := Aside0.mk (below_step (by repeat (first | (with_reducible first | exact HB.out | apply below_alloc | apply pw_below_drewN | apply below_drew1) | exact HB.out)) hb)
      clear HB
      have HO248 := n0_
      have HB := n1_
      clear n0_ n1_
      (try clear hb)
      (try clear hb2)
      (try clear hk)
      (try clear hi)
      (try clear ho0)
      obtain ⟨Ao40, co40, eo40⟩ := Kd.R_slice HO248.out
      (first | subst eo40 | (injection eo40 with f1_ f2_ f3_; have f4_ := f1_.symm; have f5_ := f3_.symm; clear f1_ f2_ f3_; subst f4_; subst f5_))
      refine hK.out _ _ trivial (fun hHeld => ?_)
      clear hK K
      refine norm_ (a' := ?_) ?_ ?_
      rotate_left
      · show Act.put _ (some 64) _ = _
        simp only [Act.put, List.setIfInBounds_toArray, List.set_cons_zero, List.set_cons_succ, i64_w, i32_w]
        rfl
      refine one_ (i := 3) (N := some 67) #[true, true, true, true, true, false, true, true, false, true, true, true, false, false, false, false, false] rfl rfl (one_of HT_.out (by kernel_rfl)) (by decide) (fun K hK => ?_)
      refine goes_ Tryd.func30 (by kernel_rfl) rfl #[.slice Ao40 DS.length co40, .string (a.extract 0 3)] (by rfl) rfl rfl (by (try simp only [List.map_toArray, List.map_cons, List.map_nil]); first | done | rfl | (simp only [List.length_drop, List.length_take]; rfl)) ?_
      with_reducible refine (ambryref9_index.calls k _ _ DS (a.extract 0 3) II _ ?side1 ?side2 A30.out).mono ?_
      (case side1 => repeat (first | exact (Kd.R_reads' HO248.out).2.2 | (with_reducible refine Kd.C_alloc ?_ _) | (with_reducible refine Kd.C_drewN ?_ _) | (with_reducible refine Kd.C_drew ?_)))
      (case side2 => exact (Kd.R_reads' HO248.out).2.1)
      rintro e w' ⟨rfl, ⟨nd, rfl⟩⟩
      refine ⟨_, rfl, ?_⟩
      refine hK.out _ _ trivial (fun hHeld => ?_)
      clear hK K
      refine norm_ (a' := ?_) ?_ ?_
      rotate_left
      · show Act.put _ (some 67) _ = _
        simp only [Act.put, List.setIfInBounds_toArray, List.set_cons_zero, List.set_cons_succ, i64_w, i32_w]
        rfl
      refine one_ (i := 5) (N := some 69) #[true, true, true, true, true, true, true, true, false, true, true, true, false, false, false, false, false] rfl rfl (one_of HT_.out (by kernel_rfl)) (by decide) (fun K hK => ?_)
      refine goes_ Tryd.func27 (by kernel_rfl) rfl #[] (by rfl) rfl rfl (by (try simp only [List.map_toArray, List.map_cons, List.map_nil]); first | done | rfl | (simp only [List.length_drop, List.length_take]; rfl)) ?_
      with_reducible refine (ambryref9_months.calls  MS _ A31.out).mono ?_
      rintro e w41 ⟨v251, rfl, ho0, hb⟩
      refine ⟨_, rfl, ?_⟩
      have n0_ := Aside0.mk (Kd.R_elder' (by (with_reducible repeat (first | apply Kd.R_alloc | apply Kd.R_drewN | apply Kd.R_drew)); exact HO248.out) (Kd.R_base ho0) hb)
      have n1_ := Aside0.mk (Kd.R_lower (Kd.R_new' ho0 (Kd.R_lt (by (with_reducible repeat (first | apply Kd.R_alloc | apply Kd.R_drewN | apply Kd.R_drew)); exact HO248.out))) (below_size (by repeat (first | (with_reducible first | exact HB.out | apply below_alloc | apply pw_below_drewN | apply below_drew1) | exact HB.out))))
      have n2_ := Aside0.mk (below_step (by repeat (first | (with_reducible first | exact HB.out | apply below_alloc | apply pw_below_drewN | apply below_drew1) | exact HB.out)) hb)
      clear HO248
      clear HB
      have HO248 := n0_
      have HO252 := n1_
      have HB := n2_
      clear n0_ n1_ n2_
      (try clear hb)
      (try clear hb2)
      (try clear hk)
      (try clear hi)
      (try clear ho0)
      obtain ⟨Ao42, co42, eo42⟩ := Kd.R_slice HO252.out
      (first | subst eo42 | (injection eo42 with f1_ f2_ f3_; have f4_ := f1_.symm; have f5_ := f3_.symm; clear f1_ f2_ f3_; subst f4_; subst f5_))
      refine hK.out _ _ trivial (fun hHeld => ?_)
      clear hK K
      refine norm_ (a' := ?_) ?_ ?_
      rotate_left
      · show Act.put _ (some 69) _ = _
        simp only [Act.put, List.setIfInBounds_toArray, List.set_cons_zero, List.set_cons_succ, i64_w, i32_w]
        rfl
      refine one_ (i := 8) (N := some 72) #[true, true, true, true, true, true, true, true, true, true, true, true, false, false, false, false, false] rfl rfl (one_of HT_.out (by kernel_rfl)) (by decide) (fun K hK => ?_)
      refine goes_ Tryd.func30 (by kernel_rfl) rfl #[.slice Ao42 MS.length co42, .string (a.extract 8 11)] (by rfl) rfl rfl (by (try simp only [List.map_toArray, List.map_cons, List.map_nil]); first | done | rfl | (simp only [List.length_drop, List.length_take]; rfl)) ?_
      with_reducible refine (ambryref9_index.calls k _ _ MS (a.extract 8 11) JJ _ ?side1 ?side2 A34.out).mono ?_
      (case side1 => repeat (first | exact (Kd.R_reads' HO252.out).2.2 | (with_reducible refine Kd.C_alloc ?_ _) | (with_reducible refine Kd.C_drewN ?_ _) | (with_reducible refine Kd.C_drew ?_)))
      (case side2 => exact (Kd.R_reads' HO252.out).2.1)
      rintro e w' ⟨rfl, ⟨nd, rfl⟩⟩
      refine ⟨_, rfl, ?_⟩
      refine hK.out _ _ trivial (fun hHeld => ?_)
      clear hK K
      refine norm_ (a' := ?_) ?_ ?_
      rotate_left
      · show Act.put _ (some 72) _ = _
        simp only [Act.put, List.setIfInBounds_toArray, List.set_cons_zero, List.set_cons_succ, i64_w, i32_w]
        rfl
      refine one_ (i := 12) (N := some 76) #[true, true, true, true, true, true, true, true, true, true, true, true, true, false, false, false, false] rfl rfl (one_of HT_.out (by kernel_rfl)) (by decide) (fun K hK => ?_)
      refine goes_ Tryd.func29 (by kernel_rfl) rfl #[.int .i64 II, .int .i64 y, .int .i64 JJ, .int .i64 d, .string (a.extract 17 25)] (by rfl) rfl rfl (by (try simp only [List.map_toArray, List.map_cons, List.map_nil]); first | done | rfl | (simp only [List.length_drop, List.length_take]; rfl)) ?_
      with_reducible refine (ambryref9_made.calls k II y JJ d (a.extract 17 25) r1 r2 _ A37.out).mono ?_
      rintro e w43 ⟨rfl, hb⟩
      refine ⟨_, rfl, ?_⟩
      have n0_ := Aside0.mk (Kd.R_below (by (with_reducible repeat (first | apply Kd.R_alloc | apply Kd.R_drewN | apply Kd.R_drew)); exact HO248.out) hb)
      have n1_ := Aside0.mk (Kd.R_below (by (with_reducible repeat (first | apply Kd.R_alloc | apply Kd.R_drewN | apply Kd.R_drew)); exact HO252.out) hb)
      have n2_ := Aside0.mk (below_step (by repeat (first | (with_reducible first | exact HB.out | apply below_alloc | apply pw_below_drewN | apply below_drew1) | exact HB.out)) hb)
      clear HO248
      clear HO252
      clear HB
      have HO248 := n0_
      have HO252 := n1_
      have HB := n2_
      clear n0_ n1_ n2_
      (try clear hb)
      (try clear hb2)
      (try clear hk)
      (try clear hi)
      refine hK.out _ _ trivial (fun hHeld => ?_)
      clear hK K
      refine norm_ (a' := ?_) ?_ ?_
      rotate_left
      · show Act.put _ (some 76) _ = _
        simp only [Act.put, List.setIfInBounds_toArray, List.set_cons_zero, List.set_cons_succ, i64_w, i32_w]
        rfl
      refine pure_ (i := 13) (N := some 77) (v := ?_) (a' := ?_) #[true, true, true, true, true, true, true, true, true, true, true, true, true, true, false, false, false] rfl rfl (any_of HT_.out (by kernel_rfl)) (fun _ _ _ h => h) (Or.inl ⟨by rfl, ?_⟩) ?_ ?_
      rotate_left
      · intro w'
        go_simp
        with_reducible rfl
      rotate_left
      · simp only [Act.put, List.setIfInBounds_toArray, List.set_cons_zero, List.set_cons_succ, i64_w, i32_w]
        rfl
      refine pure_ (i := 14) (N := some 78) (v := ?_) (a' := ?_) #[true, true, true, true, true, true, true, true, true, true, true, true, true, true, true, false, false] rfl rfl (any_of HT_.out (by kernel_rfl)) (fun _ _ _ h => h) (Or.inl ⟨by rfl, ?_⟩) ?_ ?_
      rotate_left
      · intro w'
        go_simp
        with_reducible rfl
      rotate_left
      · simp only [Act.put, List.setIfInBounds_toArray, List.set_cons_zero, List.set_cons_succ, i64_w, i32_w]
        rfl
      refine pure_ (i := 15) (N := some 2) (v := ?_) (a' := ?_) #[true, true, true, true, true, true, true, true, true, true, true, true, true, true, true, true, false] rfl rfl (any_of HT_.out (by kernel_rfl)) (fun _ _ _ h => h) (Or.inl ⟨by rfl, ?_⟩) ?_ ?_
      rotate_left
      · intro w'
        go_simp
        with_reducible rfl
      rotate_left
      · simp only [Act.put, List.setIfInBounds_toArray, List.set_cons_zero, List.set_cons_succ, i64_w, i32_w]
        rfl
      refine pure_ (i := 16) (N := some 3) (v := ?_) (a' := ?_) #[true, true, true, true, true, true, true, true, true, true, true, true, true, true, true, true, true] rfl rfl (any_of HT_.out (by kernel_rfl)) (fun _ _ _ h => h) (Or.inl ⟨by rfl, ?_⟩) ?_ ?_
      rotate_left
      · intro w'
        go_simp
        with_reducible rfl
      rotate_left
      · simp only [Act.put, List.setIfInBounds_toArray, List.set_cons_zero, List.set_cons_succ, i64_w, i32_w]
        rfl
      refine done_ (done_of HT_.out (by kernel_rfl)) ?_
      try go_wp2
      go_ret2
      exact ⟨by first | rfl | (simp [errW_none, errW_some] <;> rfl) | (simp [*, errW_none, errW_some] <;> rfl), by repeat (first | (with_reducible first | exact HB.out | apply below_alloc | apply pw_below_drewN | apply below_drew1) | exact HB.out)⟩

set_option maxRecDepth 100000 in
set_option maxHeartbeats 100000000 in
theorem ref_form2a (k : Nat) (a : ByteArray) (r1 r2 : Int) (w : World) (hg : G2 a = true) (hb : bt (a.extract 8 10) 0 = 32) (h : rparts k ((a.extract 8 10).extract 1 2) (a.extract 20 a.size) (a.extract 0 3) (a.extract 4 7) (a.extract 11 19) = some (r1, r2)) :
    Calls Tryd.prog 12 #[.string a] w fun e w' => e = .returned (.tuple #[.int .i64 r1, .int .i64 r2]) ∧ Below w.heap.size w w' := by
  simp only [G2, Bool.and_eq_true, decide_eq_true_eq] at hg
  obtain ⟨hs, b3, b7, b10, b19⟩ := hg
  have x3 : ∀ h : 3 < a.size, ((a[3]'h).toNat : Int) = 32 := fun h => (bt_at a 3 h).trans (beq_iff_eq.mp b3)
  have x7 : ∀ h : 7 < a.size, ((a[7]'h).toNat : Int) = 32 := fun h => (bt_at a 7 h).trans (beq_iff_eq.mp b7)
  have x10 : ∀ h : 10 < a.size, ((a[10]'h).toNat : Int) = 32 := fun h => (bt_at a 10 h).trans (beq_iff_eq.mp b10)
  have x19 : ∀ h : 19 < a.size, ((a[19]'h).toNat : Int) = 32 := fun h => (bt_at a 19 h).trans (beq_iff_eq.mp b19)
  clear b3 b7 b10 b19
  have hz : (a.extract 8 10).size = 2 := by simp [hs]
  obtain ⟨e8, he8⟩ : ∃ e, a.extract 8 10 = e := ⟨_, rfl⟩
  rw [he8] at hz
  rw [he8] at h hb
  have x0 : ∀ h : 0 < e8.size, ((e8[0]'h).toNat : Int) = 32 := fun h => (bt_at e8 0 h).trans hb
  clear hb
  simp only [rparts, hs] at h
  obtain ⟨⟨d, p⟩, h1, h⟩ := Option.bind_eq_some_iff.mp h
  obtain ⟨⟨y, q⟩, h2, h3⟩ := Option.bind_eq_some_iff.mp h
  clear h
  simp only at h3
  have C1 := Lib.hid (fun W => ambryref9_digits.calls k _ d p W h1)
  have C2 := Lib.hid (fun W => ambryref9_digits.calls k _ y q W h2)
  have H := Lib.hid h3
  clear h1 h2 h3
  go_enter Tryd.func12, Tryd.ntmps12
  go_wp2_with fail
  with_reducible refine (C1.out _).mono ?_
  rintro e w1 ⟨rfl, hd⟩
  have HB1 := Lib.hid hd.below
  clear hd
  go_wp2_with fail
  with_reducible refine (C2.out _).mono ?_
  rintro e w2 ⟨rfl, hd⟩
  have HB := Aside0.mk (below_step HB1.out hd.below)
  clear hd
  cases p with
  | false =>
    have h := H.out
    clear H
    simp only [Bool.false_eq_true, false_and, if_false] at h
    obtain ⟨rfl, rfl⟩ := Prod.mk.inj (Option.some.inj h)
    clear h
    go_wp2_with fail
    go_ret2
    exact ⟨rfl, HB.out⟩
  | true =>
    cases q with
    | false =>
      have h := H.out
      clear H
      simp only [Bool.false_eq_true, and_false, if_false] at h
      obtain ⟨rfl, rfl⟩ := Prod.mk.inj (Option.some.inj h)
      clear h
      go_wp2_with fail
      go_ret2
      exact ⟨rfl, HB.out⟩
    | true =>
      have h := H.out
      clear H
      simp only [and_self, if_true] at h
      obtain ⟨DS, h1, h⟩ := Option.bind_eq_some_iff.mp h
      obtain ⟨II, h2, h⟩ := Option.bind_eq_some_iff.mp h
      obtain ⟨MS, h3, h⟩ := Option.bind_eq_some_iff.mp h
      obtain ⟨JJ, h4, h5⟩ := Option.bind_eq_some_iff.mp h
      clear h
      have A73 := Aside0.mk h1
      have A76 := Aside0.mk h2
      have A77 := Aside0.mk h3
      have A80 := Aside0.mk h4
      have A83 := Aside0.mk h5
      clear h1 h2 h3 h4 h5
      go_wp2_with fail
      have n0_ := Aside0.mk (below_drew1 HB.out)
      clear HB
      have HB := n0_
      clear n0_
      refine start_ (n := 17) (S := fun w' => True) (ds := []) #[false, false, false, false, false, false, false, false, false, false, false, false, false, false, false, false, false] (by kernel_rfl) rfl rfl trivial (fun hHeld => ?_); refine with_tabW RefW.tab16 RefW.bits16 (fun HT_ HW_ => ?_)
      generalize w2.drew = w84 at HB hHeld ⊢
      refine pure_ (i := 1) (N := some 128) (v := ?_) (a' := ?_) #[false, true, false, false, false, false, false, false, false, false, false, false, false, false, false, false, false] rfl rfl (any_of HT_.out (by kernel_rfl)) (fun _ _ _ h => h) (Or.inl ⟨by rfl, ?_⟩) ?_ ?_
      rotate_left
      · intro w'
        go_simp
        with_reducible rfl
      rotate_left
      · simp only [Act.put, List.setIfInBounds_toArray, List.set_cons_zero, List.set_cons_succ, i64_w, i32_w]
        rfl
      refine pure_ (i := 2) (N := some 129) (v := ?_) (a' := ?_) #[false, true, true, false, false, false, false, false, false, false, false, false, false, false, false, false, false] rfl rfl (any_of HT_.out (by kernel_rfl)) (fun _ _ _ h => h) (Or.inl ⟨by rfl, ?_⟩) ?_ ?_
      rotate_left
      · intro w'
        go_simp
        with_reducible rfl
      rotate_left
      · simp only [Act.put, List.setIfInBounds_toArray, List.set_cons_zero, List.set_cons_succ, i64_w, i32_w]
        rfl
      refine pure_ (i := 4) (N := some 131) (v := ?_) (a' := ?_) #[false, true, true, false, true, false, false, false, false, false, false, false, false, false, false, false, false] rfl rfl (any_of HT_.out (by kernel_rfl)) (fun _ _ _ h => h) (Or.inl ⟨by rfl, ?_⟩) ?_ ?_
      rotate_left
      · intro w'
        go_simp
        with_reducible rfl
      rotate_left
      · simp only [Act.put, List.setIfInBounds_toArray, List.set_cons_zero, List.set_cons_succ, i64_w, i32_w]
        rfl
      refine pure_ (i := 6) (N := some 133) (v := ?_) (a' := ?_) #[false, true, true, false, true, false, true, false, false, false, false, false, false, false, false, false, false] rfl rfl (any_of HT_.out (by kernel_rfl)) (fun _ _ _ h => h) (Or.inl ⟨by rfl, ?_⟩) ?_ ?_
      rotate_left
      · intro w'
        go_simp
        with_reducible rfl
      rotate_left
      · simp only [Act.put, List.setIfInBounds_toArray, List.set_cons_zero, List.set_cons_succ, i64_w, i32_w]
        rfl
      refine pure_ (i := 7) (N := some 134) (v := ?_) (a' := ?_) #[false, true, true, false, true, false, true, true, false, false, false, false, false, false, false, false, false] rfl rfl (any_of HT_.out (by kernel_rfl)) (fun _ _ _ h => h) (Or.inl ⟨by rfl, ?_⟩) ?_ ?_
      rotate_left
      · intro w'
        go_simp
        with_reducible rfl
      rotate_left
      · simp only [Act.put, List.setIfInBounds_toArray, List.set_cons_zero, List.set_cons_succ, i64_w, i32_w]
        rfl
      refine pure_ (i := 9) (N := some 136) (v := ?_) (a' := ?_) #[false, true, true, false, true, false, true, true, false, true, false, false, false, false, false, false, false] rfl rfl (any_of HT_.out (by kernel_rfl)) (fun _ _ _ h => h) (Or.inl ⟨by rfl, ?_⟩) ?_ ?_
      rotate_left
      · intro w'
        go_simp
        with_reducible rfl
      rotate_left
      · simp only [Act.put, List.setIfInBounds_toArray, List.set_cons_zero, List.set_cons_succ, i64_w, i32_w]
        rfl
      refine pure_ (i := 10) (N := some 137) (v := ?_) (a' := ?_) #[false, true, true, false, true, false, true, true, false, true, true, false, false, false, false, false, false] rfl rfl (any_of HT_.out (by kernel_rfl)) (fun _ _ _ h => h) (Or.inl ⟨by rfl, ?_⟩) ?_ ?_
      rotate_left
      · intro w'
        go_simp
        with_reducible rfl
      rotate_left
      · simp only [Act.put, List.setIfInBounds_toArray, List.set_cons_zero, List.set_cons_succ, i64_w, i32_w]
        rfl
      refine pure_ (i := 11) (N := some 138) (v := ?_) (a' := ?_) #[false, true, true, false, true, false, true, true, false, true, true, true, false, false, false, false, false] rfl rfl (any_of HT_.out (by kernel_rfl)) (fun _ _ _ h => h) (Or.inl ⟨by rfl, ?_⟩) ?_ ?_
      rotate_left
      · intro w'
        go_simp
        with_reducible rfl
      rotate_left
      · simp only [Act.put, List.setIfInBounds_toArray, List.set_cons_zero, List.set_cons_succ, i64_w, i32_w]
        rfl
      refine one_ (i := 0) (N := some 127) #[true, true, true, false, true, false, true, true, false, true, true, true, false, false, false, false, false] rfl rfl (one_of HT_.out (by kernel_rfl)) (by decide) (fun K hK => ?_)
      refine goes_ Tryd.func25 (by kernel_rfl) rfl #[] (by rfl) rfl rfl (by (try simp only [List.map_toArray, List.map_cons, List.map_nil]); first | done | rfl | (simp only [List.length_drop, List.length_take]; rfl)) ?_
      with_reducible refine (ambryref9_days.calls  DS _ A73.out).mono ?_
      rintro e w85 ⟨v261, rfl, ho0, hb⟩
      refine ⟨_, rfl, ?_⟩
      have n0_ := Aside0.mk (Kd.R_lower ho0 (below_size (by repeat (first | (with_reducible first | exact HB.out | apply below_alloc | apply pw_below_drewN | apply below_drew1) | exact HB.out))))
      have n1_ := Aside0.mk (below_step (by repeat (first | (with_reducible first | exact HB.out | apply below_alloc | apply pw_below_drewN | apply below_drew1) | exact HB.out)) hb)
      clear HB
      have HO262 := n0_
      have HB := n1_
      clear n0_ n1_
      (try clear hb)
      (try clear hb2)
      (try clear hk)
      (try clear hi)
      (try clear ho0)
      obtain ⟨Ao86, co86, eo86⟩ := Kd.R_slice HO262.out
      (first | subst eo86 | (injection eo86 with f1_ f2_ f3_; have f4_ := f1_.symm; have f5_ := f3_.symm; clear f1_ f2_ f3_; subst f4_; subst f5_))
      refine hK.out _ _ trivial (fun hHeld => ?_)
      clear hK K
      refine norm_ (a' := ?_) ?_ ?_
      rotate_left
      · show Act.put _ (some 127) _ = _
        simp only [Act.put, List.setIfInBounds_toArray, List.set_cons_zero, List.set_cons_succ, i64_w, i32_w]
        rfl
      refine one_ (i := 3) (N := some 130) #[true, true, true, true, true, false, true, true, false, true, true, true, false, false, false, false, false] rfl rfl (one_of HT_.out (by kernel_rfl)) (by decide) (fun K hK => ?_)
      refine goes_ Tryd.func30 (by kernel_rfl) rfl #[.slice Ao86 DS.length co86, .string (a.extract 0 3)] (by rfl) rfl rfl (by (try simp only [List.map_toArray, List.map_cons, List.map_nil]); first | done | rfl | (simp only [List.length_drop, List.length_take]; rfl)) ?_
      with_reducible refine (ambryref9_index.calls k _ _ DS (a.extract 0 3) II _ ?side1 ?side2 A76.out).mono ?_
      (case side1 => repeat (first | exact (Kd.R_reads' HO262.out).2.2 | (with_reducible refine Kd.C_alloc ?_ _) | (with_reducible refine Kd.C_drewN ?_ _) | (with_reducible refine Kd.C_drew ?_)))
      (case side2 => exact (Kd.R_reads' HO262.out).2.1)
      rintro e w' ⟨rfl, ⟨nd, rfl⟩⟩
      refine ⟨_, rfl, ?_⟩
      refine hK.out _ _ trivial (fun hHeld => ?_)
      clear hK K
      refine norm_ (a' := ?_) ?_ ?_
      rotate_left
      · show Act.put _ (some 130) _ = _
        simp only [Act.put, List.setIfInBounds_toArray, List.set_cons_zero, List.set_cons_succ, i64_w, i32_w]
        rfl
      refine one_ (i := 5) (N := some 132) #[true, true, true, true, true, true, true, true, false, true, true, true, false, false, false, false, false] rfl rfl (one_of HT_.out (by kernel_rfl)) (by decide) (fun K hK => ?_)
      refine goes_ Tryd.func27 (by kernel_rfl) rfl #[] (by rfl) rfl rfl (by (try simp only [List.map_toArray, List.map_cons, List.map_nil]); first | done | rfl | (simp only [List.length_drop, List.length_take]; rfl)) ?_
      with_reducible refine (ambryref9_months.calls  MS _ A77.out).mono ?_
      rintro e w87 ⟨v265, rfl, ho0, hb⟩
      refine ⟨_, rfl, ?_⟩
      have n0_ := Aside0.mk (Kd.R_elder' (by (with_reducible repeat (first | apply Kd.R_alloc | apply Kd.R_drewN | apply Kd.R_drew)); exact HO262.out) (Kd.R_base ho0) hb)
      have n1_ := Aside0.mk (Kd.R_lower (Kd.R_new' ho0 (Kd.R_lt (by (with_reducible repeat (first | apply Kd.R_alloc | apply Kd.R_drewN | apply Kd.R_drew)); exact HO262.out))) (below_size (by repeat (first | (with_reducible first | exact HB.out | apply below_alloc | apply pw_below_drewN | apply below_drew1) | exact HB.out))))
      have n2_ := Aside0.mk (below_step (by repeat (first | (with_reducible first | exact HB.out | apply below_alloc | apply pw_below_drewN | apply below_drew1) | exact HB.out)) hb)
      clear HO262
      clear HB
      have HO262 := n0_
      have HO266 := n1_
      have HB := n2_
      clear n0_ n1_ n2_
      (try clear hb)
      (try clear hb2)
      (try clear hk)
      (try clear hi)
      (try clear ho0)
      obtain ⟨Ao88, co88, eo88⟩ := Kd.R_slice HO266.out
      (first | subst eo88 | (injection eo88 with f1_ f2_ f3_; have f4_ := f1_.symm; have f5_ := f3_.symm; clear f1_ f2_ f3_; subst f4_; subst f5_))
      refine hK.out _ _ trivial (fun hHeld => ?_)
      clear hK K
      refine norm_ (a' := ?_) ?_ ?_
      rotate_left
      · show Act.put _ (some 132) _ = _
        simp only [Act.put, List.setIfInBounds_toArray, List.set_cons_zero, List.set_cons_succ, i64_w, i32_w]
        rfl
      refine one_ (i := 8) (N := some 135) #[true, true, true, true, true, true, true, true, true, true, true, true, false, false, false, false, false] rfl rfl (one_of HT_.out (by kernel_rfl)) (by decide) (fun K hK => ?_)
      refine goes_ Tryd.func30 (by kernel_rfl) rfl #[.slice Ao88 MS.length co88, .string (a.extract 4 7)] (by rfl) rfl rfl (by (try simp only [List.map_toArray, List.map_cons, List.map_nil]); first | done | rfl | (simp only [List.length_drop, List.length_take]; rfl)) ?_
      with_reducible refine (ambryref9_index.calls k _ _ MS (a.extract 4 7) JJ _ ?side1 ?side2 A80.out).mono ?_
      (case side1 => repeat (first | exact (Kd.R_reads' HO266.out).2.2 | (with_reducible refine Kd.C_alloc ?_ _) | (with_reducible refine Kd.C_drewN ?_ _) | (with_reducible refine Kd.C_drew ?_)))
      (case side2 => exact (Kd.R_reads' HO266.out).2.1)
      rintro e w' ⟨rfl, ⟨nd, rfl⟩⟩
      refine ⟨_, rfl, ?_⟩
      refine hK.out _ _ trivial (fun hHeld => ?_)
      clear hK K
      refine norm_ (a' := ?_) ?_ ?_
      rotate_left
      · show Act.put _ (some 135) _ = _
        simp only [Act.put, List.setIfInBounds_toArray, List.set_cons_zero, List.set_cons_succ, i64_w, i32_w]
        rfl
      refine one_ (i := 12) (N := some 139) #[true, true, true, true, true, true, true, true, true, true, true, true, true, false, false, false, false] rfl rfl (one_of HT_.out (by kernel_rfl)) (by decide) (fun K hK => ?_)
      refine goes_ Tryd.func29 (by kernel_rfl) rfl #[.int .i64 II, .int .i64 y, .int .i64 JJ, .int .i64 d, .string (a.extract 11 19)] (by rfl) rfl rfl (by (try simp only [List.map_toArray, List.map_cons, List.map_nil]); first | done | rfl | (simp only [List.length_drop, List.length_take]; rfl)) ?_
      with_reducible refine (ambryref9_made.calls k II y JJ d (a.extract 11 19) r1 r2 _ A83.out).mono ?_
      rintro e w89 ⟨rfl, hb⟩
      refine ⟨_, rfl, ?_⟩
      have n0_ := Aside0.mk (Kd.R_below (by (with_reducible repeat (first | apply Kd.R_alloc | apply Kd.R_drewN | apply Kd.R_drew)); exact HO262.out) hb)
      have n1_ := Aside0.mk (Kd.R_below (by (with_reducible repeat (first | apply Kd.R_alloc | apply Kd.R_drewN | apply Kd.R_drew)); exact HO266.out) hb)
      have n2_ := Aside0.mk (below_step (by repeat (first | (with_reducible first | exact HB.out | apply below_alloc | apply pw_below_drewN | apply below_drew1) | exact HB.out)) hb)
      clear HO262
      clear HO266
      clear HB
      have HO262 := n0_
      have HO266 := n1_
      have HB := n2_
      clear n0_ n1_ n2_
      (try clear hb)
      (try clear hb2)
      (try clear hk)
      (try clear hi)
      refine hK.out _ _ trivial (fun hHeld => ?_)
      clear hK K
      refine norm_ (a' := ?_) ?_ ?_
      rotate_left
      · show Act.put _ (some 139) _ = _
        simp only [Act.put, List.setIfInBounds_toArray, List.set_cons_zero, List.set_cons_succ, i64_w, i32_w]
        rfl
      refine pure_ (i := 13) (N := some 140) (v := ?_) (a' := ?_) #[true, true, true, true, true, true, true, true, true, true, true, true, true, true, false, false, false] rfl rfl (any_of HT_.out (by kernel_rfl)) (fun _ _ _ h => h) (Or.inl ⟨by rfl, ?_⟩) ?_ ?_
      rotate_left
      · intro w'
        go_simp
        with_reducible rfl
      rotate_left
      · simp only [Act.put, List.setIfInBounds_toArray, List.set_cons_zero, List.set_cons_succ, i64_w, i32_w]
        rfl
      refine pure_ (i := 14) (N := some 141) (v := ?_) (a' := ?_) #[true, true, true, true, true, true, true, true, true, true, true, true, true, true, true, false, false] rfl rfl (any_of HT_.out (by kernel_rfl)) (fun _ _ _ h => h) (Or.inl ⟨by rfl, ?_⟩) ?_ ?_
      rotate_left
      · intro w'
        go_simp
        with_reducible rfl
      rotate_left
      · simp only [Act.put, List.setIfInBounds_toArray, List.set_cons_zero, List.set_cons_succ, i64_w, i32_w]
        rfl
      refine pure_ (i := 15) (N := some 2) (v := ?_) (a' := ?_) #[true, true, true, true, true, true, true, true, true, true, true, true, true, true, true, true, false] rfl rfl (any_of HT_.out (by kernel_rfl)) (fun _ _ _ h => h) (Or.inl ⟨by rfl, ?_⟩) ?_ ?_
      rotate_left
      · intro w'
        go_simp
        with_reducible rfl
      rotate_left
      · simp only [Act.put, List.setIfInBounds_toArray, List.set_cons_zero, List.set_cons_succ, i64_w, i32_w]
        rfl
      refine pure_ (i := 16) (N := some 3) (v := ?_) (a' := ?_) #[true, true, true, true, true, true, true, true, true, true, true, true, true, true, true, true, true] rfl rfl (any_of HT_.out (by kernel_rfl)) (fun _ _ _ h => h) (Or.inl ⟨by rfl, ?_⟩) ?_ ?_
      rotate_left
      · intro w'
        go_simp
        with_reducible rfl
      rotate_left
      · simp only [Act.put, List.setIfInBounds_toArray, List.set_cons_zero, List.set_cons_succ, i64_w, i32_w]
        rfl
      refine done_ (done_of HT_.out (by kernel_rfl)) ?_
      try go_wp2
      go_ret2
      exact ⟨by first | rfl | (simp [errW_none, errW_some] <;> rfl) | (simp [*, errW_none, errW_some] <;> rfl), by repeat (first | (with_reducible first | exact HB.out | apply below_alloc | apply pw_below_drewN | apply below_drew1) | exact HB.out)⟩

set_option maxRecDepth 100000 in
set_option maxHeartbeats 100000000 in
theorem ref_form2b (k : Nat) (a : ByteArray) (r1 r2 : Int) (w : World) (hg : G2 a = true) (hb : bt (a.extract 8 10) 0 ≠ 32) (hb2 : bt (a.extract 8 10) 0 = 48) (h : some ((0 : Int), (80 : Int)) = some (r1, r2)) :
    Calls Tryd.prog 12 #[.string a] w fun e w' => e = .returned (.tuple #[.int .i64 r1, .int .i64 r2]) ∧ Below w.heap.size w w' := by
  simp only [G2, Bool.and_eq_true, decide_eq_true_eq] at hg
  obtain ⟨hs, b3, b7, b10, b19⟩ := hg
  have x3 : ∀ h : 3 < a.size, ((a[3]'h).toNat : Int) = 32 := fun h => (bt_at a 3 h).trans (beq_iff_eq.mp b3)
  have x7 : ∀ h : 7 < a.size, ((a[7]'h).toNat : Int) = 32 := fun h => (bt_at a 7 h).trans (beq_iff_eq.mp b7)
  have x10 : ∀ h : 10 < a.size, ((a[10]'h).toNat : Int) = 32 := fun h => (bt_at a 10 h).trans (beq_iff_eq.mp b10)
  have x19 : ∀ h : 19 < a.size, ((a[19]'h).toNat : Int) = 32 := fun h => (bt_at a 19 h).trans (beq_iff_eq.mp b19)
  clear b3 b7 b10 b19
  have hz : (a.extract 8 10).size = 2 := by simp [hs]
  obtain ⟨e8, he8⟩ : ∃ e, a.extract 8 10 = e := ⟨_, rfl⟩
  rw [he8] at hz
  rw [he8] at hb2
  have x0 : ∀ h : 0 < e8.size, ((e8[0]'h).toNat : Int) = 48 := fun h => (bt_at e8 0 h).trans hb2
  clear hb hb2
  obtain ⟨rfl, rfl⟩ := Prod.mk.inj (Option.some.inj h)
  clear h
  go_enter Tryd.func12, Tryd.ntmps12
  go_wp2_with fail
  go_ret2
  exact ⟨rfl, Below.refl _ _⟩

set_option maxRecDepth 100000 in
set_option maxHeartbeats 100000000 in
theorem ref_form2c (k : Nat) (a : ByteArray) (r1 r2 : Int) (w : World) (hg : G2 a = true) (hb : bt (a.extract 8 10) 0 ≠ 32) (hb2 : bt (a.extract 8 10) 0 ≠ 48) (h : rparts k (a.extract 8 10) (a.extract 20 a.size) (a.extract 0 3) (a.extract 4 7) (a.extract 11 19) = some (r1, r2)) :
    Calls Tryd.prog 12 #[.string a] w fun e w' => e = .returned (.tuple #[.int .i64 r1, .int .i64 r2]) ∧ Below w.heap.size w w' := by
  simp only [G2, Bool.and_eq_true, decide_eq_true_eq] at hg
  obtain ⟨hs, b3, b7, b10, b19⟩ := hg
  have x3 : ∀ h : 3 < a.size, ((a[3]'h).toNat : Int) = 32 := fun h => (bt_at a 3 h).trans (beq_iff_eq.mp b3)
  have x7 : ∀ h : 7 < a.size, ((a[7]'h).toNat : Int) = 32 := fun h => (bt_at a 7 h).trans (beq_iff_eq.mp b7)
  have x10 : ∀ h : 10 < a.size, ((a[10]'h).toNat : Int) = 32 := fun h => (bt_at a 10 h).trans (beq_iff_eq.mp b10)
  have x19 : ∀ h : 19 < a.size, ((a[19]'h).toNat : Int) = 32 := fun h => (bt_at a 19 h).trans (beq_iff_eq.mp b19)
  clear b3 b7 b10 b19
  have hz : (a.extract 8 10).size = 2 := by simp [hs]
  obtain ⟨e8, he8⟩ : ∃ e, a.extract 8 10 = e := ⟨_, rfl⟩
  rw [he8] at hz
  rw [he8] at h hb hb2
  have x0 : ∀ h : 0 < e8.size, ((e8[0]'h).toNat : Int) = bt e8 0 := fun h => bt_at e8 0 h
  have y0 : (bt e8 0 == 32) = false := beq_eq_false_iff_ne.mpr hb
  have y1 : (bt e8 0 == 48) = false := beq_eq_false_iff_ne.mpr hb2
  clear hb hb2
  simp only [rparts, hs] at h
  obtain ⟨⟨d, p⟩, h1, h⟩ := Option.bind_eq_some_iff.mp h
  obtain ⟨⟨y, q⟩, h2, h3⟩ := Option.bind_eq_some_iff.mp h
  clear h
  simp only at h3
  have C1 := Lib.hid (fun W => ambryref9_digits.calls k _ d p W h1)
  have C2 := Lib.hid (fun W => ambryref9_digits.calls k _ y q W h2)
  have H := Lib.hid h3
  clear h1 h2 h3
  go_enter Tryd.func12, Tryd.ntmps12
  go_wp2_with fail
  with_reducible refine (C1.out _).mono ?_
  rintro e w1 ⟨rfl, hd⟩
  have HB1 := Lib.hid hd.below
  clear hd
  go_wp2_with fail
  with_reducible refine (C2.out _).mono ?_
  rintro e w2 ⟨rfl, hd⟩
  have HB := Aside0.mk (below_step HB1.out hd.below)
  clear hd
  cases p with
  | false =>
    have h := H.out
    clear H
    simp only [Bool.false_eq_true, false_and, if_false] at h
    obtain ⟨rfl, rfl⟩ := Prod.mk.inj (Option.some.inj h)
    clear h
    go_wp2_with fail
    go_ret2
    exact ⟨rfl, HB.out⟩
  | true =>
    cases q with
    | false =>
      have h := H.out
      clear H
      simp only [Bool.false_eq_true, and_false, if_false] at h
      obtain ⟨rfl, rfl⟩ := Prod.mk.inj (Option.some.inj h)
      clear h
      go_wp2_with fail
      go_ret2
      exact ⟨rfl, HB.out⟩
    | true =>
      have h := H.out
      clear H
      simp only [and_self, if_true] at h
      obtain ⟨DS, h1, h⟩ := Option.bind_eq_some_iff.mp h
      obtain ⟨II, h2, h⟩ := Option.bind_eq_some_iff.mp h
      obtain ⟨MS, h3, h⟩ := Option.bind_eq_some_iff.mp h
      obtain ⟨JJ, h4, h5⟩ := Option.bind_eq_some_iff.mp h
      clear h
      have A73 := Aside0.mk h1
      have A76 := Aside0.mk h2
      have A77 := Aside0.mk h3
      have A80 := Aside0.mk h4
      have A83 := Aside0.mk h5
      clear h1 h2 h3 h4 h5
      go_wp2_with fail
      have n0_ := Aside0.mk (below_drew1 HB.out)
      clear HB
      have HB := n0_
      clear n0_
      refine start_ (n := 17) (S := fun w' => True) (ds := []) #[false, false, false, false, false, false, false, false, false, false, false, false, false, false, false, false, false] (by kernel_rfl) rfl rfl trivial (fun hHeld => ?_); refine with_tabW RefW.tab16 RefW.bits16 (fun HT_ HW_ => ?_)
      generalize w2.drew = w84 at HB hHeld ⊢
      refine pure_ (i := 1) (N := some 128) (v := ?_) (a' := ?_) #[false, true, false, false, false, false, false, false, false, false, false, false, false, false, false, false, false] rfl rfl (any_of HT_.out (by kernel_rfl)) (fun _ _ _ h => h) (Or.inl ⟨by rfl, ?_⟩) ?_ ?_
      rotate_left
      · intro w'
        go_simp
        with_reducible rfl
      rotate_left
      · simp only [Act.put, List.setIfInBounds_toArray, List.set_cons_zero, List.set_cons_succ, i64_w, i32_w]
        rfl
      refine pure_ (i := 2) (N := some 129) (v := ?_) (a' := ?_) #[false, true, true, false, false, false, false, false, false, false, false, false, false, false, false, false, false] rfl rfl (any_of HT_.out (by kernel_rfl)) (fun _ _ _ h => h) (Or.inl ⟨by rfl, ?_⟩) ?_ ?_
      rotate_left
      · intro w'
        go_simp
        with_reducible rfl
      rotate_left
      · simp only [Act.put, List.setIfInBounds_toArray, List.set_cons_zero, List.set_cons_succ, i64_w, i32_w]
        rfl
      refine pure_ (i := 4) (N := some 131) (v := ?_) (a' := ?_) #[false, true, true, false, true, false, false, false, false, false, false, false, false, false, false, false, false] rfl rfl (any_of HT_.out (by kernel_rfl)) (fun _ _ _ h => h) (Or.inl ⟨by rfl, ?_⟩) ?_ ?_
      rotate_left
      · intro w'
        go_simp
        with_reducible rfl
      rotate_left
      · simp only [Act.put, List.setIfInBounds_toArray, List.set_cons_zero, List.set_cons_succ, i64_w, i32_w]
        rfl
      refine pure_ (i := 6) (N := some 133) (v := ?_) (a' := ?_) #[false, true, true, false, true, false, true, false, false, false, false, false, false, false, false, false, false] rfl rfl (any_of HT_.out (by kernel_rfl)) (fun _ _ _ h => h) (Or.inl ⟨by rfl, ?_⟩) ?_ ?_
      rotate_left
      · intro w'
        go_simp
        with_reducible rfl
      rotate_left
      · simp only [Act.put, List.setIfInBounds_toArray, List.set_cons_zero, List.set_cons_succ, i64_w, i32_w]
        rfl
      refine pure_ (i := 7) (N := some 134) (v := ?_) (a' := ?_) #[false, true, true, false, true, false, true, true, false, false, false, false, false, false, false, false, false] rfl rfl (any_of HT_.out (by kernel_rfl)) (fun _ _ _ h => h) (Or.inl ⟨by rfl, ?_⟩) ?_ ?_
      rotate_left
      · intro w'
        go_simp
        with_reducible rfl
      rotate_left
      · simp only [Act.put, List.setIfInBounds_toArray, List.set_cons_zero, List.set_cons_succ, i64_w, i32_w]
        rfl
      refine pure_ (i := 9) (N := some 136) (v := ?_) (a' := ?_) #[false, true, true, false, true, false, true, true, false, true, false, false, false, false, false, false, false] rfl rfl (any_of HT_.out (by kernel_rfl)) (fun _ _ _ h => h) (Or.inl ⟨by rfl, ?_⟩) ?_ ?_
      rotate_left
      · intro w'
        go_simp
        with_reducible rfl
      rotate_left
      · simp only [Act.put, List.setIfInBounds_toArray, List.set_cons_zero, List.set_cons_succ, i64_w, i32_w]
        rfl
      refine pure_ (i := 10) (N := some 137) (v := ?_) (a' := ?_) #[false, true, true, false, true, false, true, true, false, true, true, false, false, false, false, false, false] rfl rfl (any_of HT_.out (by kernel_rfl)) (fun _ _ _ h => h) (Or.inl ⟨by rfl, ?_⟩) ?_ ?_
      rotate_left
      · intro w'
        go_simp
        with_reducible rfl
      rotate_left
      · simp only [Act.put, List.setIfInBounds_toArray, List.set_cons_zero, List.set_cons_succ, i64_w, i32_w]
        rfl
      refine pure_ (i := 11) (N := some 138) (v := ?_) (a' := ?_) #[false, true, true, false, true, false, true, true, false, true, true, true, false, false, false, false, false] rfl rfl (any_of HT_.out (by kernel_rfl)) (fun _ _ _ h => h) (Or.inl ⟨by rfl, ?_⟩) ?_ ?_
      rotate_left
      · intro w'
        go_simp
        with_reducible rfl
      rotate_left
      · simp only [Act.put, List.setIfInBounds_toArray, List.set_cons_zero, List.set_cons_succ, i64_w, i32_w]
        rfl
      refine one_ (i := 0) (N := some 127) #[true, true, true, false, true, false, true, true, false, true, true, true, false, false, false, false, false] rfl rfl (one_of HT_.out (by kernel_rfl)) (by decide) (fun K hK => ?_)
      refine goes_ Tryd.func25 (by kernel_rfl) rfl #[] (by rfl) rfl rfl (by (try simp only [List.map_toArray, List.map_cons, List.map_nil]); first | done | rfl | (simp only [List.length_drop, List.length_take]; rfl)) ?_
      with_reducible refine (ambryref9_days.calls  DS _ A73.out).mono ?_
      rintro e w85 ⟨v261, rfl, ho0, hb⟩
      refine ⟨_, rfl, ?_⟩
      have n0_ := Aside0.mk (Kd.R_lower ho0 (below_size (by repeat (first | (with_reducible first | exact HB.out | apply below_alloc | apply pw_below_drewN | apply below_drew1) | exact HB.out))))
      have n1_ := Aside0.mk (below_step (by repeat (first | (with_reducible first | exact HB.out | apply below_alloc | apply pw_below_drewN | apply below_drew1) | exact HB.out)) hb)
      clear HB
      have HO262 := n0_
      have HB := n1_
      clear n0_ n1_
      (try clear hb)
      (try clear hb2)
      (try clear hk)
      (try clear hi)
      (try clear ho0)
      obtain ⟨Ao86, co86, eo86⟩ := Kd.R_slice HO262.out
      (first | subst eo86 | (injection eo86 with f1_ f2_ f3_; have f4_ := f1_.symm; have f5_ := f3_.symm; clear f1_ f2_ f3_; subst f4_; subst f5_))
      refine hK.out _ _ trivial (fun hHeld => ?_)
      clear hK K
      refine norm_ (a' := ?_) ?_ ?_
      rotate_left
      · show Act.put _ (some 127) _ = _
        simp only [Act.put, List.setIfInBounds_toArray, List.set_cons_zero, List.set_cons_succ, i64_w, i32_w]
        rfl
      refine one_ (i := 3) (N := some 130) #[true, true, true, true, true, false, true, true, false, true, true, true, false, false, false, false, false] rfl rfl (one_of HT_.out (by kernel_rfl)) (by decide) (fun K hK => ?_)
      refine goes_ Tryd.func30 (by kernel_rfl) rfl #[.slice Ao86 DS.length co86, .string (a.extract 0 3)] (by rfl) rfl rfl (by (try simp only [List.map_toArray, List.map_cons, List.map_nil]); first | done | rfl | (simp only [List.length_drop, List.length_take]; rfl)) ?_
      with_reducible refine (ambryref9_index.calls k _ _ DS (a.extract 0 3) II _ ?side1 ?side2 A76.out).mono ?_
      (case side1 => repeat (first | exact (Kd.R_reads' HO262.out).2.2 | (with_reducible refine Kd.C_alloc ?_ _) | (with_reducible refine Kd.C_drewN ?_ _) | (with_reducible refine Kd.C_drew ?_)))
      (case side2 => exact (Kd.R_reads' HO262.out).2.1)
      rintro e w' ⟨rfl, ⟨nd, rfl⟩⟩
      refine ⟨_, rfl, ?_⟩
      refine hK.out _ _ trivial (fun hHeld => ?_)
      clear hK K
      refine norm_ (a' := ?_) ?_ ?_
      rotate_left
      · show Act.put _ (some 130) _ = _
        simp only [Act.put, List.setIfInBounds_toArray, List.set_cons_zero, List.set_cons_succ, i64_w, i32_w]
        rfl
      refine one_ (i := 5) (N := some 132) #[true, true, true, true, true, true, true, true, false, true, true, true, false, false, false, false, false] rfl rfl (one_of HT_.out (by kernel_rfl)) (by decide) (fun K hK => ?_)
      refine goes_ Tryd.func27 (by kernel_rfl) rfl #[] (by rfl) rfl rfl (by (try simp only [List.map_toArray, List.map_cons, List.map_nil]); first | done | rfl | (simp only [List.length_drop, List.length_take]; rfl)) ?_
      with_reducible refine (ambryref9_months.calls  MS _ A77.out).mono ?_
      rintro e w87 ⟨v265, rfl, ho0, hb⟩
      refine ⟨_, rfl, ?_⟩
      have n0_ := Aside0.mk (Kd.R_elder' (by (with_reducible repeat (first | apply Kd.R_alloc | apply Kd.R_drewN | apply Kd.R_drew)); exact HO262.out) (Kd.R_base ho0) hb)
      have n1_ := Aside0.mk (Kd.R_lower (Kd.R_new' ho0 (Kd.R_lt (by (with_reducible repeat (first | apply Kd.R_alloc | apply Kd.R_drewN | apply Kd.R_drew)); exact HO262.out))) (below_size (by repeat (first | (with_reducible first | exact HB.out | apply below_alloc | apply pw_below_drewN | apply below_drew1) | exact HB.out))))
      have n2_ := Aside0.mk (below_step (by repeat (first | (with_reducible first | exact HB.out | apply below_alloc | apply pw_below_drewN | apply below_drew1) | exact HB.out)) hb)
      clear HO262
      clear HB
      have HO262 := n0_
      have HO266 := n1_
      have HB := n2_
      clear n0_ n1_ n2_
      (try clear hb)
      (try clear hb2)
      (try clear hk)
      (try clear hi)
      (try clear ho0)
      obtain ⟨Ao88, co88, eo88⟩ := Kd.R_slice HO266.out
      (first | subst eo88 | (injection eo88 with f1_ f2_ f3_; have f4_ := f1_.symm; have f5_ := f3_.symm; clear f1_ f2_ f3_; subst f4_; subst f5_))
      refine hK.out _ _ trivial (fun hHeld => ?_)
      clear hK K
      refine norm_ (a' := ?_) ?_ ?_
      rotate_left
      · show Act.put _ (some 132) _ = _
        simp only [Act.put, List.setIfInBounds_toArray, List.set_cons_zero, List.set_cons_succ, i64_w, i32_w]
        rfl
      refine one_ (i := 8) (N := some 135) #[true, true, true, true, true, true, true, true, true, true, true, true, false, false, false, false, false] rfl rfl (one_of HT_.out (by kernel_rfl)) (by decide) (fun K hK => ?_)
      refine goes_ Tryd.func30 (by kernel_rfl) rfl #[.slice Ao88 MS.length co88, .string (a.extract 4 7)] (by rfl) rfl rfl (by (try simp only [List.map_toArray, List.map_cons, List.map_nil]); first | done | rfl | (simp only [List.length_drop, List.length_take]; rfl)) ?_
      with_reducible refine (ambryref9_index.calls k _ _ MS (a.extract 4 7) JJ _ ?side1 ?side2 A80.out).mono ?_
      (case side1 => repeat (first | exact (Kd.R_reads' HO266.out).2.2 | (with_reducible refine Kd.C_alloc ?_ _) | (with_reducible refine Kd.C_drewN ?_ _) | (with_reducible refine Kd.C_drew ?_)))
      (case side2 => exact (Kd.R_reads' HO266.out).2.1)
      rintro e w' ⟨rfl, ⟨nd, rfl⟩⟩
      refine ⟨_, rfl, ?_⟩
      refine hK.out _ _ trivial (fun hHeld => ?_)
      clear hK K
      refine norm_ (a' := ?_) ?_ ?_
      rotate_left
      · show Act.put _ (some 135) _ = _
        simp only [Act.put, List.setIfInBounds_toArray, List.set_cons_zero, List.set_cons_succ, i64_w, i32_w]
        rfl
      refine one_ (i := 12) (N := some 139) #[true, true, true, true, true, true, true, true, true, true, true, true, true, false, false, false, false] rfl rfl (one_of HT_.out (by kernel_rfl)) (by decide) (fun K hK => ?_)
      refine goes_ Tryd.func29 (by kernel_rfl) rfl #[.int .i64 II, .int .i64 y, .int .i64 JJ, .int .i64 d, .string (a.extract 11 19)] (by rfl) rfl rfl (by (try simp only [List.map_toArray, List.map_cons, List.map_nil]); first | done | rfl | (simp only [List.length_drop, List.length_take]; rfl)) ?_
      with_reducible refine (ambryref9_made.calls k II y JJ d (a.extract 11 19) r1 r2 _ A83.out).mono ?_
      rintro e w89 ⟨rfl, hb⟩
      refine ⟨_, rfl, ?_⟩
      have n0_ := Aside0.mk (Kd.R_below (by (with_reducible repeat (first | apply Kd.R_alloc | apply Kd.R_drewN | apply Kd.R_drew)); exact HO262.out) hb)
      have n1_ := Aside0.mk (Kd.R_below (by (with_reducible repeat (first | apply Kd.R_alloc | apply Kd.R_drewN | apply Kd.R_drew)); exact HO266.out) hb)
      have n2_ := Aside0.mk (below_step (by repeat (first | (with_reducible first | exact HB.out | apply below_alloc | apply pw_below_drewN | apply below_drew1) | exact HB.out)) hb)
      clear HO262
      clear HO266
      clear HB
      have HO262 := n0_
      have HO266 := n1_
      have HB := n2_
      clear n0_ n1_ n2_
      (try clear hb)
      (try clear hb2)
      (try clear hk)
      (try clear hi)
      refine hK.out _ _ trivial (fun hHeld => ?_)
      clear hK K
      refine norm_ (a' := ?_) ?_ ?_
      rotate_left
      · show Act.put _ (some 139) _ = _
        simp only [Act.put, List.setIfInBounds_toArray, List.set_cons_zero, List.set_cons_succ, i64_w, i32_w]
        rfl
      refine pure_ (i := 13) (N := some 140) (v := ?_) (a' := ?_) #[true, true, true, true, true, true, true, true, true, true, true, true, true, true, false, false, false] rfl rfl (any_of HT_.out (by kernel_rfl)) (fun _ _ _ h => h) (Or.inl ⟨by rfl, ?_⟩) ?_ ?_
      rotate_left
      · intro w'
        go_simp
        with_reducible rfl
      rotate_left
      · simp only [Act.put, List.setIfInBounds_toArray, List.set_cons_zero, List.set_cons_succ, i64_w, i32_w]
        rfl
      refine pure_ (i := 14) (N := some 141) (v := ?_) (a' := ?_) #[true, true, true, true, true, true, true, true, true, true, true, true, true, true, true, false, false] rfl rfl (any_of HT_.out (by kernel_rfl)) (fun _ _ _ h => h) (Or.inl ⟨by rfl, ?_⟩) ?_ ?_
      rotate_left
      · intro w'
        go_simp
        with_reducible rfl
      rotate_left
      · simp only [Act.put, List.setIfInBounds_toArray, List.set_cons_zero, List.set_cons_succ, i64_w, i32_w]
        rfl
      refine pure_ (i := 15) (N := some 2) (v := ?_) (a' := ?_) #[true, true, true, true, true, true, true, true, true, true, true, true, true, true, true, true, false] rfl rfl (any_of HT_.out (by kernel_rfl)) (fun _ _ _ h => h) (Or.inl ⟨by rfl, ?_⟩) ?_ ?_
      rotate_left
      · intro w'
        go_simp
        with_reducible rfl
      rotate_left
      · simp only [Act.put, List.setIfInBounds_toArray, List.set_cons_zero, List.set_cons_succ, i64_w, i32_w]
        rfl
      refine pure_ (i := 16) (N := some 3) (v := ?_) (a' := ?_) #[true, true, true, true, true, true, true, true, true, true, true, true, true, true, true, true, true] rfl rfl (any_of HT_.out (by kernel_rfl)) (fun _ _ _ h => h) (Or.inl ⟨by rfl, ?_⟩) ?_ ?_
      rotate_left
      · intro w'
        go_simp
        with_reducible rfl
      rotate_left
      · simp only [Act.put, List.setIfInBounds_toArray, List.set_cons_zero, List.set_cons_succ, i64_w, i32_w]
        rfl
      refine done_ (done_of HT_.out (by kernel_rfl)) ?_
      try go_wp2
      go_ret2
      exact ⟨by first | rfl | (simp [errW_none, errW_some] <;> rfl) | (simp [*, errW_none, errW_some] <;> rfl), by repeat (first | (with_reducible first | exact HB.out | apply below_alloc | apply pw_below_drewN | apply below_drew1) | exact HB.out)⟩
end Go.Proofs.YtcejglmmjbmafaaDoor.X
/- The document's reader of dates, Parse: its pure form and the walk of its third form (the loop). -/
namespace Go.Proofs.YtcejglmmjbmafaaDoor.X
open Go.RowKit Go.Proofs.YtcejglmmjbmafaaDoorW.PrintWords Go.Proofs.YtcejglmmjbmafaaDoorW.PrintLast Go.Proofs.YtcejglmmjbmafaaDoorW.PrintMore
set_option linter.unusedVariables false
set_option linter.unusedSimpArgs false

/-- Does the text begin with this long name of a day, and has it that form's length? -/
def lcond (a l : ByteArray) : Bool := decide (a.size = l.size + 24) && ((a.extract 0 l.size).toList == l.toList && (a.extract l.size (l.size + 2)).toList == [44, 32])
def rform3 (k : Nat) (w : Int) (r : ByteArray) : Option (Int × Int) := (ambryref9_digits.f k (r.extract 0 2)).bind fun a => (ambryref9_digits.f k (r.extract 7 9)).bind fun b =>
  if a.2 = true ∧ b.2 = true ∧ bt r 2 = 45 ∧ bt r 6 = 45 ∧ bt r 9 = 32 ∧ (r.extract 18 22).toList = [32, 71, 77, 84] then ambryref9_months.f.bind fun ms => (ambryref9_index.f k ms (r.extract 3 6)).bind fun j =>
    ambryref9_made.f k w (if b.1 ≥ 70 then wrap64 (b.1 + 1900) else wrap64 (b.1 + 2000)) j a.1 (r.extract 10 18)
  else some (0, 80)
def rloop (k : Nat) (a : ByteArray) : Int → List ByteArray → Option (Int × Int)
  | _, [] => some (0, 80)
  | w, l :: ls => if lcond a l = true then rform3 k w (a.extract (l.size + 2) (l.size + 24)) else rloop k a (w + 1) ls
def ambryref9_Parse.f (k : Nat) (a : ByteArray) : Option (Int × Int) :=
  if G1 a = true then rform1 k a else if G2 a = true then rform2 k a else ambryref9_longs.f.bind fun ls => rloop k a 0 ls
theorem rparts.mono (d y w m c : ByteArray) (k : Nat) : LeO (rparts k d y w m c) (rparts (k + 1) d y w m c) :=
  LeO.bind (ambryref9_digits.mono _ _) fun _ => LeO.bind (ambryref9_digits.mono _ _) fun _ => LeO.ite (LeO.bind (LeO.refl _) fun _ => LeO.bind (ambryref9_index.mono _ _ _) fun _ => LeO.bind (LeO.refl _) fun _ => LeO.bind (ambryref9_index.mono _ _ _) fun _ => ambryref9_made.mono _ _ _ _ _ _) (LeO.refl _)
theorem rloop.mono (a : ByteArray) (k : Nat) : ∀ (ls : List ByteArray) (w : Int), LeO (rloop k a w ls) (rloop (k + 1) a w ls)
  | [], _ => LeO.refl _
  | l :: ls, w => LeO.ite (LeO.bind (ambryref9_digits.mono _ _) fun _ => LeO.bind (ambryref9_digits.mono _ _) fun _ => LeO.ite (LeO.bind (LeO.refl _) fun _ => LeO.bind (ambryref9_index.mono _ _ _) fun _ => ambryref9_made.mono _ _ _ _ _ _) (LeO.refl _)) (rloop.mono a k ls (w + 1))
theorem ambryref9_Parse.mono (a : ByteArray) (k : Nat) : LeO (ambryref9_Parse.f k a) (ambryref9_Parse.f (k + 1) a) :=
  LeO.ite (rparts.mono _ _ _ _ _ _) (LeO.ite (LeO.ite (rparts.mono _ _ _ _ _ _) (LeO.ite (LeO.refl _) (rparts.mono _ _ _ _ _ _))) (LeO.bind (LeO.refl _) fun _ => rloop.mono _ _ _ _))

theorem fall1 (a : ByteArray) (h : G1 a = false) : a.size ≠ 29 ∨ a.size = 29 ∧ ((a.extract 3 5).toList == [44, 32]) = false ∨ a.size = 29 ∧ ((a.extract 3 5).toList == [44, 32]) = true ∧ (bt a 7 == 32) = false ∨
    a.size = 29 ∧ ((a.extract 3 5).toList == [44, 32]) = true ∧ (bt a 7 == 32) = true ∧ (bt a 11 == 32) = false ∨ a.size = 29 ∧ ((a.extract 3 5).toList == [44, 32]) = true ∧ (bt a 7 == 32) = true ∧ (bt a 11 == 32) = true ∧ (bt a 16 == 32) = false ∨
    a.size = 29 ∧ ((a.extract 3 5).toList == [44, 32]) = true ∧ (bt a 7 == 32) = true ∧ (bt a 11 == 32) = true ∧ (bt a 16 == 32) = true ∧ ((a.extract 25 29).toList == [32, 71, 77, 84]) = false := by
  by_cases hs : a.size = 29
  · unfold G1 at h
    rw [hs] at h
    revert h
    cases ((a.extract 3 5).toList == [44, 32]) <;> cases (bt a 7 == 32) <;> cases (bt a 11 == 32) <;> cases (bt a 16 == 32) <;> cases ((a.extract 25 29).toList == [32, 71, 77, 84]) <;> simp [hs]
  · exact .inl hs
theorem fall2 (a : ByteArray) (h : G2 a = false) : a.size ≠ 24 ∨ a.size = 24 ∧ (bt a 3 == 32) = false ∨ a.size = 24 ∧ (bt a 3 == 32) = true ∧ (bt a 7 == 32) = false ∨ a.size = 24 ∧ (bt a 3 == 32) = true ∧ (bt a 7 == 32) = true ∧ (bt a 10 == 32) = false ∨
    a.size = 24 ∧ (bt a 3 == 32) = true ∧ (bt a 7 == 32) = true ∧ (bt a 10 == 32) = true ∧ (bt a 19 == 32) = false := by
  by_cases hs : a.size = 24
  · unfold G2 at h
    revert h
    cases (bt a 3 == 32) <;> cases (bt a 7 == 32) <;> cases (bt a 10 == 32) <;> cases (bt a 19 == 32) <;> simp [hs]
  · exact .inl hs
/-- What one round finds. -/
theorem lcases (a l : ByteArray) : lcond a l = true ∧ a.size = l.size + 24 ∧ ((a.extract 0 l.size).toList == l.toList) = true ∧ ((a.extract l.size (l.size + 2)).toList == [44, 32]) = true ∨
    lcond a l = false ∧ (a.size ≠ l.size + 24 ∨ a.size = l.size + 24 ∧ ((a.extract 0 l.size).toList == l.toList) = false ∨ a.size = l.size + 24 ∧ ((a.extract 0 l.size).toList == l.toList) = true ∧ ((a.extract l.size (l.size + 2)).toList == [44, 32]) = false) := by
  by_cases hs : a.size = l.size + 24
  · cases h1 : ((a.extract 0 l.size).toList == l.toList) <;> cases h2 : ((a.extract l.size (l.size + 2)).toList == [44, 32]) <;> simp [lcond, hs, h1, h2]
  · exact .inr ⟨by simp [lcond, hs], .inl hs⟩

set_option maxRecDepth 100000 in
set_option maxHeartbeats 100000000 in
theorem ref_rest (k : Nat) (a : ByteArray) (r1 r2 : Int) (ls : List ByteArray) (w : World) (hg : G1 a = false) (hg2 : G2 a = false) (hls : ambryref9_longs.f = some ls) (hl7 : ls.length = 7) (h9 : ∀ l ∈ ls, l.size = 6 ∨ l.size = 7 ∨ l.size = 8 ∨ l.size = 9) (h : rloop k a 0 ls = some (r1, r2)) :
    Calls Tryd.prog 12 #[.string a] w fun e w' => e = .returned (.tuple #[.int .i64 r1, .int .i64 r2]) ∧ Below w.heap.size w w' := by
  have H := Lib.hid h
  have CL := Lib.hid (fun W => ambryref9_longs.calls ls W hls)
  have HL := Lib.hid hls
  have H7 := Lib.hid hl7
  have H9 := Lib.hid h9
  clear h hls hl7 h9
  have F1 := Lib.hid (fall1 a hg)
  have F2 := Lib.hid (fall2 a hg2)
  clear hg hg2
  have HB := Aside0.mk (Below.refl w.heap.size w)
  go_enter Tryd.func12, Tryd.ntmps12
  go_upto_region 1 with (fail)
  go_cut [47] (fun v47 wc => v47 = .bool false ∧ Aside0 (Below w.heap.size w wc))
  case first => as_aux_lemma =>
    clear H CL HL F2
    have f := F1.out
    clear F1
    rcases f with hs | ⟨hs, f1⟩ | ⟨hs, f1, f2⟩ | ⟨hs, f1, f2, f3⟩ | ⟨hs, f1, f2, f3, f4⟩ | ⟨hs, f1, f2, f3, f4, f5⟩
    · have hi : ((a.size : Int) == 29) = false := beq_eq_false_iff_ne.mpr (by omega)
      go_wp2
      go_meet
      case rel => exact ⟨rfl, HB⟩
    · go_wp2
      go_meet
      case rel => exact ⟨rfl, HB⟩
    · have x7 : ∀ h : 7 < a.size, ((a[7]'h).toNat : Int) = bt a 7 := fun h => bt_at a 7 h
      go_wp2
      go_meet
      case rel => exact ⟨rfl, HB⟩
    · have x7 : ∀ h : 7 < a.size, ((a[7]'h).toNat : Int) = bt a 7 := fun h => bt_at a 7 h
      have x11 : ∀ h : 11 < a.size, ((a[11]'h).toNat : Int) = bt a 11 := fun h => bt_at a 11 h
      go_wp2
      go_meet
      case rel => exact ⟨rfl, HB⟩
    · have x7 : ∀ h : 7 < a.size, ((a[7]'h).toNat : Int) = bt a 7 := fun h => bt_at a 7 h
      have x11 : ∀ h : 11 < a.size, ((a[11]'h).toNat : Int) = bt a 11 := fun h => bt_at a 11 h
      have x16 : ∀ h : 16 < a.size, ((a[16]'h).toNat : Int) = bt a 16 := fun h => bt_at a 16 h
      go_wp2
      go_meet
      case rel => exact ⟨rfl, HB⟩
    · have x7 : ∀ h : 7 < a.size, ((a[7]'h).toNat : Int) = bt a 7 := fun h => bt_at a 7 h
      have x11 : ∀ h : 11 < a.size, ((a[11]'h).toNat : Int) = bt a 11 := fun h => bt_at a 11 h
      have x16 : ∀ h : 16 < a.size, ((a[16]'h).toNat : Int) = bt a 16 := fun h => bt_at a 16 h
      go_wp2
      go_meet
      case rel => exact ⟨rfl, HB⟩
  case rest =>
    clear HB
    obtain ⟨rfl, HB⟩ := hcut
    clear F1
    go_upto_region 7 with (fail)
    go_cut [101] (fun v101 wc => v101 = .bool false ∧ Aside0 (Below w.heap.size w wc))
    case first => as_aux_lemma =>
      clear H CL HL
      have f := F2.out
      clear F2
      have x3 : ∀ h : 3 < a.size, ((a[3]'h).toNat : Int) = bt a 3 := fun h => bt_at a 3 h
      have x7 : ∀ h : 7 < a.size, ((a[7]'h).toNat : Int) = bt a 7 := fun h => bt_at a 7 h
      have x10 : ∀ h : 10 < a.size, ((a[10]'h).toNat : Int) = bt a 10 := fun h => bt_at a 10 h
      have x19 : ∀ h : 19 < a.size, ((a[19]'h).toNat : Int) = bt a 19 := fun h => bt_at a 19 h
      rcases f with hs | ⟨hs, f1⟩ | ⟨hs, f1, f2⟩ | ⟨hs, f1, f2, f3⟩ | ⟨hs, f1, f2, f3, f4⟩
      · have hi : ((a.size : Int) == 24) = false := beq_eq_false_iff_ne.mpr (by omega)
        go_wp2
        go_meet
        case rel => exact ⟨rfl, HB⟩
      all_goals
        go_wp2
        go_meet
        case rel => exact ⟨rfl, HB⟩
    case rest => as_aux_lemma =>
      clear HB
      obtain ⟨rfl, HB⟩ := hcut
      clear F2
      go_wp2
      go_loopg [13] 7 (fun kq v13 w' => ∃ (i : Nat), v13 = .int .i64 i ∧ Aside0 (kq + i = 7) ∧ Aside0 (rloop k a i (ls.drop i) = some (r1, r2)) ∧ Aside0 (Below w.heap.size w w'))
      case atStart => exact ⟨0, rfl, ⟨rfl⟩, ⟨H.out⟩, HB⟩
      case round => as_aux_lemma =>
        clear H HB
        obtain ⟨i, rfl, HK, H, HB⟩ := hrel
        cases gk with
        | zero =>
          have hk := HK.out
          have ei : i = 7 := by omega
          subst ei
          have h := H.out
          rw [List.drop_eq_nil_of_le (Nat.le_of_eq H7.out)] at h
          simp only [rloop] at h
          obtain ⟨rfl, rfl⟩ := Prod.mk.inj (Option.some.inj h)
          clear h H HK hk
          go_wp2_with fail
          go_ret2
          exact ⟨rfl, HB.out⟩
        | succ k1 =>
          have hk := HK.out
          have hi : i < 7 := by omega
          have hi7 : decide ((i : Int) < 7) = true := decide_eq_true (by omega)
          obtain ⟨l, ls', hd⟩ : ∃ l ls', ls.drop i = l :: ls' := by
            cases e : ls.drop i with
            | nil => exact absurd (congrArg List.length e) (by simp only [List.length_drop, H7.out, List.length_nil]; omega)
            | cons l ls' => exact ⟨l, ls', rfl⟩
          have hrd : rdOf ByteArray.empty ls (i : Int) = l := by
            have e := congrArg (fun z => z.getD 0 ByteArray.empty) hd
            simpa [rdOf, List.getD_eq_getElem?_getD] using e
          have hd' : ls.drop (i + 1) = ls' := by rw [← List.tail_drop, hd]; rfl
          have hsz := H9.out l (List.mem_of_mem_drop (by rw [hd]; exact List.mem_cons_self))
          have h := H.out
          rw [hd] at h
          simp only [rloop] at h
          clear H
          have HH := Lib.hid h
          have HD := Lib.hid hd'
          have HR := Lib.hid hrd
          have HK1 := Lib.hid (show k1 + (i + 1) = 7 by omega)
          have LC := Lib.hid (lcases a l)
          clear h hd hd' hk HK
          go_wp2_with fail
          refine (CL.out _).mono ?_
          rintro e w3 ⟨v, rfl, hR, hb⟩
          have HB3 := Lib.hid (below_step HB.out hb)
          obtain ⟨A, c, rfl, hC, hc⟩ := slice_of hR
          obtain ⟨ad, eA, hx⟩ := Kd.at_string hC (i : Int) (by omega) (by rw [H7.out]; omega)
          subst eA
          rw [hrd] at hx
          clear hR hb hc hrd
          simp only [Int.toNat_natCast] at hx
          have hlen := H7.out
          rcases LC.out with ⟨hc, hs, f1, f2⟩ | ⟨hc, hff⟩
          · have h := HH.out
            rw [hc, if_pos rfl] at h
            clear HH LC hc
            obtain ⟨r, he⟩ : ∃ r, a.extract (l.size + 2) (l.size + 24) = r := ⟨_, rfl⟩
            rw [he] at h
            have hz : r.size = 22 := by rw [← he]; simp [hs]
            have x2 : ∀ h : 2 < r.size, ((r[2]'h).toNat : Int) = bt r 2 := fun h => bt_at r 2 h
            have x6 : ∀ h : 6 < r.size, ((r[6]'h).toNat : Int) = bt r 6 := fun h => bt_at r 6 h
            have x9 : ∀ h : 9 < r.size, ((r[9]'h).toNat : Int) = bt r 9 := fun h => bt_at r 9 h
            simp only [rform3] at h
            obtain ⟨⟨d, p⟩, h1, h⟩ := Option.bind_eq_some_iff.mp h
            obtain ⟨⟨y, q⟩, h2, h3⟩ := Option.bind_eq_some_iff.mp h
            clear h
            simp only at h3
            have C1 := Lib.hid (fun W => ambryref9_digits.calls k _ d p W h1)
            have C2 := Lib.hid (fun W => ambryref9_digits.calls k _ y q W h2)
            have H := Lib.hid h3
            clear h1 h2 h3
            have HB := Aside0.mk HB3.out
            go_upto_region 22 with (fail)
            go_cut [173] (fun v173 wc => v173 = .bool true ∧ Aside0 (Below w.heap.size w wc))
            case first => as_aux_lemma =>
              clear C1 C2 H
              rcases hsz with hl | hl | hl | hl
              all_goals
                rw [hl] at hs he f1 f2
                simp only [Nat.reduceAdd] at hs he f1 f2
                go_wp2
                go_meet
                case rel => exact ⟨rfl, HB⟩
            clear HB HB3
            obtain ⟨rfl, HB⟩ := hcut
            go_upto_region 23 with (fail)
            go_cut [15] (fun v15 wc => v15 = .string r ∧ Aside0 (Below w.heap.size w wc))
            case first => as_aux_lemma =>
              clear C1 C2 H
              rcases hsz with hl | hl | hl | hl
              all_goals
                rw [hl] at hs he f1 f2
                simp only [Nat.reduceAdd] at hs he f1 f2
                go_wp2
                go_meet
                case rel => exact ⟨rfl, HB⟩
            case rest => as_aux_lemma =>
              clear HB
              obtain ⟨rfl, HB3⟩ := hcut
              clear hs he f1 f2 hx
              go_wp2_with fail
              with_reducible refine (C1.out _).mono ?_
              rintro e w4 ⟨rfl, hd⟩
              have HB4 := Lib.hid (below_step HB3.out hd.below)
              clear hd
              go_wp2_with fail
              with_reducible refine (C2.out _).mono ?_
              rintro e w5 ⟨rfl, hd⟩
              have HB := Aside0.mk (below_step HB4.out hd.below)
              clear hd
              by_cases hp : p = true ∧ q = true ∧ bt r 2 = 45 ∧ bt r 6 = 45 ∧ bt r 9 = 32 ∧ (r.extract 18 22).toList = [32, 71, 77, 84]
              · as_aux_lemma =>
                have h := H.out
                rw [if_pos hp] at h
                clear H
                obtain ⟨rfl, rfl, b2, b6, b9, b18⟩ := hp
                rw [b2] at x2
                rw [b6] at x6
                rw [b9] at x9
                clear b2 b6 b9
                obtain ⟨MS, h1, h⟩ := Option.bind_eq_some_iff.mp h
                obtain ⟨JJ, h2, h3⟩ := Option.bind_eq_some_iff.mp h
                clear h
                by_cases hy : y ≥ 70
                · as_aux_lemma =>
                  rw [if_pos hy] at h3
                  have hy1 : decide (70 ≤ y) = true := decide_eq_true hy
                  have A129 := Aside0.mk h1
                  have A132 := Aside0.mk h2
                  have A135 := Aside0.mk h3
                  clear h1 h2 h3 hy
                  go_wp2_with fail
                  have n0_ := Aside0.mk (below_drew1 HB.out)
                  clear HB
                  have HB := n0_
                  clear n0_
                  refine start_ (n := 14) (S := fun w' => True) (ds := []) #[false, false, false, false, false, false, false, false, false, false, false, false, false, false] (by kernel_rfl) rfl rfl trivial (fun hHeld => ?_); refine with_tabW RefW.tab31 RefW.bits31 (fun HT_ HW_ => ?_)
                  generalize w5.drew = w136 at HB hHeld ⊢
                  refine pure_ (i := 0) (N := some 223) (v := ?_) (a' := ?_) #[true, false, false, false, false, false, false, false, false, false, false, false, false, false] rfl rfl (any_of HT_.out (by kernel_rfl)) (fun _ _ _ h => h) (Or.inl ⟨by rfl, ?_⟩) ?_ ?_
                  rotate_left
                  · intro w'
                    go_simp
                    with_reducible rfl
                  rotate_left
                  · simp only [Act.put, List.setIfInBounds_toArray, List.set_cons_zero, List.set_cons_succ, i64_w, i32_w]
                    rfl
                  refine pure_ (i := 1) (N := some 224) (v := ?_) (a' := ?_) #[true, true, false, false, false, false, false, false, false, false, false, false, false, false] rfl rfl (any_of HT_.out (by kernel_rfl)) (fun _ _ _ h => h) (Or.inl ⟨by rfl, ?_⟩) ?_ ?_
                  rotate_left
                  · intro w'
                    go_simp
                    with_reducible rfl
                  rotate_left
                  · simp only [Act.put, List.setIfInBounds_toArray, List.set_cons_zero, List.set_cons_succ, i64_w, i32_w]
                    rfl
                  refine pure_ (i := 3) (N := some 226) (v := ?_) (a' := ?_) #[true, true, false, true, false, false, false, false, false, false, false, false, false, false] rfl rfl (any_of HT_.out (by kernel_rfl)) (fun _ _ _ h => h) (Or.inl ⟨by rfl, ?_⟩) ?_ ?_
                  rotate_left
                  · intro w'
                    go_simp
                    with_reducible rfl
                  rotate_left
                  · simp only [Act.put, List.setIfInBounds_toArray, List.set_cons_zero, List.set_cons_succ, i64_w, i32_w]
                    rfl
                  refine pure_ (i := 4) (N := some 227) (v := ?_) (a' := ?_) #[true, true, false, true, true, false, false, false, false, false, false, false, false, false] rfl rfl (any_of HT_.out (by kernel_rfl)) (fun _ _ _ h => h) (Or.inl ⟨by rfl, ?_⟩) ?_ ?_
                  rotate_left
                  · intro w'
                    go_simp
                    with_reducible rfl
                  rotate_left
                  · simp only [Act.put, List.setIfInBounds_toArray, List.set_cons_zero, List.set_cons_succ, i64_w, i32_w]
                    rfl
                  refine pure_ (i := 6) (N := some 229) (v := ?_) (a' := ?_) #[true, true, false, true, true, false, true, false, false, false, false, false, false, false] rfl rfl (any_of HT_.out (by kernel_rfl)) (fun _ _ _ h => h) (Or.inl ⟨by rfl, ?_⟩) ?_ ?_
                  rotate_left
                  · intro w'
                    go_simp
                    with_reducible rfl
                  rotate_left
                  · simp only [Act.put, List.setIfInBounds_toArray, List.set_cons_zero, List.set_cons_succ, i64_w, i32_w]
                    rfl
                  refine pure_ (i := 7) (N := some 230) (v := ?_) (a' := ?_) #[true, true, false, true, true, false, true, true, false, false, false, false, false, false] rfl rfl (any_of HT_.out (by kernel_rfl)) (fun _ _ _ h => h) (Or.inl ⟨by rfl, ?_⟩) ?_ ?_
                  rotate_left
                  · intro w'
                    go_simp
                    with_reducible rfl
                  rotate_left
                  · simp only [Act.put, List.setIfInBounds_toArray, List.set_cons_zero, List.set_cons_succ, i64_w, i32_w]
                    rfl
                  refine pure_ (i := 8) (N := some 231) (v := ?_) (a' := ?_) #[true, true, false, true, true, false, true, true, true, false, false, false, false, false] rfl rfl (any_of HT_.out (by kernel_rfl)) (fun _ _ _ h => h) (Or.inl ⟨by rfl, ?_⟩) ?_ ?_
                  rotate_left
                  · intro w'
                    go_simp
                    with_reducible rfl
                  rotate_left
                  · simp only [Act.put, List.setIfInBounds_toArray, List.set_cons_zero, List.set_cons_succ, i64_w, i32_w]
                    rfl
                  refine one_ (i := 2) (N := some 225) #[true, true, true, true, true, false, true, true, true, false, false, false, false, false] rfl rfl (one_of HT_.out (by kernel_rfl)) (by decide) (fun K hK => ?_)
                  refine goes_ Tryd.func27 (by kernel_rfl) rfl #[] (by rfl) rfl rfl (by (try simp only [List.map_toArray, List.map_cons, List.map_nil]); first | done | rfl | (simp only [List.length_drop, List.length_take]; rfl)) ?_
                  with_reducible refine (ambryref9_months.calls  MS _ A129.out).mono ?_
                  rintro e w137 ⟨v279, rfl, ho0, hb⟩
                  refine ⟨_, rfl, ?_⟩
                  have n0_ := Aside0.mk (Kd.R_lower ho0 (below_size (by repeat (first | (with_reducible first | exact HB.out | apply below_alloc | apply pw_below_drewN | apply below_drew1) | exact HB.out))))
                  have n1_ := Aside0.mk (below_step (by repeat (first | (with_reducible first | exact HB.out | apply below_alloc | apply pw_below_drewN | apply below_drew1) | exact HB.out)) hb)
                  clear HB
                  have HO280 := n0_
                  have HB := n1_
                  clear n0_ n1_
                  (try clear hb)
                  (try clear hb2)
                  (try clear hk)
                  (try clear hi)
                  (try clear ho0)
                  obtain ⟨Ao138, co138, eo138⟩ := Kd.R_slice HO280.out
                  (first | subst eo138 | (injection eo138 with f1_ f2_ f3_; have f4_ := f1_.symm; have f5_ := f3_.symm; clear f1_ f2_ f3_; subst f4_; subst f5_))
                  refine hK.out _ _ trivial (fun hHeld => ?_)
                  clear hK K
                  refine norm_ (a' := ?_) ?_ ?_
                  rotate_left
                  · show Act.put _ (some 225) _ = _
                    simp only [Act.put, List.setIfInBounds_toArray, List.set_cons_zero, List.set_cons_succ, i64_w, i32_w]
                    rfl
                  refine one_ (i := 5) (N := some 228) #[true, true, true, true, true, true, true, true, true, false, false, false, false, false] rfl rfl (one_of HT_.out (by kernel_rfl)) (by decide) (fun K hK => ?_)
                  refine goes_ Tryd.func30 (by kernel_rfl) rfl #[.slice Ao138 MS.length co138, .string (r.extract 3 6)] (by rfl) rfl rfl (by (try simp only [List.map_toArray, List.map_cons, List.map_nil]); first | done | (simp only [he]; rfl) | rfl | (simp only [List.length_drop, List.length_take]; rfl)) ?_
                  with_reducible refine (ambryref9_index.calls k _ _ MS (r.extract 3 6) JJ _ ?side1 ?side2 A132.out).mono ?_
                  (case side1 => repeat (first | exact (Kd.R_reads' HO280.out).2.2 | (with_reducible refine Kd.C_alloc ?_ _) | (with_reducible refine Kd.C_drewN ?_ _) | (with_reducible refine Kd.C_drew ?_)))
                  (case side2 => exact (Kd.R_reads' HO280.out).2.1)
                  rintro e w' ⟨rfl, ⟨nd, rfl⟩⟩
                  refine ⟨_, rfl, ?_⟩
                  refine hK.out _ _ trivial (fun hHeld => ?_)
                  clear hK K
                  refine norm_ (a' := ?_) ?_ ?_
                  rotate_left
                  · show Act.put _ (some 228) _ = _
                    simp only [Act.put, List.setIfInBounds_toArray, List.set_cons_zero, List.set_cons_succ, i64_w, i32_w]
                    rfl
                  refine one_ (i := 9) (N := some 232) #[true, true, true, true, true, true, true, true, true, true, false, false, false, false] rfl rfl (one_of HT_.out (by kernel_rfl)) (by decide) (fun K hK => ?_)
                  refine goes_ Tryd.func29 (by kernel_rfl) rfl #[.int .i64 (i : Int), .int .i64 (wrap64 (y + 1900)), .int .i64 JJ, .int .i64 d, .string (r.extract 10 18)] (by rfl) rfl rfl (by (try simp only [List.map_toArray, List.map_cons, List.map_nil]); first | done | (simp only [he]; rfl) | rfl | (simp only [List.length_drop, List.length_take]; rfl)) ?_
                  with_reducible refine (ambryref9_made.calls k (i : Int) (wrap64 (y + 1900)) JJ d (r.extract 10 18) r1 r2 _ A135.out).mono ?_
                  rintro e w139 ⟨rfl, hb⟩
                  refine ⟨_, rfl, ?_⟩
                  have n0_ := Aside0.mk (Kd.R_below (by (with_reducible repeat (first | apply Kd.R_alloc | apply Kd.R_drewN | apply Kd.R_drew)); exact HO280.out) hb)
                  have n1_ := Aside0.mk (below_step (by repeat (first | (with_reducible first | exact HB.out | apply below_alloc | apply pw_below_drewN | apply below_drew1) | exact HB.out)) hb)
                  clear HO280
                  clear HB
                  have HO280 := n0_
                  have HB := n1_
                  clear n0_ n1_
                  (try clear hb)
                  (try clear hb2)
                  (try clear hk)
                  (try clear hi)
                  refine hK.out _ _ trivial (fun hHeld => ?_)
                  clear hK K
                  refine norm_ (a' := ?_) ?_ ?_
                  rotate_left
                  · show Act.put _ (some 232) _ = _
                    simp only [Act.put, List.setIfInBounds_toArray, List.set_cons_zero, List.set_cons_succ, i64_w, i32_w]
                    rfl
                  refine pure_ (i := 10) (N := some 233) (v := ?_) (a' := ?_) #[true, true, true, true, true, true, true, true, true, true, true, false, false, false] rfl rfl (any_of HT_.out (by kernel_rfl)) (fun _ _ _ h => h) (Or.inl ⟨by rfl, ?_⟩) ?_ ?_
                  rotate_left
                  · intro w'
                    go_simp
                    with_reducible rfl
                  rotate_left
                  · simp only [Act.put, List.setIfInBounds_toArray, List.set_cons_zero, List.set_cons_succ, i64_w, i32_w]
                    rfl
                  refine pure_ (i := 11) (N := some 234) (v := ?_) (a' := ?_) #[true, true, true, true, true, true, true, true, true, true, true, true, false, false] rfl rfl (any_of HT_.out (by kernel_rfl)) (fun _ _ _ h => h) (Or.inl ⟨by rfl, ?_⟩) ?_ ?_
                  rotate_left
                  · intro w'
                    go_simp
                    with_reducible rfl
                  rotate_left
                  · simp only [Act.put, List.setIfInBounds_toArray, List.set_cons_zero, List.set_cons_succ, i64_w, i32_w]
                    rfl
                  refine pure_ (i := 12) (N := some 2) (v := ?_) (a' := ?_) #[true, true, true, true, true, true, true, true, true, true, true, true, true, false] rfl rfl (any_of HT_.out (by kernel_rfl)) (fun _ _ _ h => h) (Or.inl ⟨by rfl, ?_⟩) ?_ ?_
                  rotate_left
                  · intro w'
                    go_simp
                    with_reducible rfl
                  rotate_left
                  · simp only [Act.put, List.setIfInBounds_toArray, List.set_cons_zero, List.set_cons_succ, i64_w, i32_w]
                    rfl
                  refine pure_ (i := 13) (N := some 3) (v := ?_) (a' := ?_) #[true, true, true, true, true, true, true, true, true, true, true, true, true, true] rfl rfl (any_of HT_.out (by kernel_rfl)) (fun _ _ _ h => h) (Or.inl ⟨by rfl, ?_⟩) ?_ ?_
                  rotate_left
                  · intro w'
                    go_simp
                    with_reducible rfl
                  rotate_left
                  · simp only [Act.put, List.setIfInBounds_toArray, List.set_cons_zero, List.set_cons_succ, i64_w, i32_w]
                    rfl
                  refine done_ (done_of HT_.out (by kernel_rfl)) ?_
                  try go_wp2
                  go_ret2
                  exact ⟨by first | rfl | (simp [errW_none, errW_some] <;> rfl) | (simp only [he]; first | rfl | (simp [errW_none, errW_some] <;> rfl)) | (simp [*, errW_none, errW_some] <;> rfl), by repeat (first | (with_reducible first | exact HB.out | apply below_alloc | apply pw_below_drewN | apply below_drew1) | exact HB.out)⟩
                · as_aux_lemma =>
                  rw [if_neg hy] at h3
                  have hy1 : decide (70 ≤ y) = false := decide_eq_false hy
                  have A140 := Aside0.mk h1
                  have A143 := Aside0.mk h2
                  have A146 := Aside0.mk h3
                  clear h1 h2 h3 hy
                  go_wp2_with fail
                  have n0_ := Aside0.mk (below_drew1 HB.out)
                  clear HB
                  have HB := n0_
                  clear n0_
                  refine start_ (n := 14) (S := fun w' => True) (ds := []) #[false, false, false, false, false, false, false, false, false, false, false, false, false, false] (by kernel_rfl) rfl rfl trivial (fun hHeld => ?_); refine with_tabW RefW.tab31 RefW.bits31 (fun HT_ HW_ => ?_)
                  generalize w5.drew = w147 at HB hHeld ⊢
                  refine pure_ (i := 0) (N := some 223) (v := ?_) (a' := ?_) #[true, false, false, false, false, false, false, false, false, false, false, false, false, false] rfl rfl (any_of HT_.out (by kernel_rfl)) (fun _ _ _ h => h) (Or.inl ⟨by rfl, ?_⟩) ?_ ?_
                  rotate_left
                  · intro w'
                    go_simp
                    with_reducible rfl
                  rotate_left
                  · simp only [Act.put, List.setIfInBounds_toArray, List.set_cons_zero, List.set_cons_succ, i64_w, i32_w]
                    rfl
                  refine pure_ (i := 1) (N := some 224) (v := ?_) (a' := ?_) #[true, true, false, false, false, false, false, false, false, false, false, false, false, false] rfl rfl (any_of HT_.out (by kernel_rfl)) (fun _ _ _ h => h) (Or.inl ⟨by rfl, ?_⟩) ?_ ?_
                  rotate_left
                  · intro w'
                    go_simp
                    with_reducible rfl
                  rotate_left
                  · simp only [Act.put, List.setIfInBounds_toArray, List.set_cons_zero, List.set_cons_succ, i64_w, i32_w]
                    rfl
                  refine pure_ (i := 3) (N := some 226) (v := ?_) (a' := ?_) #[true, true, false, true, false, false, false, false, false, false, false, false, false, false] rfl rfl (any_of HT_.out (by kernel_rfl)) (fun _ _ _ h => h) (Or.inl ⟨by rfl, ?_⟩) ?_ ?_
                  rotate_left
                  · intro w'
                    go_simp
                    with_reducible rfl
                  rotate_left
                  · simp only [Act.put, List.setIfInBounds_toArray, List.set_cons_zero, List.set_cons_succ, i64_w, i32_w]
                    rfl
                  refine pure_ (i := 4) (N := some 227) (v := ?_) (a' := ?_) #[true, true, false, true, true, false, false, false, false, false, false, false, false, false] rfl rfl (any_of HT_.out (by kernel_rfl)) (fun _ _ _ h => h) (Or.inl ⟨by rfl, ?_⟩) ?_ ?_
                  rotate_left
                  · intro w'
                    go_simp
                    with_reducible rfl
                  rotate_left
                  · simp only [Act.put, List.setIfInBounds_toArray, List.set_cons_zero, List.set_cons_succ, i64_w, i32_w]
                    rfl
                  refine pure_ (i := 6) (N := some 229) (v := ?_) (a' := ?_) #[true, true, false, true, true, false, true, false, false, false, false, false, false, false] rfl rfl (any_of HT_.out (by kernel_rfl)) (fun _ _ _ h => h) (Or.inl ⟨by rfl, ?_⟩) ?_ ?_
                  rotate_left
                  · intro w'
                    go_simp
                    with_reducible rfl
                  rotate_left
                  · simp only [Act.put, List.setIfInBounds_toArray, List.set_cons_zero, List.set_cons_succ, i64_w, i32_w]
                    rfl
                  refine pure_ (i := 7) (N := some 230) (v := ?_) (a' := ?_) #[true, true, false, true, true, false, true, true, false, false, false, false, false, false] rfl rfl (any_of HT_.out (by kernel_rfl)) (fun _ _ _ h => h) (Or.inl ⟨by rfl, ?_⟩) ?_ ?_
                  rotate_left
                  · intro w'
                    go_simp
                    with_reducible rfl
                  rotate_left
                  · simp only [Act.put, List.setIfInBounds_toArray, List.set_cons_zero, List.set_cons_succ, i64_w, i32_w]
                    rfl
                  refine pure_ (i := 8) (N := some 231) (v := ?_) (a' := ?_) #[true, true, false, true, true, false, true, true, true, false, false, false, false, false] rfl rfl (any_of HT_.out (by kernel_rfl)) (fun _ _ _ h => h) (Or.inl ⟨by rfl, ?_⟩) ?_ ?_
                  rotate_left
                  · intro w'
                    go_simp
                    with_reducible rfl
                  rotate_left
                  · simp only [Act.put, List.setIfInBounds_toArray, List.set_cons_zero, List.set_cons_succ, i64_w, i32_w]
                    rfl
                  refine one_ (i := 2) (N := some 225) #[true, true, true, true, true, false, true, true, true, false, false, false, false, false] rfl rfl (one_of HT_.out (by kernel_rfl)) (by decide) (fun K hK => ?_)
                  refine goes_ Tryd.func27 (by kernel_rfl) rfl #[] (by rfl) rfl rfl (by (try simp only [List.map_toArray, List.map_cons, List.map_nil]); first | done | rfl | (simp only [List.length_drop, List.length_take]; rfl)) ?_
                  with_reducible refine (ambryref9_months.calls  MS _ A140.out).mono ?_
                  rintro e w148 ⟨v285, rfl, ho0, hb⟩
                  refine ⟨_, rfl, ?_⟩
                  have n0_ := Aside0.mk (Kd.R_lower ho0 (below_size (by repeat (first | (with_reducible first | exact HB.out | apply below_alloc | apply pw_below_drewN | apply below_drew1) | exact HB.out))))
                  have n1_ := Aside0.mk (below_step (by repeat (first | (with_reducible first | exact HB.out | apply below_alloc | apply pw_below_drewN | apply below_drew1) | exact HB.out)) hb)
                  clear HB
                  have HO286 := n0_
                  have HB := n1_
                  clear n0_ n1_
                  (try clear hb)
                  (try clear hb2)
                  (try clear hk)
                  (try clear hi)
                  (try clear ho0)
                  obtain ⟨Ao149, co149, eo149⟩ := Kd.R_slice HO286.out
                  (first | subst eo149 | (injection eo149 with f1_ f2_ f3_; have f4_ := f1_.symm; have f5_ := f3_.symm; clear f1_ f2_ f3_; subst f4_; subst f5_))
                  refine hK.out _ _ trivial (fun hHeld => ?_)
                  clear hK K
                  refine norm_ (a' := ?_) ?_ ?_
                  rotate_left
                  · show Act.put _ (some 225) _ = _
                    simp only [Act.put, List.setIfInBounds_toArray, List.set_cons_zero, List.set_cons_succ, i64_w, i32_w]
                    rfl
                  refine one_ (i := 5) (N := some 228) #[true, true, true, true, true, true, true, true, true, false, false, false, false, false] rfl rfl (one_of HT_.out (by kernel_rfl)) (by decide) (fun K hK => ?_)
                  refine goes_ Tryd.func30 (by kernel_rfl) rfl #[.slice Ao149 MS.length co149, .string (r.extract 3 6)] (by rfl) rfl rfl (by (try simp only [List.map_toArray, List.map_cons, List.map_nil]); first | done | (simp only [he]; rfl) | rfl | (simp only [List.length_drop, List.length_take]; rfl)) ?_
                  with_reducible refine (ambryref9_index.calls k _ _ MS (r.extract 3 6) JJ _ ?side1 ?side2 A143.out).mono ?_
                  (case side1 => repeat (first | exact (Kd.R_reads' HO286.out).2.2 | (with_reducible refine Kd.C_alloc ?_ _) | (with_reducible refine Kd.C_drewN ?_ _) | (with_reducible refine Kd.C_drew ?_)))
                  (case side2 => exact (Kd.R_reads' HO286.out).2.1)
                  rintro e w' ⟨rfl, ⟨nd, rfl⟩⟩
                  refine ⟨_, rfl, ?_⟩
                  refine hK.out _ _ trivial (fun hHeld => ?_)
                  clear hK K
                  refine norm_ (a' := ?_) ?_ ?_
                  rotate_left
                  · show Act.put _ (some 228) _ = _
                    simp only [Act.put, List.setIfInBounds_toArray, List.set_cons_zero, List.set_cons_succ, i64_w, i32_w]
                    rfl
                  refine one_ (i := 9) (N := some 232) #[true, true, true, true, true, true, true, true, true, true, false, false, false, false] rfl rfl (one_of HT_.out (by kernel_rfl)) (by decide) (fun K hK => ?_)
                  refine goes_ Tryd.func29 (by kernel_rfl) rfl #[.int .i64 (i : Int), .int .i64 (wrap64 (y + 2000)), .int .i64 JJ, .int .i64 d, .string (r.extract 10 18)] (by rfl) rfl rfl (by (try simp only [List.map_toArray, List.map_cons, List.map_nil]); first | done | (simp only [he]; rfl) | rfl | (simp only [List.length_drop, List.length_take]; rfl)) ?_
                  with_reducible refine (ambryref9_made.calls k (i : Int) (wrap64 (y + 2000)) JJ d (r.extract 10 18) r1 r2 _ A146.out).mono ?_
                  rintro e w150 ⟨rfl, hb⟩
                  refine ⟨_, rfl, ?_⟩
                  have n0_ := Aside0.mk (Kd.R_below (by (with_reducible repeat (first | apply Kd.R_alloc | apply Kd.R_drewN | apply Kd.R_drew)); exact HO286.out) hb)
                  have n1_ := Aside0.mk (below_step (by repeat (first | (with_reducible first | exact HB.out | apply below_alloc | apply pw_below_drewN | apply below_drew1) | exact HB.out)) hb)
                  clear HO286
                  clear HB
                  have HO286 := n0_
                  have HB := n1_
                  clear n0_ n1_
                  (try clear hb)
                  (try clear hb2)
                  (try clear hk)
                  (try clear hi)
                  refine hK.out _ _ trivial (fun hHeld => ?_)
                  clear hK K
                  refine norm_ (a' := ?_) ?_ ?_
                  rotate_left
                  · show Act.put _ (some 232) _ = _
                    simp only [Act.put, List.setIfInBounds_toArray, List.set_cons_zero, List.set_cons_succ, i64_w, i32_w]
                    rfl
                  refine pure_ (i := 10) (N := some 233) (v := ?_) (a' := ?_) #[true, true, true, true, true, true, true, true, true, true, true, false, false, false] rfl rfl (any_of HT_.out (by kernel_rfl)) (fun _ _ _ h => h) (Or.inl ⟨by rfl, ?_⟩) ?_ ?_
                  rotate_left
                  · intro w'
                    go_simp
                    with_reducible rfl
                  rotate_left
                  · simp only [Act.put, List.setIfInBounds_toArray, List.set_cons_zero, List.set_cons_succ, i64_w, i32_w]
                    rfl
                  refine pure_ (i := 11) (N := some 234) (v := ?_) (a' := ?_) #[true, true, true, true, true, true, true, true, true, true, true, true, false, false] rfl rfl (any_of HT_.out (by kernel_rfl)) (fun _ _ _ h => h) (Or.inl ⟨by rfl, ?_⟩) ?_ ?_
                  rotate_left
                  · intro w'
                    go_simp
                    with_reducible rfl
                  rotate_left
                  · simp only [Act.put, List.setIfInBounds_toArray, List.set_cons_zero, List.set_cons_succ, i64_w, i32_w]
                    rfl
                  refine pure_ (i := 12) (N := some 2) (v := ?_) (a' := ?_) #[true, true, true, true, true, true, true, true, true, true, true, true, true, false] rfl rfl (any_of HT_.out (by kernel_rfl)) (fun _ _ _ h => h) (Or.inl ⟨by rfl, ?_⟩) ?_ ?_
                  rotate_left
                  · intro w'
                    go_simp
                    with_reducible rfl
                  rotate_left
                  · simp only [Act.put, List.setIfInBounds_toArray, List.set_cons_zero, List.set_cons_succ, i64_w, i32_w]
                    rfl
                  refine pure_ (i := 13) (N := some 3) (v := ?_) (a' := ?_) #[true, true, true, true, true, true, true, true, true, true, true, true, true, true] rfl rfl (any_of HT_.out (by kernel_rfl)) (fun _ _ _ h => h) (Or.inl ⟨by rfl, ?_⟩) ?_ ?_
                  rotate_left
                  · intro w'
                    go_simp
                    with_reducible rfl
                  rotate_left
                  · simp only [Act.put, List.setIfInBounds_toArray, List.set_cons_zero, List.set_cons_succ, i64_w, i32_w]
                    rfl
                  refine done_ (done_of HT_.out (by kernel_rfl)) ?_
                  try go_wp2
                  go_ret2
                  exact ⟨by first | rfl | (simp [errW_none, errW_some] <;> rfl) | (simp only [he]; first | rfl | (simp [errW_none, errW_some] <;> rfl)) | (simp [*, errW_none, errW_some] <;> rfl), by repeat (first | (with_reducible first | exact HB.out | apply below_alloc | apply pw_below_drewN | apply below_drew1) | exact HB.out)⟩
              · as_aux_lemma =>
                have h := H.out
                rw [if_neg hp] at h
                obtain ⟨rfl, rfl⟩ := Prod.mk.inj (Option.some.inj h)
                clear H h
                have hn : p = false ∨ p = true ∧ q = false ∨ p = true ∧ q = true ∧ (bt r 2 == 45) = false ∨ p = true ∧ q = true ∧ (bt r 2 == 45) = true ∧ (bt r 6 == 45) = false ∨ p = true ∧ q = true ∧ (bt r 2 == 45) = true ∧ (bt r 6 == 45) = true ∧ (bt r 9 == 32) = false ∨
                    p = true ∧ q = true ∧ (bt r 2 == 45) = true ∧ (bt r 6 == 45) = true ∧ (bt r 9 == 32) = true ∧ ((r.extract 18 22).toList == [32, 71, 77, 84]) = false := by
                  rw [← beq_iff_eq (a := bt r 2), ← beq_iff_eq (a := bt r 6), ← beq_iff_eq (a := bt r 9), ← beq_iff_eq (a := (r.extract 18 22).toList)] at hp
                  revert hp
                  cases p <;> cases q <;> cases (bt r 2 == 45) <;> cases (bt r 6 == 45) <;> cases (bt r 9 == 32) <;> cases ((r.extract 18 22).toList == [32, 71, 77, 84]) <;> simp
                clear hp
                rcases hn with rfl | ⟨rfl, rfl⟩ | ⟨rfl, rfl, g1⟩ | ⟨rfl, rfl, g1, g2⟩ | ⟨rfl, rfl, g1, g2, g3⟩ | ⟨rfl, rfl, g1, g2, g3, g4⟩
                all_goals
                  have z1 : (bt r 2 != 45) = !(bt r 2 == 45) := rfl
                  have z2 : (bt r 6 != 45) = !(bt r 6 == 45) := rfl
                  have z3 : (bt r 9 != 32) = !(bt r 9 == 32) := rfl
                  have z4 : ((r.extract 18 22).toList != [32, 71, 77, 84]) = !((r.extract 18 22).toList == [32, 71, 77, 84]) := rfl
                  try rw [g1] at z1
                  try rw [g2] at z2
                  try rw [g3] at z3
                  try rw [g4] at z4
                  try simp only [Bool.not_true, Bool.not_false] at z1 z2 z3 z4
                  go_wp2_with fail
                  go_ret2
                  exact ⟨rfl, HB.out⟩
          · as_aux_lemma =>
            have h := HH.out
            rw [hc, if_neg (by decide)] at h
            clear HH LC hc
            rcases hff with hs | ⟨hs, f1⟩ | ⟨hs, f1, f2⟩
            · rcases hsz with hl | hl | hl | hl
              all_goals
                rw [hl] at hs
                simp only [Nat.reduceAdd] at hs
                have hi := beq_eq_false_iff_ne.mpr (show (a.size : Int) ≠ ((l.size : Int) + 24) by omega)
                rw [hl] at hi
                simp only [Int.cast_ofNat_Int, Int.reduceAdd] at hi
                have H' := Aside0.mk h
                clear h
                go_wp2_with fail
                go_roundg k1
                case measure => omega
                case rel => exact ⟨i + 1, rfl, ⟨HK1.out⟩, ⟨by rw [HD.out]; exact H'.out⟩, ⟨HB3.out⟩⟩
            all_goals
              rcases hsz with hl | hl | hl | hl
              all_goals
                rw [hl] at hs f1
                try rw [hl] at f2
                simp only [Nat.reduceAdd] at hs f1
                try simp only [Nat.reduceAdd] at f2
                have H' := Aside0.mk h
                clear h
                go_wp2_with fail
                go_roundg k1
                case measure => omega
                case rel => exact ⟨i + 1, rfl, ⟨HK1.out⟩, ⟨by rw [HD.out]; exact H'.out⟩, ⟨HB3.out⟩⟩

theorem ambryref9_Parse.calls (k : Nat) (a0 : ByteArray) (r1 : Int) (r2 : Int) (w : World) (h : ambryref9_Parse.f k a0 = some (r1, r2)) :
    Calls Tryd.prog 12 #[.string a0] w fun e w' => e = .returned (.tuple #[.int .i64 r1, .int .i64 r2]) ∧ Below w.heap.size w w' := by
  unfold ambryref9_Parse.f at h
  by_cases g1 : G1 a0 = true
  · rw [if_pos g1] at h
    exact ref_form1 k a0 r1 r2 w g1 h
  · rw [if_neg g1] at h
    by_cases g2 : G2 a0 = true
    · rw [if_pos g2] at h
      unfold rform2 at h
      by_cases h1 : bt (a0.extract 8 10) 0 = 32
      · rw [if_pos h1] at h
        exact ref_form2a k a0 r1 r2 w g2 h1 h
      · rw [if_neg h1] at h
        by_cases h2 : bt (a0.extract 8 10) 0 = 48
        · rw [if_pos h2] at h
          exact ref_form2b k a0 r1 r2 w g2 h1 h2 h
        · rw [if_neg h2] at h
          exact ref_form2c k a0 r1 r2 w g2 h1 h2 h
    · rw [if_neg g2] at h
      obtain ⟨ls, hls, h⟩ := Option.bind_eq_some_iff.mp h
      refine ref_rest k a0 r1 r2 ls w (Bool.eq_false_iff.mpr g1) (Bool.eq_false_iff.mpr g2) hls ?_ ?_ h
      · obtain rfl := Option.some.inj hls
        rfl
      · obtain rfl := Option.some.inj hls
        intro l hl
        simp only [List.mem_cons, List.not_mem_nil, or_false] at hl
        rcases hl with rfl | rfl | rfl | rfl | rfl | rfl | rfl <;> decide
end Go.Proofs.YtcejglmmjbmafaaDoor.X
/- Plain Lean: the document's reader of dates answers just as the three texts say. -/
namespace Go.Proofs.YtcejglmmjbmafaaDoor.Pure
open Go.RowKit Go.Proofs.YtcejglmmjbmafaaDoor.X Go.Proofs.YtcejglmmjbmafaaDoor.Cal Go.Proofs.YtcejglmmjbmafaaDoorW.PrintWords Go.Proofs.YtcejglmmjbmafaaDoorW.PrintLast Go.Proofs.YtcejglmmjbmafaaDoorW.PrintMore
set_option linter.unusedVariables false
set_option linter.unusedSimpArgs false

/-- An answer that fits a text. -/
def Ans (a : List UInt8) (r : Int × Int) : Prop :=
  (r = (0, 80) ∨ ∃ y mo d h mi s, Tm y mo d h mi s ∧ Says (X.bytes a) y mo d h mi s ∧ r = (sec y mo d h mi s, 0)) ∧
  (∀ y mo d h mi s, Tm y mo d h mi s → Says (X.bytes a) y mo d h mi s → r = (sec y mo d h mi s, 0))
theorem u8_of {b : UInt8} {n : Nat} (h : (b.toNat : Int) = n) (hn : n < 256) : b = UInt8.ofNat n := by
  have h : b.toNat = n := by omega
  subst h
  simp
theorem T1_len {y mo d h mi s : Int} (t : Tm y mo d h mi s) : (T1 y mo d h mi s (wk y mo d)).length = 29 := by
  obtain ⟨a', b', c', es, _⟩ := sd_three _ (wk0 y mo d)
  obtain ⟨p, q, r, em, _⟩ := m3_three mo t.ok.m0 t.ok.m1
  simp [T1, es, em, tw, ck]
theorem T3_len {y mo d h mi s : Int} (t : Tm y mo d h mi s) : (T3 y mo d h mi s (wk y mo d)).length = 24 := by
  obtain ⟨a', b', c', es, _⟩ := sd_three _ (wk0 y mo d)
  obtain ⟨p, q, r, em, _⟩ := m3_three mo t.ok.m0 t.ok.m1
  obtain ⟨u, v, ed, _⟩ := dl_two d (Int.le_trans (by decide) t.d.1)
  simp [T3, es, em, ed, tw, ck]
/-- The late form behind the day's name. -/
def U2 (y mo d h mi s : Int) : List UInt8 := tw d ++ [45] ++ m3 mo ++ [45] ++ tw y ++ [32] ++ ck h mi s ++ [32, 71, 77, 84]
theorem T2_U2 (y mo d h mi s w : Int) : T2 y mo d h mi s w = ld w ++ ([44, 32] ++ U2 y mo d h mi s) := by simp [T2, U2]
theorem U2_len {y mo d h mi s : Int} (t : Tm y mo d h mi s) : (U2 y mo d h mi s).length = 22 := by
  obtain ⟨p, q, r, em, _⟩ := m3_three mo t.ok.m0 t.ok.m1
  simp [U2, em, tw, ck]
theorem T2_len {y mo d h mi s : Int} (t : Tm y mo d h mi s) : (T2 y mo d h mi s (wk y mo d)).length = (ld (wk y mo d)).length + 24 := by
  rw [T2_U2, List.length_append, List.length_append, U2_len t]
  rfl
theorem says_29 {a : List UInt8} {y mo d h mi s : Int} (hl : a.length = 29) (t : Tm y mo d h mi s) (hs : Says (X.bytes a) y mo d h mi s) : a = T1 y mo d h mi s (wk y mo d) := by
  rcases hs with e | ⟨e, _⟩ | e
  · exact bytes_inj e
  · have := congrArg List.length (bytes_inj e)
    rw [T2_len t] at this
    have := (ld_ok _ (wk0 y mo d)).1
    omega
  · have := congrArg List.length (bytes_inj e)
    rw [T3_len t] at this
    omega
theorem says_24 {a : List UInt8} {y mo d h mi s : Int} (hl : a.length = 24) (t : Tm y mo d h mi s) (hs : Says (X.bytes a) y mo d h mi s) : a = T3 y mo d h mi s (wk y mo d) := by
  rcases hs with e | ⟨e, _⟩ | e
  · have := congrArg List.length (bytes_inj e)
    rw [T1_len t] at this
    omega
  · have := congrArg List.length (bytes_inj e)
    rw [T2_len t] at this
    have := (ld_ok _ (wk0 y mo d)).1
    omega
  · exact bytes_inj e
theorem says_30 {a : List UInt8} {y mo d h mi s : Int} (h1 : a.length ≠ 29) (h3 : a.length ≠ 24) (t : Tm y mo d h mi s) (hs : Says (X.bytes a) y mo d h mi s) : a = T2 y mo d h mi s (wk y mo d) ∧ y < 2070 := by
  rcases hs with e | ⟨e, hy⟩ | e
  · exact absurd ((congrArg List.length (bytes_inj e)).trans (T1_len t)) h1
  · exact ⟨bytes_inj e, hy⟩
  · exact absurd ((congrArg List.length (bytes_inj e)).trans (T3_len t)) h3
theorem D_eta {l : List UInt8} (h : (D l).2 = true) : D l = ((D l).1, true) := by rw [← h]
theorem sd_of {l : List UInt8} {y mo d : Int} (h : dIdx l = wk y mo d) : l = sd (wk y mo d) := by
  rcases dIdx_cases l with e | ⟨_, _, e⟩
  · have := wk0 y mo d
    omega
  · rw [h] at e
    exact e
theorem m3_of {l : List UInt8} (h : 0 ≤ mIdx l) : l = m3 (mIdx l) := by
  rcases mIdx_cases l with e | ⟨_, _, e⟩
  · omega
  · exact e
theorem four_of {a b c d : UInt8} {y : Int} (h : [a, b, c, d] = tw (y / 100) ++ tw y) : tw (y / 100) = [a, b] ∧ tw y = [c, d] := by
  simp only [tw, List.cons_append, List.nil_append, List.cons.injEq, and_true] at h
  obtain ⟨rfl, rfl, rfl, rfl⟩ := h
  exact ⟨rfl, rfl⟩

theorem form1_tot (a : List UInt8) (hl : a.length = 29) (hg : G1 (X.bytes a) = true) : ∃ r, Ev (fun k => rform1 k (X.bytes a)) r ∧ Ans a r := by
  have hl' := hl
  obtain ⟨x0, a0, e0⟩ := List.exists_cons_of_ne_nil (show a ≠ [] by intro z; rw [z] at hl; cases hl)
  subst e0
  have h0 : a0.length = 28 := by simpa using hl
  obtain ⟨x1, a1, e1⟩ := List.exists_cons_of_ne_nil (show a0 ≠ [] by intro z; rw [z] at h0; cases h0)
  subst e1
  have h1 : a1.length = 27 := by simpa using h0
  obtain ⟨x2, a2, e2⟩ := List.exists_cons_of_ne_nil (show a1 ≠ [] by intro z; rw [z] at h1; cases h1)
  subst e2
  have h2 : a2.length = 26 := by simpa using h1
  obtain ⟨x3, a3, e3⟩ := List.exists_cons_of_ne_nil (show a2 ≠ [] by intro z; rw [z] at h2; cases h2)
  subst e3
  have h3 : a3.length = 25 := by simpa using h2
  obtain ⟨x4, a4, e4⟩ := List.exists_cons_of_ne_nil (show a3 ≠ [] by intro z; rw [z] at h3; cases h3)
  subst e4
  have h4 : a4.length = 24 := by simpa using h3
  obtain ⟨x5, a5, e5⟩ := List.exists_cons_of_ne_nil (show a4 ≠ [] by intro z; rw [z] at h4; cases h4)
  subst e5
  have h5 : a5.length = 23 := by simpa using h4
  obtain ⟨x6, a6, e6⟩ := List.exists_cons_of_ne_nil (show a5 ≠ [] by intro z; rw [z] at h5; cases h5)
  subst e6
  have h6 : a6.length = 22 := by simpa using h5
  obtain ⟨x7, a7, e7⟩ := List.exists_cons_of_ne_nil (show a6 ≠ [] by intro z; rw [z] at h6; cases h6)
  subst e7
  have h7 : a7.length = 21 := by simpa using h6
  obtain ⟨x8, a8, e8⟩ := List.exists_cons_of_ne_nil (show a7 ≠ [] by intro z; rw [z] at h7; cases h7)
  subst e8
  have h8 : a8.length = 20 := by simpa using h7
  obtain ⟨x9, a9, e9⟩ := List.exists_cons_of_ne_nil (show a8 ≠ [] by intro z; rw [z] at h8; cases h8)
  subst e9
  have h9 : a9.length = 19 := by simpa using h8
  obtain ⟨x10, a10, e10⟩ := List.exists_cons_of_ne_nil (show a9 ≠ [] by intro z; rw [z] at h9; cases h9)
  subst e10
  have h10 : a10.length = 18 := by simpa using h9
  obtain ⟨x11, a11, e11⟩ := List.exists_cons_of_ne_nil (show a10 ≠ [] by intro z; rw [z] at h10; cases h10)
  subst e11
  have h11 : a11.length = 17 := by simpa using h10
  obtain ⟨x12, a12, e12⟩ := List.exists_cons_of_ne_nil (show a11 ≠ [] by intro z; rw [z] at h11; cases h11)
  subst e12
  have h12 : a12.length = 16 := by simpa using h11
  obtain ⟨x13, a13, e13⟩ := List.exists_cons_of_ne_nil (show a12 ≠ [] by intro z; rw [z] at h12; cases h12)
  subst e13
  have h13 : a13.length = 15 := by simpa using h12
  obtain ⟨x14, a14, e14⟩ := List.exists_cons_of_ne_nil (show a13 ≠ [] by intro z; rw [z] at h13; cases h13)
  subst e14
  have h14 : a14.length = 14 := by simpa using h13
  obtain ⟨x15, a15, e15⟩ := List.exists_cons_of_ne_nil (show a14 ≠ [] by intro z; rw [z] at h14; cases h14)
  subst e15
  have h15 : a15.length = 13 := by simpa using h14
  obtain ⟨x16, a16, e16⟩ := List.exists_cons_of_ne_nil (show a15 ≠ [] by intro z; rw [z] at h15; cases h15)
  subst e16
  have h16 : a16.length = 12 := by simpa using h15
  obtain ⟨x17, a17, e17⟩ := List.exists_cons_of_ne_nil (show a16 ≠ [] by intro z; rw [z] at h16; cases h16)
  subst e17
  have h17 : a17.length = 11 := by simpa using h16
  obtain ⟨x18, a18, e18⟩ := List.exists_cons_of_ne_nil (show a17 ≠ [] by intro z; rw [z] at h17; cases h17)
  subst e18
  have h18 : a18.length = 10 := by simpa using h17
  obtain ⟨x19, a19, e19⟩ := List.exists_cons_of_ne_nil (show a18 ≠ [] by intro z; rw [z] at h18; cases h18)
  subst e19
  have h19 : a19.length = 9 := by simpa using h18
  obtain ⟨x20, a20, e20⟩ := List.exists_cons_of_ne_nil (show a19 ≠ [] by intro z; rw [z] at h19; cases h19)
  subst e20
  have h20 : a20.length = 8 := by simpa using h19
  obtain ⟨x21, a21, e21⟩ := List.exists_cons_of_ne_nil (show a20 ≠ [] by intro z; rw [z] at h20; cases h20)
  subst e21
  have h21 : a21.length = 7 := by simpa using h20
  obtain ⟨x22, a22, e22⟩ := List.exists_cons_of_ne_nil (show a21 ≠ [] by intro z; rw [z] at h21; cases h21)
  subst e22
  have h22 : a22.length = 6 := by simpa using h21
  obtain ⟨x23, a23, e23⟩ := List.exists_cons_of_ne_nil (show a22 ≠ [] by intro z; rw [z] at h22; cases h22)
  subst e23
  have h23 : a23.length = 5 := by simpa using h22
  obtain ⟨x24, a24, e24⟩ := List.exists_cons_of_ne_nil (show a23 ≠ [] by intro z; rw [z] at h23; cases h23)
  subst e24
  have h24 : a24.length = 4 := by simpa using h23
  obtain ⟨x25, a25, e25⟩ := List.exists_cons_of_ne_nil (show a24 ≠ [] by intro z; rw [z] at h24; cases h24)
  subst e25
  have h25 : a25.length = 3 := by simpa using h24
  obtain ⟨x26, a26, e26⟩ := List.exists_cons_of_ne_nil (show a25 ≠ [] by intro z; rw [z] at h25; cases h25)
  subst e26
  have h26 : a26.length = 2 := by simpa using h25
  obtain ⟨x27, a27, e27⟩ := List.exists_cons_of_ne_nil (show a26 ≠ [] by intro z; rw [z] at h26; cases h26)
  subst e27
  have h27 : a27.length = 1 := by simpa using h26
  obtain ⟨x28, a28, e28⟩ := List.exists_cons_of_ne_nil (show a27 ≠ [] by intro z; rw [z] at h27; cases h27)
  subst e28
  have h28 : a28.length = 0 := by simpa using h27
  obtain rfl := List.eq_nil_of_length_eq_zero h28
  clear hl h0 h1 h2 h3 h4 h5 h6 h7 h8 h9 h10 h11 h12 h13 h14 h15 h16 h17 h18 h19 h20 h21 h22 h23 h24 h25 h26 h27 h28
  simp only [G1, Bool.and_eq_true, decide_eq_true_eq, beq_iff_eq] at hg
  obtain ⟨-, f3, b7, b11, b16, f25⟩ := hg
  have c7 : x7 = 32 := u8_of (n := 32) ((bt_bytes [x0, x1, x2, x3, x4, x5, x6, x7, x8, x9, x10, x11, x12, x13, x14, x15, x16, x17, x18, x19, x20, x21, x22, x23, x24, x25, x26, x27, x28] 7 (by simp)).symm.trans b7) (by decide)
  have c11 : x11 = 32 := u8_of (n := 32) ((bt_bytes [x0, x1, x2, x3, x4, x5, x6, x7, x8, x9, x10, x11, x12, x13, x14, x15, x16, x17, x18, x19, x20, x21, x22, x23, x24, x25, x26, x27, x28] 11 (by simp)).symm.trans b11) (by decide)
  have c16 : x16 = 32 := u8_of (n := 32) ((bt_bytes [x0, x1, x2, x3, x4, x5, x6, x7, x8, x9, x10, x11, x12, x13, x14, x15, x16, x17, x18, x19, x20, x21, x22, x23, x24, x25, x26, x27, x28] 16 (by simp)).symm.trans b16) (by decide)
  rw [extract_bytes, bytes_toList] at f3
  have f3 : [x3, x4] = [44, 32] := f3
  rw [extract_bytes, bytes_toList] at f25
  have f25 : [x25, x26, x27, x28] = [32, 71, 77, 84] := f25
  simp only [List.cons.injEq, and_true] at f3 f25
  obtain ⟨rfl, rfl⟩ := f3
  obtain ⟨rfl, rfl, rfl, rfl⟩ := f25
  clear b7 b11 b16
  subst c7 c11 c16
  obtain ⟨r, ev, h1, h2⟩ := rparts_tot [x5, x6] [x12, x13, x14, x15] [x0, x1, x2] [x8, x9, x10] [x17, x18, x19, x20, x21, x22, x23, x24] (by simp) (by simp) rfl
  refine ⟨r, Ev.congr (fun k => ?_) ev, ?_, ?_⟩
  · simp only [rform1]
    rw [extract_bytes, extract_bytes, extract_bytes, extract_bytes, extract_bytes]
    rfl
  · rcases h1 with h1 | ⟨h, mi, s, hd, hy, t, hc, hw, hr⟩
    · exact .inl h1
    · refine .inr ⟨_, _, _, h, mi, s, t, .inl (congrArg X.bytes ?_), hr⟩
      obtain ⟨_, _, ed⟩ := D_two (D_eta hd)
      obtain ⟨_, _, ey⟩ := D_four (D_eta hy)
      obtain ⟨ey1, ey2⟩ := four_of ey
      have em := m3_of (l := [x8, x9, x10]) t.ok.m0
      have ew := sd_of hw
      unfold T1
      rw [← ew, ← ed, ← em, ey1, ey2, ← hc]
      rfl
  · intro y mo d h mi s t hs
    have e := says_29 hl' t hs
    clear hs h1
    obtain ⟨p1, p2, p3, es, _⟩ := sd_three _ (wk0 y mo d)
    obtain ⟨m1, m2, m3', em, _⟩ := m3_three mo t.ok.m0 t.ok.m1
    unfold T1 at e
    rw [es, em] at e
    have q1 : [x0, x1, x2] = sd (wk y mo d) := es ▸ congrArg (fun l => l.take 3) e
    have q2 : [x5, x6] = tw d := congrArg (fun l => (l.drop 5).take 2) e
    have q3 : [x8, x9, x10] = m3 mo := em ▸ congrArg (fun l => (l.drop 8).take 3) e
    have q4 : [x12, x13, x14, x15] = tw (y / 100) ++ tw y := congrArg (fun l => (l.drop 12).take 4) e
    have q5 : [x17, x18, x19, x20, x21, x22, x23, x24] = ck h mi s := congrArg (fun l => (l.drop 17).take 8) e
    rw [q1, q2, q3, q4, q5, D_tw d (by have := t.d; omega) (by have := t.d; omega), D_tw4 y (by have := t.ok.y0; omega) t.ok.y1, mIdx_m3 mo t.ok.m0 t.ok.m1, dIdx_sd _ (wk0 y mo d).1 (wk0 y mo d).2] at h2
    exact h2 h mi s rfl rfl t rfl rfl

theorem T3_parts {a : List UInt8} {y mo d h mi s : Int} (t : Tm y mo d h mi s) (e : a = T3 y mo d h mi s (wk y mo d)) :
    a.take 3 = sd (wk y mo d) ∧ (a.drop 4).take 3 = m3 mo ∧ (a.drop 8).take 2 = dl d ∧ (a.drop 11).take 8 = ck h mi s ∧ (a.drop 20).take 4 = tw (y / 100) ++ tw y := by
  obtain ⟨p1, p2, p3, es, _⟩ := sd_three _ (wk0 y mo d)
  obtain ⟨m1, m2, m3', em, _⟩ := m3_three mo t.ok.m0 t.ok.m1
  obtain ⟨u, v, ed, _⟩ := dl_two d (Int.le_trans (by decide) t.d.1)
  subst e
  unfold T3
  rw [es, em, ed]
  exact ⟨rfl, rfl, rfl, rfl, rfl⟩
theorem dg_ne' {n : Int} (h0 : 0 ≤ n) (h9 : n ≤ 9) : dg n ≠ 32 := by
  intro e
  have := dg_nat h0 h9
  rw [e] at this
  have z : ((32 : UInt8).toNat : Int) = 32 := by decide
  omega
theorem dg_0 {n : Int} (h0 : 1 ≤ n) (h9 : n ≤ 9) : dg n ≠ 48 := by
  intro e
  have := dg_nat (show 0 ≤ n by omega) h9
  rw [e] at this
  have z : ((48 : UInt8).toNat : Int) = 48 := by decide
  omega
theorem form2_tot (a : List UInt8) (hl : a.length = 24) (hg : G2 (X.bytes a) = true) : ∃ r, Ev (fun k => rform2 k (X.bytes a)) r ∧ Ans a r := by
  have hl' := hl
  obtain ⟨x0, a0, e0⟩ := List.exists_cons_of_ne_nil (show a ≠ [] by intro z; rw [z] at hl; cases hl)
  subst e0
  have h0 : a0.length = 23 := by simpa using hl
  obtain ⟨x1, a1, e1⟩ := List.exists_cons_of_ne_nil (show a0 ≠ [] by intro z; rw [z] at h0; cases h0)
  subst e1
  have h1 : a1.length = 22 := by simpa using h0
  obtain ⟨x2, a2, e2⟩ := List.exists_cons_of_ne_nil (show a1 ≠ [] by intro z; rw [z] at h1; cases h1)
  subst e2
  have h2 : a2.length = 21 := by simpa using h1
  obtain ⟨x3, a3, e3⟩ := List.exists_cons_of_ne_nil (show a2 ≠ [] by intro z; rw [z] at h2; cases h2)
  subst e3
  have h3 : a3.length = 20 := by simpa using h2
  obtain ⟨x4, a4, e4⟩ := List.exists_cons_of_ne_nil (show a3 ≠ [] by intro z; rw [z] at h3; cases h3)
  subst e4
  have h4 : a4.length = 19 := by simpa using h3
  obtain ⟨x5, a5, e5⟩ := List.exists_cons_of_ne_nil (show a4 ≠ [] by intro z; rw [z] at h4; cases h4)
  subst e5
  have h5 : a5.length = 18 := by simpa using h4
  obtain ⟨x6, a6, e6⟩ := List.exists_cons_of_ne_nil (show a5 ≠ [] by intro z; rw [z] at h5; cases h5)
  subst e6
  have h6 : a6.length = 17 := by simpa using h5
  obtain ⟨x7, a7, e7⟩ := List.exists_cons_of_ne_nil (show a6 ≠ [] by intro z; rw [z] at h6; cases h6)
  subst e7
  have h7 : a7.length = 16 := by simpa using h6
  obtain ⟨x8, a8, e8⟩ := List.exists_cons_of_ne_nil (show a7 ≠ [] by intro z; rw [z] at h7; cases h7)
  subst e8
  have h8 : a8.length = 15 := by simpa using h7
  obtain ⟨x9, a9, e9⟩ := List.exists_cons_of_ne_nil (show a8 ≠ [] by intro z; rw [z] at h8; cases h8)
  subst e9
  have h9 : a9.length = 14 := by simpa using h8
  obtain ⟨x10, a10, e10⟩ := List.exists_cons_of_ne_nil (show a9 ≠ [] by intro z; rw [z] at h9; cases h9)
  subst e10
  have h10 : a10.length = 13 := by simpa using h9
  obtain ⟨x11, a11, e11⟩ := List.exists_cons_of_ne_nil (show a10 ≠ [] by intro z; rw [z] at h10; cases h10)
  subst e11
  have h11 : a11.length = 12 := by simpa using h10
  obtain ⟨x12, a12, e12⟩ := List.exists_cons_of_ne_nil (show a11 ≠ [] by intro z; rw [z] at h11; cases h11)
  subst e12
  have h12 : a12.length = 11 := by simpa using h11
  obtain ⟨x13, a13, e13⟩ := List.exists_cons_of_ne_nil (show a12 ≠ [] by intro z; rw [z] at h12; cases h12)
  subst e13
  have h13 : a13.length = 10 := by simpa using h12
  obtain ⟨x14, a14, e14⟩ := List.exists_cons_of_ne_nil (show a13 ≠ [] by intro z; rw [z] at h13; cases h13)
  subst e14
  have h14 : a14.length = 9 := by simpa using h13
  obtain ⟨x15, a15, e15⟩ := List.exists_cons_of_ne_nil (show a14 ≠ [] by intro z; rw [z] at h14; cases h14)
  subst e15
  have h15 : a15.length = 8 := by simpa using h14
  obtain ⟨x16, a16, e16⟩ := List.exists_cons_of_ne_nil (show a15 ≠ [] by intro z; rw [z] at h15; cases h15)
  subst e16
  have h16 : a16.length = 7 := by simpa using h15
  obtain ⟨x17, a17, e17⟩ := List.exists_cons_of_ne_nil (show a16 ≠ [] by intro z; rw [z] at h16; cases h16)
  subst e17
  have h17 : a17.length = 6 := by simpa using h16
  obtain ⟨x18, a18, e18⟩ := List.exists_cons_of_ne_nil (show a17 ≠ [] by intro z; rw [z] at h17; cases h17)
  subst e18
  have h18 : a18.length = 5 := by simpa using h17
  obtain ⟨x19, a19, e19⟩ := List.exists_cons_of_ne_nil (show a18 ≠ [] by intro z; rw [z] at h18; cases h18)
  subst e19
  have h19 : a19.length = 4 := by simpa using h18
  obtain ⟨x20, a20, e20⟩ := List.exists_cons_of_ne_nil (show a19 ≠ [] by intro z; rw [z] at h19; cases h19)
  subst e20
  have h20 : a20.length = 3 := by simpa using h19
  obtain ⟨x21, a21, e21⟩ := List.exists_cons_of_ne_nil (show a20 ≠ [] by intro z; rw [z] at h20; cases h20)
  subst e21
  have h21 : a21.length = 2 := by simpa using h20
  obtain ⟨x22, a22, e22⟩ := List.exists_cons_of_ne_nil (show a21 ≠ [] by intro z; rw [z] at h21; cases h21)
  subst e22
  have h22 : a22.length = 1 := by simpa using h21
  obtain ⟨x23, a23, e23⟩ := List.exists_cons_of_ne_nil (show a22 ≠ [] by intro z; rw [z] at h22; cases h22)
  subst e23
  have h23 : a23.length = 0 := by simpa using h22
  obtain rfl := List.eq_nil_of_length_eq_zero h23
  clear hl h0 h1 h2 h3 h4 h5 h6 h7 h8 h9 h10 h11 h12 h13 h14 h15 h16 h17 h18 h19 h20 h21 h22 h23
  simp only [G2, Bool.and_eq_true, decide_eq_true_eq, beq_iff_eq] at hg
  obtain ⟨-, b3, b7, b10, b19⟩ := hg
  have c3 : x3 = 32 := u8_of (n := 32) ((bt_bytes [x0, x1, x2, x3, x4, x5, x6, x7, x8, x9, x10, x11, x12, x13, x14, x15, x16, x17, x18, x19, x20, x21, x22, x23] 3 (by simp)).symm.trans b3) (by decide)
  have c7 : x7 = 32 := u8_of (n := 32) ((bt_bytes [x0, x1, x2, x3, x4, x5, x6, x7, x8, x9, x10, x11, x12, x13, x14, x15, x16, x17, x18, x19, x20, x21, x22, x23] 7 (by simp)).symm.trans b7) (by decide)
  have c10 : x10 = 32 := u8_of (n := 32) ((bt_bytes [x0, x1, x2, x3, x4, x5, x6, x7, x8, x9, x10, x11, x12, x13, x14, x15, x16, x17, x18, x19, x20, x21, x22, x23] 10 (by simp)).symm.trans b10) (by decide)
  have c19 : x19 = 32 := u8_of (n := 32) ((bt_bytes [x0, x1, x2, x3, x4, x5, x6, x7, x8, x9, x10, x11, x12, x13, x14, x15, x16, x17, x18, x19, x20, x21, x22, x23] 19 (by simp)).symm.trans b19) (by decide)
  clear b3 b7 b10 b19
  subst c3 c7 c10 c19
  have e8 : (X.bytes [x0, x1, x2, 32, x4, x5, x6, 32, x8, x9, 32, x11, x12, x13, x14, x15, x16, x17, x18, 32, x20, x21, x22, x23]).extract 8 10 = X.bytes [x8, x9] := by rw [extract_bytes]; rfl
  have e20 : (X.bytes [x0, x1, x2, 32, x4, x5, x6, 32, x8, x9, 32, x11, x12, x13, x14, x15, x16, x17, x18, 32, x20, x21, x22, x23]).extract 20 (X.bytes [x0, x1, x2, 32, x4, x5, x6, 32, x8, x9, 32, x11, x12, x13, x14, x15, x16, x17, x18, 32, x20, x21, x22, x23]).size = X.bytes [x20, x21, x22, x23] := by rw [extract_bytes]; rfl
  have e0 : (X.bytes [x0, x1, x2, 32, x4, x5, x6, 32, x8, x9, 32, x11, x12, x13, x14, x15, x16, x17, x18, 32, x20, x21, x22, x23]).extract 0 3 = X.bytes [x0, x1, x2] := by rw [extract_bytes]; rfl
  have e4 : (X.bytes [x0, x1, x2, 32, x4, x5, x6, 32, x8, x9, 32, x11, x12, x13, x14, x15, x16, x17, x18, 32, x20, x21, x22, x23]).extract 4 7 = X.bytes [x4, x5, x6] := by rw [extract_bytes]; rfl
  have e11 : (X.bytes [x0, x1, x2, 32, x4, x5, x6, 32, x8, x9, 32, x11, x12, x13, x14, x15, x16, x17, x18, 32, x20, x21, x22, x23]).extract 11 19 = X.bytes [x11, x12, x13, x14, x15, x16, x17, x18] := by rw [extract_bytes]; rfl
  have e1 : (X.bytes [x8, x9]).extract 1 2 = X.bytes [x9] := by rw [extract_bytes]; rfl
  have eb : bt (X.bytes [x8, x9]) 0 = (x8.toNat : Int) := bt_bytes [x8, x9] 0 (by simp)
  simp only [rform2, e8, e20, e0, e4, e11, e1, eb]
  clear e8 e20 e0 e4 e11 e1 eb
  by_cases c1 : (x8.toNat : Int) = 32
  · have c : x8 = 32 := u8_of (n := 32) c1 (by decide)
    subst c
    simp only [c1, if_true]
    obtain ⟨r, ev, h1, h2⟩ := rparts_tot [x9] [x20, x21, x22, x23] [x0, x1, x2] [x4, x5, x6] [x11, x12, x13, x14, x15, x16, x17, x18] (by simp) (by simp) rfl
    refine ⟨r, ev, ?_, ?_⟩
    · rcases h1 with h1 | ⟨h, mi, s, hd, hy, t, hc, hw, hr⟩
      · exact .inl h1
      · refine .inr ⟨_, _, _, h, mi, s, t, .inr (.inr (congrArg X.bytes ?_)), hr⟩
        obtain ⟨_, d9, ed⟩ := D_one (D_eta hd)
        obtain ⟨_, _, ey⟩ := D_four (D_eta hy)
        obtain ⟨ey1, ey2⟩ := four_of ey
        have em := m3_of (l := [x4, x5, x6]) t.ok.m0
        have ew := sd_of hw
        have edl : dl (D [x9]).1 = [32, x9] := by rw [dl, if_pos (by omega), ← ed]
        unfold T3
        rw [← ew, ← em, edl, ← hc, ey1, ey2]
        rfl
    · intro y mo d h mi s t hs
      obtain ⟨q1, q3, q2, q5, q4⟩ := T3_parts t (says_24 hl' t hs)
      clear hs h1
      change [x0, x1, x2] = _ at q1
      change [x4, x5, x6] = _ at q3
      change [32, x9] = _ at q2
      change [x11, x12, x13, x14, x15, x16, x17, x18] = _ at q5
      change [x20, x21, x22, x23] = _ at q4
      have hd := t.d
      have q2' : [x9] = [dg d] ∧ d ≤ 9 := by
        by_cases z : d < 10
        · rw [dl, if_pos z] at q2
          exact ⟨(List.cons.inj q2).2, by omega⟩
        · rw [dl, if_neg z] at q2
          exact absurd (List.cons.inj q2).1.symm (dg_ne' (by omega) (by omega))
      rw [q1, q2'.1, q3, q4, q5, D_dg d (by omega) q2'.2, D_tw4 y (by have := t.ok.y0; omega) t.ok.y1, mIdx_m3 mo t.ok.m0 t.ok.m1, dIdx_sd _ (wk0 y mo d).1 (wk0 y mo d).2] at h2
      exact h2 h mi s rfl rfl t rfl rfl
  · simp only [c1, if_false]
    have c1' : x8 ≠ 32 := fun z => c1 (by rw [z]; decide)
    by_cases c2 : (x8.toNat : Int) = 48
    · have c : x8 = 48 := u8_of (n := 48) c2 (by decide)
      simp only [c2, if_true]
      refine ⟨(0, 80), ⟨0, fun k _ => rfl⟩, .inl rfl, fun y mo d h mi s t hs => ?_⟩
      obtain ⟨q1, q3, q2, q5, q4⟩ := T3_parts t (says_24 hl' t hs)
      change [x8, x9] = _ at q2
      have hd := t.d
      by_cases z : d < 10
      · rw [dl, if_pos z] at q2
        exact absurd (List.cons.inj q2).1 c1'
      · rw [dl, if_neg z] at q2
        have := (List.cons.inj q2).1
        rw [c] at this
        exact absurd this.symm (dg_0 (by omega) (by omega))
    · simp only [c2, if_false]
      have c2' : x8 ≠ 48 := fun z => c2 (by rw [z]; decide)
      obtain ⟨r, ev, h1, h2⟩ := rparts_tot [x8, x9] [x20, x21, x22, x23] [x0, x1, x2] [x4, x5, x6] [x11, x12, x13, x14, x15, x16, x17, x18] (by simp) (by simp) rfl
      refine ⟨r, ev, ?_, ?_⟩
      · rcases h1 with h1 | ⟨h, mi, s, hd, hy, t, hc, hw, hr⟩
        · exact .inl h1
        · refine .inr ⟨_, _, _, h, mi, s, t, .inr (.inr (congrArg X.bytes ?_)), hr⟩
          obtain ⟨d0, d9, ed⟩ := D_two (D_eta hd)
          obtain ⟨_, _, ey⟩ := D_four (D_eta hy)
          obtain ⟨ey1, ey2⟩ := four_of ey
          have em := m3_of (l := [x4, x5, x6]) t.ok.m0
          have ew := sd_of hw
          have edl : dl (D [x8, x9]).1 = [x8, x9] := by
            rw [dl, if_neg, ← ed]
            intro z
            have z1 := (List.cons.inj ed).1
            rw [show (D [x8, x9]).1 / 10 % 10 = 0 by omega] at z1
            exact c2' (z1.trans (by decide))
          unfold T3
          rw [← ew, ← em, edl, ← hc, ey1, ey2]
          rfl
      · intro y mo d h mi s t hs
        obtain ⟨q1, q3, q2, q5, q4⟩ := T3_parts t (says_24 hl' t hs)
        clear hs h1
        change [x0, x1, x2] = _ at q1
        change [x4, x5, x6] = _ at q3
        change [x8, x9] = _ at q2
        change [x11, x12, x13, x14, x15, x16, x17, x18] = _ at q5
        change [x20, x21, x22, x23] = _ at q4
        have hd := t.d
        have q2' : [x8, x9] = tw d := by
          by_cases z : d < 10
          · rw [dl, if_pos z] at q2
            exact absurd (List.cons.inj q2).1 c1'
          · rw [dl, if_neg z] at q2
            exact q2
        rw [q1, q2', q3, q4, q5, D_tw d (by omega) (by omega), D_tw4 y (by have := t.ok.y0; omega) t.ok.y1, mIdx_m3 mo t.ok.m0 t.ok.m1, dIdx_sd _ (wk0 y mo d).1 (wk0 y mo d).2] at h2
        exact h2 h mi s rfl rfl t rfl rfl

def YR (n : Int) : Int := if n ≥ 70 then wrap64 (n + 1900) else wrap64 (n + 2000)
theorem YR_eq {n : Int} (h0 : 0 ≤ n) (h9 : n ≤ 99) : 1970 ≤ YR n ∧ YR n < 2070 ∧ YR n % 100 = n := by
  unfold YR
  split
  · rw [w64 (x := n + 1900) (by omega) (by omega)]; omega
  · rw [w64 (x := n + 2000) (by omega) (by omega)]; omega
theorem YR_mod {y : Int} (h0 : 1970 ≤ y) (h1 : y < 2070) : YR (y % 100) = y := by
  unfold YR
  split
  · rw [w64 (x := y % 100 + 1900) (by omega) (by omega)]; omega
  · rw [w64 (x := y % 100 + 2000) (by omega) (by omega)]; omega
theorem form3_tot (i : Int) (a : List UInt8) (hl : a.length = 22) : ∃ r, Ev (fun k => rform3 k i (X.bytes a)) r ∧
    (r = (0, 80) ∨ ∃ y mo d h mi s, Tm y mo d h mi s ∧ a = U2 y mo d h mi s ∧ y < 2070 ∧ i = wk y mo d ∧ r = (sec y mo d h mi s, 0)) ∧
    (∀ y mo d h mi s, Tm y mo d h mi s → a = U2 y mo d h mi s → y < 2070 → i = wk y mo d → r = (sec y mo d h mi s, 0)) := by
  have hl' := hl
  obtain ⟨x0, a0, e0⟩ := List.exists_cons_of_ne_nil (show a ≠ [] by intro z; rw [z] at hl; cases hl)
  subst e0
  have h0 : a0.length = 21 := by simpa using hl
  obtain ⟨x1, a1, e1⟩ := List.exists_cons_of_ne_nil (show a0 ≠ [] by intro z; rw [z] at h0; cases h0)
  subst e1
  have h1 : a1.length = 20 := by simpa using h0
  obtain ⟨x2, a2, e2⟩ := List.exists_cons_of_ne_nil (show a1 ≠ [] by intro z; rw [z] at h1; cases h1)
  subst e2
  have h2 : a2.length = 19 := by simpa using h1
  obtain ⟨x3, a3, e3⟩ := List.exists_cons_of_ne_nil (show a2 ≠ [] by intro z; rw [z] at h2; cases h2)
  subst e3
  have h3 : a3.length = 18 := by simpa using h2
  obtain ⟨x4, a4, e4⟩ := List.exists_cons_of_ne_nil (show a3 ≠ [] by intro z; rw [z] at h3; cases h3)
  subst e4
  have h4 : a4.length = 17 := by simpa using h3
  obtain ⟨x5, a5, e5⟩ := List.exists_cons_of_ne_nil (show a4 ≠ [] by intro z; rw [z] at h4; cases h4)
  subst e5
  have h5 : a5.length = 16 := by simpa using h4
  obtain ⟨x6, a6, e6⟩ := List.exists_cons_of_ne_nil (show a5 ≠ [] by intro z; rw [z] at h5; cases h5)
  subst e6
  have h6 : a6.length = 15 := by simpa using h5
  obtain ⟨x7, a7, e7⟩ := List.exists_cons_of_ne_nil (show a6 ≠ [] by intro z; rw [z] at h6; cases h6)
  subst e7
  have h7 : a7.length = 14 := by simpa using h6
  obtain ⟨x8, a8, e8⟩ := List.exists_cons_of_ne_nil (show a7 ≠ [] by intro z; rw [z] at h7; cases h7)
  subst e8
  have h8 : a8.length = 13 := by simpa using h7
  obtain ⟨x9, a9, e9⟩ := List.exists_cons_of_ne_nil (show a8 ≠ [] by intro z; rw [z] at h8; cases h8)
  subst e9
  have h9 : a9.length = 12 := by simpa using h8
  obtain ⟨x10, a10, e10⟩ := List.exists_cons_of_ne_nil (show a9 ≠ [] by intro z; rw [z] at h9; cases h9)
  subst e10
  have h10 : a10.length = 11 := by simpa using h9
  obtain ⟨x11, a11, e11⟩ := List.exists_cons_of_ne_nil (show a10 ≠ [] by intro z; rw [z] at h10; cases h10)
  subst e11
  have h11 : a11.length = 10 := by simpa using h10
  obtain ⟨x12, a12, e12⟩ := List.exists_cons_of_ne_nil (show a11 ≠ [] by intro z; rw [z] at h11; cases h11)
  subst e12
  have h12 : a12.length = 9 := by simpa using h11
  obtain ⟨x13, a13, e13⟩ := List.exists_cons_of_ne_nil (show a12 ≠ [] by intro z; rw [z] at h12; cases h12)
  subst e13
  have h13 : a13.length = 8 := by simpa using h12
  obtain ⟨x14, a14, e14⟩ := List.exists_cons_of_ne_nil (show a13 ≠ [] by intro z; rw [z] at h13; cases h13)
  subst e14
  have h14 : a14.length = 7 := by simpa using h13
  obtain ⟨x15, a15, e15⟩ := List.exists_cons_of_ne_nil (show a14 ≠ [] by intro z; rw [z] at h14; cases h14)
  subst e15
  have h15 : a15.length = 6 := by simpa using h14
  obtain ⟨x16, a16, e16⟩ := List.exists_cons_of_ne_nil (show a15 ≠ [] by intro z; rw [z] at h15; cases h15)
  subst e16
  have h16 : a16.length = 5 := by simpa using h15
  obtain ⟨x17, a17, e17⟩ := List.exists_cons_of_ne_nil (show a16 ≠ [] by intro z; rw [z] at h16; cases h16)
  subst e17
  have h17 : a17.length = 4 := by simpa using h16
  obtain ⟨x18, a18, e18⟩ := List.exists_cons_of_ne_nil (show a17 ≠ [] by intro z; rw [z] at h17; cases h17)
  subst e18
  have h18 : a18.length = 3 := by simpa using h17
  obtain ⟨x19, a19, e19⟩ := List.exists_cons_of_ne_nil (show a18 ≠ [] by intro z; rw [z] at h18; cases h18)
  subst e19
  have h19 : a19.length = 2 := by simpa using h18
  obtain ⟨x20, a20, e20⟩ := List.exists_cons_of_ne_nil (show a19 ≠ [] by intro z; rw [z] at h19; cases h19)
  subst e20
  have h20 : a20.length = 1 := by simpa using h19
  obtain ⟨x21, a21, e21⟩ := List.exists_cons_of_ne_nil (show a20 ≠ [] by intro z; rw [z] at h20; cases h20)
  subst e21
  have h21 : a21.length = 0 := by simpa using h20
  obtain rfl := List.eq_nil_of_length_eq_zero h21
  clear hl h0 h1 h2 h3 h4 h5 h6 h7 h8 h9 h10 h11 h12 h13 h14 h15 h16 h17 h18 h19 h20 h21
  have e0 : (X.bytes [x0, x1, x2, x3, x4, x5, x6, x7, x8, x9, x10, x11, x12, x13, x14, x15, x16, x17, x18, x19, x20, x21]).extract 0 2 = X.bytes [x0, x1] := by rw [extract_bytes]; rfl
  have e7 : (X.bytes [x0, x1, x2, x3, x4, x5, x6, x7, x8, x9, x10, x11, x12, x13, x14, x15, x16, x17, x18, x19, x20, x21]).extract 7 9 = X.bytes [x7, x8] := by rw [extract_bytes]; rfl
  have e3 : (X.bytes [x0, x1, x2, x3, x4, x5, x6, x7, x8, x9, x10, x11, x12, x13, x14, x15, x16, x17, x18, x19, x20, x21]).extract 3 6 = X.bytes [x3, x4, x5] := by rw [extract_bytes]; rfl
  have e10 : (X.bytes [x0, x1, x2, x3, x4, x5, x6, x7, x8, x9, x10, x11, x12, x13, x14, x15, x16, x17, x18, x19, x20, x21]).extract 10 18 = X.bytes [x10, x11, x12, x13, x14, x15, x16, x17] := by rw [extract_bytes]; rfl
  have e18 : ((X.bytes [x0, x1, x2, x3, x4, x5, x6, x7, x8, x9, x10, x11, x12, x13, x14, x15, x16, x17, x18, x19, x20, x21]).extract 18 22).toList = [x18, x19, x20, x21] := by rw [extract_bytes, bytes_toList]; rfl
  have b2 : bt (X.bytes [x0, x1, x2, x3, x4, x5, x6, x7, x8, x9, x10, x11, x12, x13, x14, x15, x16, x17, x18, x19, x20, x21]) 2 = (x2.toNat : Int) := bt_bytes [x0, x1, x2, x3, x4, x5, x6, x7, x8, x9, x10, x11, x12, x13, x14, x15, x16, x17, x18, x19, x20, x21] 2 (by simp)
  have b6 : bt (X.bytes [x0, x1, x2, x3, x4, x5, x6, x7, x8, x9, x10, x11, x12, x13, x14, x15, x16, x17, x18, x19, x20, x21]) 6 = (x6.toNat : Int) := bt_bytes [x0, x1, x2, x3, x4, x5, x6, x7, x8, x9, x10, x11, x12, x13, x14, x15, x16, x17, x18, x19, x20, x21] 6 (by simp)
  have b9 : bt (X.bytes [x0, x1, x2, x3, x4, x5, x6, x7, x8, x9, x10, x11, x12, x13, x14, x15, x16, x17, x18, x19, x20, x21]) 9 = (x9.toNat : Int) := bt_bytes [x0, x1, x2, x3, x4, x5, x6, x7, x8, x9, x10, x11, x12, x13, x14, x15, x16, x17, x18, x19, x20, x21] 9 (by simp)
  simp only [rform3, e0, e7, e3, e10, e18, b2, b6, b9, rmonths_f, Option.bind_some]
  clear e0 e7 e3 e10 e18 b2 b6 b9
  obtain ⟨k1, ev1⟩ := digits_ev [x0, x1] (by simp)
  obtain ⟨k2, ev2⟩ := digits_ev [x7, x8] (by simp)
  obtain ⟨k3, ev3⟩ := months_ev [x3, x4, x5]
  have hU : ∀ {y mo d h mi s : Int}, Tm y mo d h mi s → [x0, x1, x2, x3, x4, x5, x6, x7, x8, x9, x10, x11, x12, x13, x14, x15, x16, x17, x18, x19, x20, x21] = U2 y mo d h mi s → [x0, x1] = tw d ∧ x2 = 45 ∧ [x3, x4, x5] = m3 mo ∧ x6 = 45 ∧ [x7, x8] = tw y ∧ x9 = 32 ∧ [x10, x11, x12, x13, x14, x15, x16, x17] = ck h mi s ∧ [x18, x19, x20, x21] = [32, 71, 77, 84] := by
    intro y mo d h mi s t e
    obtain ⟨m1, m2, m3', em, _⟩ := m3_three mo t.ok.m0 t.ok.m1
    unfold U2 at e
    rw [em] at e
    exact ⟨congrArg (fun l => l.take 2) e, Option.some.inj (congrArg (fun l => l[2]?) e), em ▸ congrArg (fun l => (l.drop 3).take 3) e, Option.some.inj (congrArg (fun l => l[6]?) e), congrArg (fun l => (l.drop 7).take 2) e, Option.some.inj (congrArg (fun l => l[9]?) e), congrArg (fun l => (l.drop 10).take 8) e, congrArg (fun l => l.drop 18) e⟩
  by_cases hb : (D [x0, x1]).2 = true ∧ (D [x7, x8]).2 = true ∧ (x2.toNat : Int) = 45 ∧ (x6.toNat : Int) = 45 ∧ (x9.toNat : Int) = 32 ∧ [x18, x19, x20, x21] = [32, 71, 77, 84]
  · obtain ⟨r, ⟨k4, ev4⟩, h1, h2⟩ := made_tot i (YR (D [x7, x8]).1) (mIdx [x3, x4, x5]) (D [x0, x1]).1 [x10, x11, x12, x13, x14, x15, x16, x17] rfl (by rcases mIdx_cases [x3, x4, x5] with h | h <;> omega) (by rcases mIdx_cases [x3, x4, x5] with h | h <;> omega)
    obtain ⟨d0, d1, ed⟩ := D_two (D_eta hb.1)
    obtain ⟨y0, y1, ey⟩ := D_two (D_eta hb.2.1)
    obtain ⟨Y0, Y1, Y2⟩ := YR_eq y0 y1
    refine ⟨r, ⟨k1 + k2 + k3 + k4, fun k hk => ?_⟩, ?_, ?_⟩
    · have q1 := ev1 k (by omega)
      have q2 := ev2 k (by omega)
      have q3 := ev3 k (by omega)
      have q4 := ev4 k (by omega)
      simp only at q1 q2 q3 q4
      simp only [q1, q2, Option.bind_some]
      rw [if_pos hb, q3]
      exact q4
    · rcases h1 with h1 | ⟨h, mi, s, t, hc, hw, hr⟩
      · exact .inl h1
      · refine .inr ⟨_, _, _, h, mi, s, t, ?_, Y1, hw, hr⟩
        have em := m3_of (l := [x3, x4, x5]) t.ok.m0
        have eY : tw (YR (D [x7, x8]).1) = [x7, x8] := by rw [← tw_mod, Y2, ← ey]
        have c2 : x2 = 45 := u8_of (n := 45) hb.2.2.1 (by decide)
        have c6 : x6 = 45 := u8_of (n := 45) hb.2.2.2.1 (by decide)
        have c9 : x9 = 32 := u8_of (n := 32) hb.2.2.2.2.1 (by decide)
        have c18 := hb.2.2.2.2.2
        simp only [List.cons.injEq, and_true] at c18
        obtain ⟨rfl, rfl, rfl, rfl⟩ := c18
        unfold U2
        rw [← ed, ← em, eY, ← hc, c2, c6, c9]
        rfl
    · intro y mo d h mi s t e hy hw
      obtain ⟨q1, _, q3, _, q4, _, q5, _⟩ := hU t e
      have hd := t.d
      rw [q1, q3, q4, q5, D_tw d (by omega) (by omega), ← tw_mod y, D_tw (y % 100) (by omega) (by omega), mIdx_m3 mo t.ok.m0 t.ok.m1] at h2
      have h2 := h2 h mi s
      rw [show YR (y % 100, true).1 = y from YR_mod t.ok.y0 hy] at h2
      exact h2 t rfl hw
  · refine ⟨(0, 80), ⟨k1 + k2, fun k hk => ?_⟩, .inl rfl, fun y mo d h mi s t e hy hw => ?_⟩
    · have q1 := ev1 k (by omega)
      have q2 := ev2 k (by omega)
      simp only at q1 q2
      simp only [q1, q2, Option.bind_some]
      rw [if_neg hb]
    · obtain ⟨q1, q2, q3, q6, q4, q9, q5, q18⟩ := hU t e
      have hd := t.d
      refine absurd ⟨?_, ?_, ?_, ?_, ?_, q18⟩ hb
      · rw [q1, D_tw d (by omega) (by omega)]
      · rw [q4, ← tw_mod y, D_tw (y % 100) (by omega) (by omega)]
      · rw [q2]; decide
      · rw [q6]; decide
      · rw [q9]; decide

def rlongs : List ByteArray := [X.bytes (ld 0), X.bytes (ld 1), X.bytes (ld 2), X.bytes (ld 3), X.bytes (ld 4), X.bytes (ld 5), X.bytes (ld 6)]
theorem rlongs_f : ambryref9_longs.f = some rlongs := rfl
theorem ld_inj {i j : Int} (hi : 0 ≤ i ∧ i < 7) (hj : 0 ≤ j ∧ j < 7) (h : ld i = ld j) : i = j := by
  obtain ⟨i0, i1⟩ := hi
  obtain ⟨j0, j1⟩ := hj
  have hs : sd i = sd j := by unfold sd; rw [h]
  rw [← dIdx_sd i i0 i1, ← dIdx_sd j j0 j1, hs]
/-- Two days' names that a text begins with, each before a comma, are one. -/
theorem ld_one {i j : Int} (hi : 0 ≤ i ∧ i < 7) (hj : 0 ≤ j ∧ j < 7) {p q : List UInt8} (h : ld i ++ 44 :: p = ld j ++ 44 :: q) : i = j := by
  have e1 := idx_hit (ld i) p (ld_ok i hi).2.2
  have e2 := idx_hit (ld j) q (ld_ok j hj).2.2
  rw [h, e2] at e1
  have e : (ld j).length = (ld i).length := by omega
  exact ld_inj hi hj (List.append_inj_left h e.symm)
theorem lcond_iff (a : List UInt8) (i : Int) (hi : 0 ≤ i ∧ i < 7) : lcond (X.bytes a) (X.bytes (ld i)) = true ↔ ∃ u, u.length = 22 ∧ a = ld i ++ ([44, 32] ++ u) := by
  simp only [lcond, Bool.and_eq_true, decide_eq_true_eq, beq_iff_eq, bytes_size, extract_bytes, bytes_toList, Nat.sub_zero, List.drop_zero]
  constructor
  · rintro ⟨hs, h1, h2⟩
    have hs' : a.length = (ld i).length + 24 := of_decide_eq_true hs
    refine ⟨a.drop ((ld i).length + 2), by rw [List.length_drop]; omega, ?_⟩
    rw [show (ld i).length + 2 - (ld i).length = 2 by omega] at h2
    conv => lhs; rw [← List.take_append_drop (ld i).length a, h1]
    congr 1
    rw [← h2, ← List.drop_drop, List.take_append_drop]
  · rintro ⟨u, hu, rfl⟩
    refine ⟨by simp [hu], by simp, ?_⟩
    rw [List.drop_left, show (ld i).length + 2 - (ld i).length = 2 by omega]
    rfl
theorem rloop_tot (a : List UInt8) (n : Nat) : ∀ (i : Nat), i + n = 7 → ∃ r, Ev (fun k => rloop k (X.bytes a) i (rlongs.drop i)) r ∧
    (r = (0, 80) ∨ ∃ y mo d h mi s, Tm y mo d h mi s ∧ a = T2 y mo d h mi s (wk y mo d) ∧ y < 2070 ∧ r = (sec y mo d h mi s, 0)) ∧
    (∀ y mo d h mi s, Tm y mo d h mi s → a = T2 y mo d h mi s (wk y mo d) → y < 2070 → (i : Int) ≤ wk y mo d → r = (sec y mo d h mi s, 0)) := by
  induction n with
  | zero =>
    intro i hi
    obtain rfl : i = 7 := by omega
    exact ⟨(0, 80), ⟨0, fun k _ => rfl⟩, .inl rfl, fun y mo d h mi s t e hy hw => by have := wk0 y mo d; omega⟩
  | succ n ih =>
    intro i hi
    obtain ⟨r', ev, h1, h2⟩ := ih (i + 1) (by omega)
    have hd : rlongs.drop i = X.bytes (ld i) :: rlongs.drop (i + 1) := by
      have : i = 0 ∨ i = 1 ∨ i = 2 ∨ i = 3 ∨ i = 4 ∨ i = 5 ∨ i = 6 := by omega
      rcases this with rfl | rfl | rfl | rfl | rfl | rfl | rfl <;> rfl
    rw [hd]
    have hi7 : 0 ≤ (i : Int) ∧ (i : Int) < 7 := by omega
    by_cases hc : lcond (X.bytes a) (X.bytes (ld i)) = true
    · obtain ⟨u, hu, ea⟩ := (lcond_iff a i hi7).1 hc
      obtain ⟨r, ev, g1, g2⟩ := form3_tot i u hu
      refine ⟨r, Ev.congr (fun k => ?_) ev, ?_, ?_⟩
      · simp only [rloop]
        rw [if_pos hc, extract_bytes, bytes_size, ea]
        congr 2
        rw [← List.append_assoc, show (ld (i : Int)).length + 2 = (ld (i : Int) ++ [44, 32]).length by simp, List.drop_left]
        refine List.take_of_length_le ?_
        rw [hu, List.length_append]
        simp only [List.length_cons, List.length_nil]
        omega
      · rcases g1 with g1 | ⟨y, mo, d, h, mi, s, t, eu, hy, hw, hr⟩
        · exact .inl g1
        · refine .inr ⟨y, mo, d, h, mi, s, t, ?_, hy, hr⟩
          rw [T2_U2, ← hw, ← eu, ea]
      · intro y mo d h mi s t e hy hw
        rw [T2_U2] at e
        have ew : (i : Int) = wk y mo d := ld_one hi7 (wk0 y mo d) (ea.symm.trans e)
        refine g2 y mo d h mi s t ?_ hy ew
        have e' := ea.symm.trans e
        rw [ew] at e'
        exact List.append_cancel_left (List.append_cancel_left e')
    · refine ⟨r', Ev.congr (fun k => ?_) ev, h1, ?_⟩
      · simp only [rloop]
        rw [if_neg hc]
        rfl
      · intro y mo d h mi s t e hy hw
        refine h2 y mo d h mi s t e hy ?_
        have : (i : Int) ≠ wk y mo d := fun z => hc ((lcond_iff a i hi7).2 ⟨U2 y mo d h mi s, U2_len t, by rw [z, ← T2_U2]; exact e⟩)
        omega
theorem G1_T1 {y mo d h mi s : Int} (t : Tm y mo d h mi s) : G1 (X.bytes (T1 y mo d h mi s (wk y mo d))) = true := by
  obtain ⟨p1, p2, p3, es, _⟩ := sd_three _ (wk0 y mo d)
  obtain ⟨m1, m2, m3', em, _⟩ := m3_three mo t.ok.m0 t.ok.m1
  unfold T1
  rw [es, em]
  simp only [G1, extract_bytes, bytes_toList, bytes_size]
  rfl
theorem G2_T3 {y mo d h mi s : Int} (t : Tm y mo d h mi s) : G2 (X.bytes (T3 y mo d h mi s (wk y mo d))) = true := by
  obtain ⟨p1, p2, p3, es, _⟩ := sd_three _ (wk0 y mo d)
  obtain ⟨m1, m2, m3', em, _⟩ := m3_three mo t.ok.m0 t.ok.m1
  obtain ⟨u, v, ed, _⟩ := dl_two d (Int.le_trans (by decide) t.d.1)
  unfold T3
  rw [es, em, ed]
  simp only [G2, extract_bytes, bytes_toList, bytes_size]
  rfl
/-- The document's reader answers any text as the three texts say. -/
theorem rparse_tot (a : List UInt8) : ∃ r, Ev (fun k => ambryref9_Parse.f k (X.bytes a)) r ∧ Ans a r := by
  by_cases g1 : G1 (X.bytes a) = true
  · have hl : a.length = 29 := by
      simp only [G1, Bool.and_eq_true, decide_eq_true_eq] at g1
      exact g1.1
    obtain ⟨r, ev, h⟩ := form1_tot a hl g1
    exact ⟨r, Ev.congr (fun k => by simp only [ambryref9_Parse.f]; rw [if_pos g1]) ev, h⟩
  · by_cases g2 : G2 (X.bytes a) = true
    · have hl : a.length = 24 := by
        simp only [G2, Bool.and_eq_true, decide_eq_true_eq] at g2
        exact g2.1
      obtain ⟨r, ev, h⟩ := form2_tot a hl g2
      exact ⟨r, Ev.congr (fun k => by simp only [ambryref9_Parse.f]; rw [if_neg g1, if_pos g2]) ev, h⟩
    · obtain ⟨r, ev, h1, h2⟩ := rloop_tot a 7 0 rfl
      refine ⟨r, Ev.congr (fun k => ?_) ev, ?_, ?_⟩
      · simp only [ambryref9_Parse.f]
        rw [if_neg g1, if_neg g2, rlongs_f]
        rfl
      · rcases h1 with h1 | ⟨y, mo, d, h, mi, s, t, e, hy, hr⟩
        · exact .inl h1
        · exact .inr ⟨y, mo, d, h, mi, s, t, .inr (.inl ⟨congrArg X.bytes e, hy⟩), hr⟩
      · intro y mo d h mi s t hs
        rcases hs with e | ⟨e, hy⟩ | e
        · exact absurd (by rw [e]; exact G1_T1 t) g1
        · exact h2 y mo d h mi s t (bytes_inj e) hy (wk0 y mo d).1
        · exact absurd (by rw [e]; exact G2_T3 t) g2
theorem rparse_yes {a : ByteArray} {y mo d h mi s : Int} (t : Tm y mo d h mi s) (hs : Says a y mo d h mi s) : Ev (fun k => ambryref9_Parse.f k a) (sec y mo d h mi s, 0) := by
  rw [eq_bytes a] at hs ⊢
  obtain ⟨r, ev, _, hh⟩ := rparse_tot a.data.toList
  rw [← hh y mo d h mi s t hs]
  exact ev
theorem rparse_no {a : ByteArray} (hn : ∀ y mo d h mi s, Tm y mo d h mi s → ¬ Says a y mo d h mi s) : Ev (fun k => ambryref9_Parse.f k a) (0, 80) := by
  obtain ⟨r, ev, h1, _⟩ := rparse_tot a.data.toList
  rw [← eq_bytes a] at ev
  rcases h1 with rfl | ⟨y, mo, d, h, mi, s, t, hs, _⟩
  · exact ev
  · rw [← eq_bytes a] at hs
    exact absurd hs (hn y mo d h mi s t)
end Go.Proofs.YtcejglmmjbmafaaDoor.Pure
-- printed by a program (xp.py, over the kit's print); Lean checks it
namespace Go.Proofs.YtcejglmmjbmafaaDoor.X
open Go.RowKit Go.Proofs.YtcejglmmjbmafaaDoorW.PrintWords Go.Proofs.YtcejglmmjbmafaaDoorW.PrintLast Go.Proofs.YtcejglmmjbmafaaDoorW.PrintMore
attribute [local go_sem] max2_int min2_int max_two min_two max_three min_three max_four min_four   -- for this text's walks alone
set_option linter.unusedVariables false
set_option linter.unusedSimpArgs false

/-! ### ambrylaw9_DateReads: function 4 -/
def ambrylaw9_DateReads.f (k : Nat) (a0 : ByteArray) : Option (Bool) := (ambrylaw9_known.f k).bind fun t242 => (if t242 = true then (if (a0.size : Int) > 200 then (some true) else ((date_Parse.f k a0).bind fun bt243 => ((ambryref9_Parse.f k a0).bind fun bt245 => (if bt243.1 = bt245.1 then (some (bt243.2 == bt245.2)) else (some false))))) else (some false))
theorem ambrylaw9_DateReads.mono : ∀ a0 k, LeO (ambrylaw9_DateReads.f k a0) (ambrylaw9_DateReads.f (k + 1) a0) := by
  intro a0 k
  unfold ambrylaw9_DateReads.f
  repeat' first
      | (with_reducible exact ambrylaw9_known.mono _)
      | (with_reducible exact ambryref9_Parse.mono _ _)
      | (with_reducible exact date_Parse.mono _ _)
      | (with_reducible exact LeO.refl _)
      | (with_reducible exact LeO.none _)
      | (with_reducible refine LeO.ite ?_ ?_)
      | (with_reducible refine LeO.bind ?_ (fun _ => ?_))
      | exact ambrylaw9_known.mono _
      | exact ambryref9_Parse.mono _ _
      | exact date_Parse.mono _ _
      | exact LeO.none _
      | refine LeO.ite ?_ ?_
      | refine LeO.bind ?_ (fun _ => ?_)
set_option maxHeartbeats 8000000 in
set_option maxRecDepth 100000 in
theorem ambrylaw9_DateReads.calls (k : Nat) (a0 : ByteArray) (r : Bool) (w : World) (hG : GL w) (h : ambrylaw9_DateReads.f k a0 = some r) :
    Calls Tryd.prog 4 #[.string a0] w fun e w' => e = .returned (.bool r) ∧ Below w.heap.size w w' := by
  have HG := Aside0.mk hG
  clear hG
  have HB := Aside0.mk (Below.refl w.heap.size w)
  have H : ((ambrylaw9_known.f k).bind fun t242 => (if t242 = true then (if (a0.size : Int) > 200 then (some true) else ((date_Parse.f k a0).bind fun bt243 => ((ambryref9_Parse.f k a0).bind fun bt245 => (if bt243.1 = bt245.1 then (some (bt243.2 == bt245.2)) else (some false))))) else (some false))) = some r := h
  clear h
  replace H := Option.bind_eq_some_iff.mp H
  obtain ⟨t242, A20, H⟩ := H
  replace H : (if t242 = true then (if (a0.size : Int) > 200 then (some true) else ((date_Parse.f k a0).bind fun bt243 => ((ambryref9_Parse.f k a0).bind fun bt245 => (if bt243.1 = bt245.1 then (some (bt243.2 == bt245.2)) else (some false))))) else (some false)) = some r := H
  have A2 := Aside0.mk A20
  clear A20
  by_cases c3 : t242 = true
  · subst c3
    have H1 : (if (a0.size : Int) > 200 then (some true) else ((date_Parse.f k a0).bind fun bt243 => ((ambryref9_Parse.f k a0).bind fun bt245 => (if bt243.1 = bt245.1 then (some (bt243.2 == bt245.2)) else (some false))))) = some r := by rw [if_pos rfl] at H; exact H
    clear H
    have H := H1
    clear H1
    by_cases c4 : (a0.size : Int) > 200
    · rw [if_pos c4] at H
      have c4b0 : decide (200 < (a0.size : Int)) = true := decide_eq_true c4
      have c4b1 : decide (200 < a0.size) = true := decide_eq_true (by omega)
      clear c4
      obtain rfl := Option.some.inj H
      go_enter Tryd.func4, Tryd.ntmps4
      go_wp2_with (first | ((with_reducible refine gate_callee (f := 8) rfl ?_); refine goesL_ (some 7) rfl rfl Tryd.func8 (by kernel_rfl) rfl #[] rfl (by (try simp only [List.map_toArray, List.map_cons, List.map_nil]); first | done | rfl | (simp only [List.length_drop, List.length_take]; rfl)) ?_; (with_reducible refine (ambrylaw9_known.calls k  true _ ?side1 A2.out).mono ?_); (case side1 => exact GL.below HG.out (by repeat (first | (with_reducible first | exact HB.out | apply below_alloc | apply pw_below_drewN | apply below_drew1) | exact HB.out))); rintro e w5 ⟨rfl, hb⟩; refine ⟨_, rfl, ?_⟩; have n0_ := Aside0.mk (below_step (by repeat (first | (with_reducible first | exact HB.out | apply below_alloc | apply pw_below_drewN | apply below_drew1) | exact HB.out)) hb); clear HB; have HB := n0_; clear n0_; (try clear hb); (try clear hb2); (try clear hk); (try clear hi)))
      go_ret
      exact ⟨by first | rfl | (simp [errW_none, errW_some] <;> rfl) | (simp [*, errW_none, errW_some] <;> rfl), by repeat (first | (with_reducible first | exact HB.out | apply below_alloc | apply pw_below_drewN | apply below_drew1) | exact HB.out)⟩
    · rw [if_neg c4] at H
      have c4b0 : decide (200 < (a0.size : Int)) = false := decide_eq_false c4
      have c4b1 : decide (200 < a0.size) = false := decide_eq_false (by omega)
      clear c4
      replace H := Option.bind_eq_some_iff.mp H
      obtain ⟨⟨t243, t244⟩, A60, H⟩ := H
      replace H : ((ambryref9_Parse.f k a0).bind fun bt245 => (if t243 = bt245.1 then (some (t244 == bt245.2)) else (some false))) = some r := H
      have A6 := Aside0.mk A60
      clear A60
      replace H := Option.bind_eq_some_iff.mp H
      obtain ⟨⟨t245, t246⟩, A70, H⟩ := H
      replace H : (if t243 = t245 then (some (t244 == t246)) else (some false)) = some r := H
      have A7 := Aside0.mk A70
      clear A70
      by_cases c8 : t243 = t245
      · rw [if_pos c8] at H
        have c8b0 : (t243 == t245) = true := beq_iff_eq.mpr c8
        have c8b1 : (t243 != t245) = false := bne_eq_false_iff_eq.mpr c8
        clear c8
        obtain rfl := Option.some.inj H
        go_enter Tryd.func4, Tryd.ntmps4
        go_wp2_with (first | ((with_reducible refine gate_callee (f := 8) rfl ?_); refine goesL_ (some 7) rfl rfl Tryd.func8 (by kernel_rfl) rfl #[] rfl (by (try simp only [List.map_toArray, List.map_cons, List.map_nil]); first | done | rfl | (simp only [List.length_drop, List.length_take]; rfl)) ?_; (with_reducible refine (ambrylaw9_known.calls k  true _ ?side1 A2.out).mono ?_); (case side1 => exact GL.below HG.out (by repeat (first | (with_reducible first | exact HB.out | apply below_alloc | apply pw_below_drewN | apply below_drew1) | exact HB.out))); rintro e w9 ⟨rfl, hb⟩; refine ⟨_, rfl, ?_⟩; have n0_ := Aside0.mk (below_step (by repeat (first | (with_reducible first | exact HB.out | apply below_alloc | apply pw_below_drewN | apply below_drew1) | exact HB.out)) hb); clear HB; have HB := n0_; clear n0_; (try clear hb); (try clear hb2); (try clear hk); (try clear hi)) | ((with_reducible refine gate_callee (f := 10) rfl ?_); refine goesL_ (some 14) rfl rfl Tryd.func10 (by kernel_rfl) rfl #[.string a0] rfl (by (try simp only [List.map_toArray, List.map_cons, List.map_nil]); first | done | rfl | (simp only [List.length_drop, List.length_take]; rfl)) ?_; (with_reducible refine (date_Parse.calls k a0 t243 t244 _ ?side1 A6.out).mono ?_); (case side1 => exact GL.below HG.out (by repeat (first | (with_reducible first | exact HB.out | apply below_alloc | apply pw_below_drewN | apply below_drew1) | exact HB.out))); rintro e w10 ⟨rfl, hb⟩; refine ⟨_, rfl, ?_⟩; have n0_ := Aside0.mk (below_step (by repeat (first | (with_reducible first | exact HB.out | apply below_alloc | apply pw_below_drewN | apply below_drew1) | exact HB.out)) hb); clear HB; have HB := n0_; clear n0_; (try clear hb); (try clear hb2); (try clear hk); (try clear hi)) | ((with_reducible refine gate_callee (f := 12) rfl ?_); refine goesL_ (some 19) rfl rfl Tryd.func12 (by kernel_rfl) rfl #[.string a0] rfl (by (try simp only [List.map_toArray, List.map_cons, List.map_nil]); first | done | rfl | (simp only [List.length_drop, List.length_take]; rfl)) ?_; (with_reducible refine (ambryref9_Parse.calls k a0 t245 t246 _ A7.out).mono ?_); rintro e w11 ⟨rfl, hb⟩; refine ⟨_, rfl, ?_⟩; have n0_ := Aside0.mk (below_step (by repeat (first | (with_reducible first | exact HB.out | apply below_alloc | apply pw_below_drewN | apply below_drew1) | exact HB.out)) hb); clear HB; have HB := n0_; clear n0_; (try clear hb); (try clear hb2); (try clear hk); (try clear hi)))
        go_ret
        exact ⟨by first | rfl | (simp [errW_none, errW_some] <;> rfl) | (simp [*, errW_none, errW_some] <;> rfl), by repeat (first | (with_reducible first | exact HB.out | apply below_alloc | apply pw_below_drewN | apply below_drew1) | exact HB.out)⟩
      · rw [if_neg c8] at H
        have c8b0 : (t243 == t245) = false := beq_eq_false_iff_ne.mpr c8
        have c8b1 : (t243 != t245) = true := bne_iff_ne.mpr c8
        obtain rfl := Option.some.inj H
        go_enter Tryd.func4, Tryd.ntmps4
        go_wp2_with (first | ((with_reducible refine gate_callee (f := 8) rfl ?_); refine goesL_ (some 7) rfl rfl Tryd.func8 (by kernel_rfl) rfl #[] rfl (by (try simp only [List.map_toArray, List.map_cons, List.map_nil]); first | done | rfl | (simp only [List.length_drop, List.length_take]; rfl)) ?_; (with_reducible refine (ambrylaw9_known.calls k  true _ ?side1 A2.out).mono ?_); (case side1 => exact GL.below HG.out (by repeat (first | (with_reducible first | exact HB.out | apply below_alloc | apply pw_below_drewN | apply below_drew1) | exact HB.out))); rintro e w12 ⟨rfl, hb⟩; refine ⟨_, rfl, ?_⟩; have n0_ := Aside0.mk (below_step (by repeat (first | (with_reducible first | exact HB.out | apply below_alloc | apply pw_below_drewN | apply below_drew1) | exact HB.out)) hb); clear HB; have HB := n0_; clear n0_; (try clear hb); (try clear hb2); (try clear hk); (try clear hi)) | ((with_reducible refine gate_callee (f := 10) rfl ?_); refine goesL_ (some 14) rfl rfl Tryd.func10 (by kernel_rfl) rfl #[.string a0] rfl (by (try simp only [List.map_toArray, List.map_cons, List.map_nil]); first | done | rfl | (simp only [List.length_drop, List.length_take]; rfl)) ?_; (with_reducible refine (date_Parse.calls k a0 t243 t244 _ ?side1 A6.out).mono ?_); (case side1 => exact GL.below HG.out (by repeat (first | (with_reducible first | exact HB.out | apply below_alloc | apply pw_below_drewN | apply below_drew1) | exact HB.out))); rintro e w13 ⟨rfl, hb⟩; refine ⟨_, rfl, ?_⟩; have n0_ := Aside0.mk (below_step (by repeat (first | (with_reducible first | exact HB.out | apply below_alloc | apply pw_below_drewN | apply below_drew1) | exact HB.out)) hb); clear HB; have HB := n0_; clear n0_; (try clear hb); (try clear hb2); (try clear hk); (try clear hi)) | ((with_reducible refine gate_callee (f := 12) rfl ?_); refine goesL_ (some 19) rfl rfl Tryd.func12 (by kernel_rfl) rfl #[.string a0] rfl (by (try simp only [List.map_toArray, List.map_cons, List.map_nil]); first | done | rfl | (simp only [List.length_drop, List.length_take]; rfl)) ?_; (with_reducible refine (ambryref9_Parse.calls k a0 t245 t246 _ A7.out).mono ?_); rintro e w14 ⟨rfl, hb⟩; refine ⟨_, rfl, ?_⟩; have n0_ := Aside0.mk (below_step (by repeat (first | (with_reducible first | exact HB.out | apply below_alloc | apply pw_below_drewN | apply below_drew1) | exact HB.out)) hb); clear HB; have HB := n0_; clear n0_; (try clear hb); (try clear hb2); (try clear hk); (try clear hi)))
        go_ret
        exact ⟨by first | rfl | (simp [errW_none, errW_some] <;> rfl) | (simp [*, errW_none, errW_some] <;> rfl), by repeat (first | (with_reducible first | exact HB.out | apply below_alloc | apply pw_below_drewN | apply below_drew1) | exact HB.out)⟩
  · replace c3 := Bool.eq_false_iff.mpr c3
    subst c3
    have H1 : (some false) = some r := by rw [if_neg (show ¬ (false = true) by decide)] at H; exact H
    clear H
    have H := H1
    clear H1
    obtain rfl := Option.some.inj H
    go_enter Tryd.func4, Tryd.ntmps4
    go_wp2_with (first | ((with_reducible refine gate_callee (f := 8) rfl ?_); refine goesL_ (some 7) rfl rfl Tryd.func8 (by kernel_rfl) rfl #[] rfl (by (try simp only [List.map_toArray, List.map_cons, List.map_nil]); first | done | rfl | (simp only [List.length_drop, List.length_take]; rfl)) ?_; (with_reducible refine (ambrylaw9_known.calls k  false _ ?side1 A2.out).mono ?_); (case side1 => exact GL.below HG.out (by repeat (first | (with_reducible first | exact HB.out | apply below_alloc | apply pw_below_drewN | apply below_drew1) | exact HB.out))); rintro e w15 ⟨rfl, hb⟩; refine ⟨_, rfl, ?_⟩; have n0_ := Aside0.mk (below_step (by repeat (first | (with_reducible first | exact HB.out | apply below_alloc | apply pw_below_drewN | apply below_drew1) | exact HB.out)) hb); clear HB; have HB := n0_; clear n0_; (try clear hb); (try clear hb2); (try clear hk); (try clear hi)))
    go_ret
    exact ⟨by first | rfl | (simp [errW_none, errW_some] <;> rfl) | (simp [*, errW_none, errW_some] <;> rfl), by repeat (first | (with_reducible first | exact HB.out | apply below_alloc | apply pw_below_drewN | apply below_drew1) | exact HB.out)⟩

/-- THE ONE PURE STATEMENT of ambrylaw9_DateReads: yours. -/
def ambrylaw9_DateReads.Pure : Prop := ∀ (a0 : ByteArray), a0.size ≤ 140737488351232 → ∃ k, ambrylaw9_DateReads.f k a0 = some true
theorem ambrylaw9_DateReads.walk (P : ambrylaw9_DateReads.Pure) (a0 : ByteArray) (w : World) (hG : GL w) (w0 : a0.size ≤ 140737488351232) :
    Calls Tryd.prog 4 #[.string a0] w fun e w' => e = .returned (.bool true) ∧ Below w.heap.size w w' := by
  obtain ⟨k, h⟩ := P a0 w0
  refine (ambrylaw9_DateReads.calls k a0 true w hG h).mono ?_
  rintro e w' ⟨rfl, hd⟩
  exact ⟨rfl, hd⟩

end Go.Proofs.YtcejglmmjbmafaaDoor.X
/- Plain Lean: what DateReads' printed function answers. -/
namespace Go.Proofs.YtcejglmmjbmafaaDoor.Pure
open Go.RowKit Go.Proofs.YtcejglmmjbmafaaDoor.X Go.Proofs.YtcejglmmjbmafaaDoor.Cal Go.Proofs.YtcejglmmjbmafaaDoorW.PrintWords Go.Proofs.YtcejglmmjbmafaaDoorW.PrintLast Go.Proofs.YtcejglmmjbmafaaDoorW.PrintMore
set_option linter.unusedVariables false
set_option linter.unusedSimpArgs false

/-- Both readers answer any text alike. -/
theorem both_r (s : ByteArray) (hs : s.size ≤ 1000000000) : ∃ r, Ev (fun k => date_Parse.f k s) r ∧ Ev (fun k => ambryref9_Parse.f k s) r := by
  by_cases h : ∃ y mo d h mi sc, Tm y mo d h mi sc ∧ Says s y mo d h mi sc
  · obtain ⟨y, mo, d, h, mi, sc, t, hsay⟩ := h
    exact ⟨_, parse_yes t hsay, rparse_yes t hsay⟩
  · have hn : ∀ y mo d h mi sc, Tm y mo d h mi sc → ¬ Says s y mo d h mi sc := fun y mo d h' mi sc t z => h ⟨y, mo, d, h', mi, sc, t, z⟩
    exact ⟨_, parse_no s hs hn, rparse_no hn⟩
theorem DateReads : X.ambrylaw9_DateReads.Pure := by
  intro a0 _
  obtain ⟨k0, h0⟩ := known_ev
  by_cases hz : (a0.size : Int) > 200
  · refine ⟨k0, ?_⟩
    have e0 := h0 k0 (by omega)
    simp only at e0
    simp only [ambrylaw9_DateReads.f, e0, Option.bind_some, if_true]
    rw [if_pos hz]
  · obtain ⟨r, ⟨k1, h1⟩, ⟨k2, h2⟩⟩ := both_r a0 (by omega)
    refine ⟨k0 + k1 + k2, ?_⟩
    have e0 := h0 (k0 + k1 + k2) (by omega)
    have e1 := h1 (k0 + k1 + k2) (by omega)
    have e2 := h2 (k0 + k1 + k2) (by omega)
    simp only at e0 e1 e2
    simp only [ambrylaw9_DateReads.f, e0, e1, e2, Option.bind_some, if_true]
    rw [if_neg hz]
    simp
end Go.Proofs.YtcejglmmjbmafaaDoor.Pure
/- DateDays: the law's own walk, with what is known of its parts decided ahead. -/
namespace Go.Proofs.YtcejglmmjbmafaaDoor.Pure
open Go.RowKit Go.Proofs.YtcejglmmjbmafaaDoor.X Go.Proofs.YtcejglmmjbmafaaDoor.Cal Go.Proofs.YtcejglmmjbmafaaDoorW.PrintWords Go.Proofs.YtcejglmmjbmafaaDoorW.PrintLast Go.Proofs.YtcejglmmjbmafaaDoorW.PrintMore
set_option linter.unusedVariables false
set_option linter.unusedSimpArgs false

theorem bne_of {a b : List UInt8} (h : (a == b) = false) : (a != b) = true := by simp [bne, h]
theorem bne_of' {a b : List UInt8} (h : (a == b) = true) : (a != b) = false := by simp [bne, h]
def ordL : List UInt8 := [83, 117, 110, 77, 111, 110, 84, 117, 101, 87, 101, 100, 84, 104, 117, 70, 114, 105, 83, 97, 116, 83, 117, 110]
theorem sd_ne {i j : Int} (hi : 0 ≤ i ∧ i < 7) (hj : 0 ≤ j ∧ j < 7) (h : i ≠ j) : sd i ≠ sd j := by
  intro e
  have := dIdx_sd i hi.1 hi.2
  rw [e, dIdx_sd j hj.1 hj.2] at this
  exact h this.symm
theorem ord_at (i : Nat) (hi : i ≤ 7) : ((X.bytes ordL).extract (3 * i) (3 * i + 3)).toList = sd ((i : Int) % 7) := by
  rw [extract_bytes, bytes_toList]
  have : i = 0 ∨ i = 1 ∨ i = 2 ∨ i = 3 ∨ i = 4 ∨ i = 5 ∨ i = 6 ∨ i = 7 := by omega
  rcases this with rfl | rfl | rfl | rfl | rfl | rfl | rfl | rfl <;> rfl
set_option maxRecDepth 100000 in
set_option maxHeartbeats 100000000 in
/-- What the law's walk wants of its texts. -/
theorem days_core (k : Nat) (a0 a1 a2 T T' : Int) (A B ord o4 o10 o1 o36 a5 a11 s1 s2 s3 : ByteArray) (D D1 D1' D2 D2' M M' p p3 p6 r1 r2 : Int) (n : Nat) (w : World) (hG : GL w) (hn : n < 7)
    (hk : ambrylaw9_known.f k = some true) (hA : date_Text.f k T = some A) (hB : date_Text.f k T' = some B) (hP : date_Parse.f k (a5 ++ s1 ++ s2 ++ o1 ++ s3 ++ a11) = some (r1, r2)) (hR : ambryref9_Parse.f k (a5 ++ s1 ++ s2 ++ o1 ++ s3 ++ a11) = some (r1, r2))
    (ht : (0 ≤ a0 ∧ Int.tmod a0 253393660799 = T) ∨ (a0 < 0 ∧ Int.tmod (wrap64 (-(wrap64 (a0 + 1)))) 253393660799 = T)) (hT' : wrap64 (T + 86400) = T')
    (sA : A.size = 29) (sB : B.size = 29) (hAB : B.extract 17 29 = A.extract 17 29) (a3 b3 : ByteArray) (hA3 : A.extract 0 3 = a3) (hB3 : B.extract 0 3 = b3)
    (hlt : ∀ j : Nat, j < n → ((ord.extract (3 * j) (3 * j + 3)).toList == a3.toList) = false) (heq : ((ord.extract (3 * n) (3 * n + 3)).toList == a3.toList) = true)
    (hp : p = 3 * n) (e3 : wrap64 (p + 3) = p3) (e6 : wrap64 (p + 6) = p6) (b3' : 0 ≤ p3) (b6 : p3 ≤ p6) (b7 : p6 ≤ 24) (hnx : ((ord.extract p3.toNat p6.toNat).toList == b3.toList) = true)
    (hD : wrap64 (Int.tmod a1 40) = D) (hD1 : wrap64 (Int.tdiv D 10) = D1) (hD1' : wrap64 (D1 + 1) = D1') (c1 : 0 ≤ D1) (c2 : D1 ≤ D1') (c3 : D1' ≤ 4)
    (hD2 : Int.tmod D 10 = D2) (hD2' : wrap64 (D2 + 1) = D2') (c4 : 0 ≤ D2) (c5 : D2 ≤ D2') (c6 : D2' ≤ 10)
    (hM : wrap64 (3 * (wrap64 (Int.tmod a2 12))) = M) (hM' : wrap64 (M + 3) = M') (c7 : 0 ≤ M) (c8 : M ≤ M') (c9 : M' ≤ 36)
    (h1 : o4.extract D1.toNat D1'.toNat = s1) (h2 : o10.extract D2.toNat D2'.toNat = s2) (h3 : o36.extract M.toNat M'.toNat = s3) (z1 : s1.size = 1) (z2 : s2.size = 1) (z3 : s3.size = 3)
    (h5 : A.extract 0 5 = a5) (h11 : A.extract 11 29 = a11) (z5 : a5.size = 5) (z11 : a11.size = 18)
    (hO : (⟨#[83, 117, 110, 77, 111, 110, 84, 117, 101, 87, 101, 100, 84, 104, 117, 70, 114, 105, 83, 97, 116, 83, 117, 110]⟩ : ByteArray) = ord) (hO4 : (⟨#[48, 49, 50, 51]⟩ : ByteArray) = o4) (hO10 : (⟨#[48, 49, 50, 51, 52, 53, 54, 55, 56, 57]⟩ : ByteArray) = o10) (hO1 : (⟨#[32]⟩ : ByteArray) = o1) (hO36 : (⟨#[74, 97, 110, 70, 101, 98, 77, 97, 114, 65, 112, 114, 77, 97, 121, 74, 117, 110, 74, 117, 108, 65, 117, 103, 83, 101, 112, 79, 99, 116, 78, 111, 118, 68, 101, 99]⟩ : ByteArray) = o36) :
    Calls Tryd.prog 6 #[.int .i64 a0, .int .u8 a1, .int .u8 a2] w fun e w' => e = .returned (.bool true) ∧ Below w.heap.size w w' := by
  have HG := Lib.hid hG
  have Ck := Lib.hid (fun W hW => ambrylaw9_known.calls k true W hW hk)
  have CA := Lib.hid (fun W hW => date_Text.calls k T A W hW hA)
  have CB := Lib.hid (fun W hW => date_Text.calls k T' B W hW hB)
  have CP := Lib.hid (fun W hW => date_Parse.calls k _ r1 r2 W hW hP)
  have CR := Lib.hid (fun W => ambryref9_Parse.calls k _ r1 r2 W hR)
  clear hG hk hA hB hP hR
  have sO : ord.size = 24 := by rw [← hO]; rfl
  have sO4 : o4.size = 4 := by rw [← hO4]; rfl
  have sO10 : o10.size = 10 := by rw [← hO10]; rfl
  have sO1 : o1.size = 1 := by rw [← hO1]; rfl
  have sO36 : o36.size = 36 := by rw [← hO36]; rfl
  have HO := Lib.hid (And.intro hO (And.intro sO (And.intro hO4 (And.intro sO4 (And.intro hO10 (And.intro sO10 (And.intro hO1 (And.intro sO1 (And.intro hO36 sO36)))))))))
  have HLT := Lib.hid hlt
  have HEQ := Lib.hid heq
  have HNX := Lib.hid (And.intro e3 (And.intro e6 (And.intro b3' (And.intro b6 (And.intro b7 hnx)))))
  have HAB := Lib.hid hAB
  have HD := Lib.hid (And.intro hD (And.intro hD1 (And.intro hD1' (And.intro c1 (And.intro c2 (And.intro c3 (And.intro hD2 (And.intro hD2' (And.intro c4 (And.intro c5 c6))))))))))
  have HM := Lib.hid (And.intro hM (And.intro hM' (And.intro c7 (And.intro c8 c9))))
  have HS := Lib.hid (And.intro h1 (And.intro h2 (And.intro h3 (And.intro z1 (And.intro z2 (And.intro z3 (And.intro h5 (And.intro h11 (And.intro z5 z11)))))))))
  clear hO hlt heq hnx hAB e3 e6 b3' b6 b7 hD hD1 hD1' c1 c2 c3 hD2 hD2' c4 c5 c6 hM hM' c7 c8 c9 h1 h2 h3 z1 z2 z3 h5 h11 z5 z11 sO sO4 sO10 sO1 sO36 hO4 hO10 hO1 hO36
  go_enter Tryd.func6, Tryd.ntmps6
  go_wp2_with fail
  refine (Ck.out _ HG.out).mono ?_
  rintro e w1 ⟨rfl, hb⟩
  have HB := Aside0.mk hb
  clear hb
  go_upto_if 22 with (fail)
  go_cut [0] (fun v0 wc => (∃ x : Int, v0 = .int .i64 x ∧ Int.tmod x 253393660799 = T) ∧ Aside0 (Below w.heap.size w wc))
  case first => as_aux_lemma =>
    clear Ck CA CB CP CR
    rcases ht with ⟨h0, ht⟩ | ⟨h0, ht⟩
    · have c : decide (a0 < 0) = false := decide_eq_false (by omega)
      clear h0
      rw [c]
      go_wp2
      go_meet
      case rel => exact ⟨⟨_, rfl, ht⟩, HB⟩
    · have c : decide (a0 < 0) = true := decide_eq_true h0
      clear h0
      rw [c]
      go_wp2
      go_meet
      case rel => exact ⟨⟨_, rfl, ht⟩, HB⟩
  case rest => as_aux_lemma =>
    clear HB ht
    obtain ⟨⟨x, rfl, hx⟩, HB⟩ := hcut
    clear Ck
    go_wp2_with fail
    refine (CA.out _ (HG.out.below HB.out)).mono ?_
    rintro e w2 ⟨rfl, hb⟩
    have HB2 := Aside0.mk (below_step HB.out hb)
    clear hb
    go_wp2_with fail
    refine (CB.out _ (HG.out.below HB2.out)).mono ?_
    rintro e w3 ⟨rfl, hb⟩
    have HB3 := Aside0.mk (below_step HB2.out hb)
    clear hb HB HB2 CA CB
    have hAB := HAB.out
    have hO := HO.out.1
    have sO := HO.out.2.1
    go_upto_block 0 with (fail)
    repeat (go_quiet (fail); go_upto_block 0 with (fail))
    go_cut [10] (fun v10 wc => v10 = .int .i64 p ∧ Aside0 (Below w.heap.size w wc))
    case first => as_aux_lemma =>
      have hlt := HLT.out
      have heq := HEQ.out
      clear HLT HEQ HNX
      have : n = 0 ∨ n = 1 ∨ n = 2 ∨ n = 3 ∨ n = 4 ∨ n = 5 ∨ n = 6 := by omega
      clear CP CR HD HM HS
      rcases this with rfl | rfl | rfl | rfl | rfl | rfl | rfl
      · skip
        clear hlt
        simp only [Nat.reduceMul, Nat.reduceAdd] at heq
        have g := bne_of' heq
        go_wp2
        repeat (go_quiet (fail); try go_wp2)
        refine wp_loop_rounds 1 ?_
        rw [rounds_succ]
        go_wp2
        repeat (go_quiet (fail); try go_wp2)
        go_meet
        case rel => exact ⟨by rw [hp]; rfl, ⟨by repeat (first | exact HB3.out | apply pw_below_drewN)⟩⟩
      · skip
        have f0 := hlt 0 (by decide)
        simp only [Nat.reduceMul, Nat.reduceAdd] at f0
        have g0 := bne_of f0
        clear hlt
        simp only [Nat.reduceMul, Nat.reduceAdd] at heq
        have g := bne_of' heq
        go_wp2
        repeat (go_quiet (fail); try go_wp2)
        refine wp_loop_rounds 2 ?_
        rw [rounds_succ]
        go_wp2
        repeat (go_quiet (fail); try go_wp2)
        rw [rounds_succ]
        go_wp2
        repeat (go_quiet (fail); try go_wp2)
        go_meet
        case rel => exact ⟨by rw [hp]; rfl, ⟨by repeat (first | exact HB3.out | apply pw_below_drewN)⟩⟩
      · skip
        have f0 := hlt 0 (by decide)
        simp only [Nat.reduceMul, Nat.reduceAdd] at f0
        have g0 := bne_of f0
        have f1 := hlt 1 (by decide)
        simp only [Nat.reduceMul, Nat.reduceAdd] at f1
        have g1 := bne_of f1
        clear hlt
        simp only [Nat.reduceMul, Nat.reduceAdd] at heq
        have g := bne_of' heq
        go_wp2
        repeat (go_quiet (fail); try go_wp2)
        refine wp_loop_rounds 3 ?_
        rw [rounds_succ]
        go_wp2
        repeat (go_quiet (fail); try go_wp2)
        rw [rounds_succ]
        go_wp2
        repeat (go_quiet (fail); try go_wp2)
        rw [rounds_succ]
        go_wp2
        repeat (go_quiet (fail); try go_wp2)
        go_meet
        case rel => exact ⟨by rw [hp]; rfl, ⟨by repeat (first | exact HB3.out | apply pw_below_drewN)⟩⟩
      · skip
        have f0 := hlt 0 (by decide)
        simp only [Nat.reduceMul, Nat.reduceAdd] at f0
        have g0 := bne_of f0
        have f1 := hlt 1 (by decide)
        simp only [Nat.reduceMul, Nat.reduceAdd] at f1
        have g1 := bne_of f1
        have f2 := hlt 2 (by decide)
        simp only [Nat.reduceMul, Nat.reduceAdd] at f2
        have g2 := bne_of f2
        clear hlt
        simp only [Nat.reduceMul, Nat.reduceAdd] at heq
        have g := bne_of' heq
        go_wp2
        repeat (go_quiet (fail); try go_wp2)
        refine wp_loop_rounds 4 ?_
        rw [rounds_succ]
        go_wp2
        repeat (go_quiet (fail); try go_wp2)
        rw [rounds_succ]
        go_wp2
        repeat (go_quiet (fail); try go_wp2)
        rw [rounds_succ]
        go_wp2
        repeat (go_quiet (fail); try go_wp2)
        rw [rounds_succ]
        go_wp2
        repeat (go_quiet (fail); try go_wp2)
        go_meet
        case rel => exact ⟨by rw [hp]; rfl, ⟨by repeat (first | exact HB3.out | apply pw_below_drewN)⟩⟩
      · skip
        have f0 := hlt 0 (by decide)
        simp only [Nat.reduceMul, Nat.reduceAdd] at f0
        have g0 := bne_of f0
        have f1 := hlt 1 (by decide)
        simp only [Nat.reduceMul, Nat.reduceAdd] at f1
        have g1 := bne_of f1
        have f2 := hlt 2 (by decide)
        simp only [Nat.reduceMul, Nat.reduceAdd] at f2
        have g2 := bne_of f2
        have f3 := hlt 3 (by decide)
        simp only [Nat.reduceMul, Nat.reduceAdd] at f3
        have g3 := bne_of f3
        clear hlt
        simp only [Nat.reduceMul, Nat.reduceAdd] at heq
        have g := bne_of' heq
        go_wp2
        repeat (go_quiet (fail); try go_wp2)
        refine wp_loop_rounds 5 ?_
        rw [rounds_succ]
        go_wp2
        repeat (go_quiet (fail); try go_wp2)
        rw [rounds_succ]
        go_wp2
        repeat (go_quiet (fail); try go_wp2)
        rw [rounds_succ]
        go_wp2
        repeat (go_quiet (fail); try go_wp2)
        rw [rounds_succ]
        go_wp2
        repeat (go_quiet (fail); try go_wp2)
        rw [rounds_succ]
        go_wp2
        repeat (go_quiet (fail); try go_wp2)
        go_meet
        case rel => exact ⟨by rw [hp]; rfl, ⟨by repeat (first | exact HB3.out | apply pw_below_drewN)⟩⟩
      · skip
        have f0 := hlt 0 (by decide)
        simp only [Nat.reduceMul, Nat.reduceAdd] at f0
        have g0 := bne_of f0
        have f1 := hlt 1 (by decide)
        simp only [Nat.reduceMul, Nat.reduceAdd] at f1
        have g1 := bne_of f1
        have f2 := hlt 2 (by decide)
        simp only [Nat.reduceMul, Nat.reduceAdd] at f2
        have g2 := bne_of f2
        have f3 := hlt 3 (by decide)
        simp only [Nat.reduceMul, Nat.reduceAdd] at f3
        have g3 := bne_of f3
        have f4 := hlt 4 (by decide)
        simp only [Nat.reduceMul, Nat.reduceAdd] at f4
        have g4 := bne_of f4
        clear hlt
        simp only [Nat.reduceMul, Nat.reduceAdd] at heq
        have g := bne_of' heq
        go_wp2
        repeat (go_quiet (fail); try go_wp2)
        refine wp_loop_rounds 6 ?_
        rw [rounds_succ]
        go_wp2
        repeat (go_quiet (fail); try go_wp2)
        rw [rounds_succ]
        go_wp2
        repeat (go_quiet (fail); try go_wp2)
        rw [rounds_succ]
        go_wp2
        repeat (go_quiet (fail); try go_wp2)
        rw [rounds_succ]
        go_wp2
        repeat (go_quiet (fail); try go_wp2)
        rw [rounds_succ]
        go_wp2
        repeat (go_quiet (fail); try go_wp2)
        rw [rounds_succ]
        go_wp2
        repeat (go_quiet (fail); try go_wp2)
        go_meet
        case rel => exact ⟨by rw [hp]; rfl, ⟨by repeat (first | exact HB3.out | apply pw_below_drewN)⟩⟩
      · skip
        have f0 := hlt 0 (by decide)
        simp only [Nat.reduceMul, Nat.reduceAdd] at f0
        have g0 := bne_of f0
        have f1 := hlt 1 (by decide)
        simp only [Nat.reduceMul, Nat.reduceAdd] at f1
        have g1 := bne_of f1
        have f2 := hlt 2 (by decide)
        simp only [Nat.reduceMul, Nat.reduceAdd] at f2
        have g2 := bne_of f2
        have f3 := hlt 3 (by decide)
        simp only [Nat.reduceMul, Nat.reduceAdd] at f3
        have g3 := bne_of f3
        have f4 := hlt 4 (by decide)
        simp only [Nat.reduceMul, Nat.reduceAdd] at f4
        have g4 := bne_of f4
        have f5 := hlt 5 (by decide)
        simp only [Nat.reduceMul, Nat.reduceAdd] at f5
        have g5 := bne_of f5
        clear hlt
        simp only [Nat.reduceMul, Nat.reduceAdd] at heq
        have g := bne_of' heq
        go_wp2
        repeat (go_quiet (fail); try go_wp2)
        refine wp_loop_rounds 7 ?_
        rw [rounds_succ]
        go_wp2
        repeat (go_quiet (fail); try go_wp2)
        rw [rounds_succ]
        go_wp2
        repeat (go_quiet (fail); try go_wp2)
        rw [rounds_succ]
        go_wp2
        repeat (go_quiet (fail); try go_wp2)
        rw [rounds_succ]
        go_wp2
        repeat (go_quiet (fail); try go_wp2)
        rw [rounds_succ]
        go_wp2
        repeat (go_quiet (fail); try go_wp2)
        rw [rounds_succ]
        go_wp2
        repeat (go_quiet (fail); try go_wp2)
        rw [rounds_succ]
        go_wp2
        repeat (go_quiet (fail); try go_wp2)
        go_meet
        case rel => exact ⟨by rw [hp]; rfl, ⟨by repeat (first | exact HB3.out | apply pw_below_drewN)⟩⟩
    case rest => as_aux_lemma =>
      clear HB3
      obtain ⟨rfl, HB⟩ := hcut
      obtain ⟨e3, e6, b3', b6, b7, hnx⟩ := HNX.out
      have hp21 : (p == 21) = false := beq_eq_false_iff_ne.mpr (by omega)
      have g := bne_of' hnx
      have q1 := eq_true b3'
      have q2 := eq_true b6
      have q3 := eq_true b7
      clear b3' b6 b7 hp
      clear HNX HLT HEQ HAB
      go_upto_region 15 with (fail)
      repeat (go_quiet (fail); go_upto_region 15 with (fail))
      clear hA3 hB3 hp21 g q1 q2 q3 hnx e3 e6 hO sO sB hT' hx
      obtain ⟨_, _, hO4, sO4, hO10, sO10, hO1, sO1, hO36, sO36⟩ := HO.out
      obtain ⟨hD, hD1, hD1', c1, c2, c3, hD2, hD2', c4, c5, c6⟩ := HD.out
      obtain ⟨hM, hM', c7, c8, c9⟩ := HM.out
      obtain ⟨h1, h2, h3, z1, z2, z3, h5, h11, z5, z11⟩ := HS.out
      clear HO HD HM HS
      replace c1 := eq_true c1
      replace c2 := eq_true c2
      replace c3 := eq_true c3
      replace c4 := eq_true c4
      replace c5 := eq_true c5
      replace c6 := eq_true c6
      replace c7 := eq_true c7
      replace c8 := eq_true c8
      replace c9 := eq_true c9
      go_wp2_with fail
      repeat (go_quiet (fail); try go_wp2_with fail)
      refine (CP.out _ (HG.out.below (by repeat (first | exact HB.out | apply pw_below_drewN)))).mono ?_
      rintro e w5 ⟨rfl, hb⟩
      have HB5 := Aside0.mk (below_step (by repeat (first | exact HB.out | apply pw_below_drewN)) hb)
      clear hb HB
      go_wp2_with fail
      repeat (go_quiet (fail); try go_wp2_with fail)
      refine (CR.out _).mono ?_
      rintro e w6 ⟨rfl, hb⟩
      have HB6 := Aside0.mk (below_step (by repeat (first | exact HB5.out | apply pw_below_drewN)) hb)
      clear hb HB5
      go_wp2_with fail
      repeat (go_quiet (fail); try go_wp2_with fail)
      go_ret
      exact ⟨rfl, by repeat (first | exact HB6.out | apply pw_below_drewN)⟩

theorem T1_cut {y mo d h mi s : Int} (t : Tm y mo d h mi s) : (X.bytes (T1 y mo d h mi s (wk y mo d))).extract 0 3 = X.bytes (sd (wk y mo d)) ∧ (X.bytes (T1 y mo d h mi s (wk y mo d))).extract 17 29 = X.bytes (ck h mi s ++ [32, 71, 77, 84]) := by
  obtain ⟨p1, p2, p3, es, _⟩ := sd_three _ (wk0 y mo d)
  obtain ⟨m1, m2, m3', em, _⟩ := m3_three mo t.ok.m0 t.ok.m1
  unfold T1
  rw [es, em, extract_bytes, extract_bytes]
  exact ⟨rfl, rfl⟩
theorem i64_wf {n : Int} (h : (Lit.int .i64 n).wf = true) : -9223372036854775808 ≤ n ∧ n ≤ 9223372036854775807 := by
  simp only [Lit.wf, Bool.and_eq_true, decide_eq_true_eq] at h
  exact h
theorem u8_wf {n : Int} (h : (Lit.int .u8 n).wf = true) : 0 ≤ n ∧ n ≤ 255 := by
  simp only [Lit.wf, Bool.and_eq_true, decide_eq_true_eq] at h
  exact h
theorem beq_no {a b : List UInt8} (h : a ≠ b) : (a == b) = false := beq_eq_false_iff_ne.mpr h
set_option maxHeartbeats 4000000 in
/-- The law's own walk: true for every input. -/
theorem DateDays_walk (a0 : Int) (a1 : Int) (a2 : Int) (w : World) (hG : GL w) (w0 : (Lit.int .i64 a0).wf = true) (w1 : (Lit.int .u8 a1).wf = true) (w2 : (Lit.int .u8 a2).wf = true) :
    Calls Tryd.prog 6 #[.int .i64 a0, .int .u8 a1, .int .u8 a2] w fun e w' => e = .returned (.bool true) ∧ Below w.heap.size w w' := by
  have b0 := i64_wf w0
  have b1 := u8_wf w1
  have b2 := u8_wf w2
  obtain ⟨T, hT0, hT1, hT⟩ : ∃ T : Int, 0 ≤ T ∧ T < 253393660799 ∧ ((0 ≤ a0 ∧ Int.tmod a0 253393660799 = T) ∨ (a0 < 0 ∧ Int.tmod (wrap64 (-(wrap64 (a0 + 1)))) 253393660799 = T)) := by
    by_cases c : 0 ≤ a0
    · exact ⟨a0 % 253393660799, by omega, by omega, .inl ⟨c, Int.tmod_eq_emod_of_nonneg c⟩⟩
    · have e1 : wrap64 (a0 + 1) = a0 + 1 := w64 (by omega) (by omega)
      have e2 : wrap64 (-(a0 + 1)) = -(a0 + 1) := w64 (by omega) (by omega)
      exact ⟨(-(a0 + 1)) % 253393660799, by omega, by omega, .inr ⟨by omega, by rw [e1, e2]; exact Int.tmod_eq_emod_of_nonneg (by omega)⟩⟩
  obtain ⟨y, mo, d, t, hs, hn, _⟩ := parts T hT0 (by omega)
  obtain ⟨y', mo', d', t', hs', hn', _⟩ := parts (T + 86400) (by omega) (by omega)
  rw [show (T + 86400) % 86400 = T % 86400 by omega, show (T + 86400) % 60 = T % 60 by omega] at t' hs'
  generalize hh : T % 86400 / 3600 = h at t t' hs hs'
  generalize hmi : T % 86400 / 60 % 60 = mi at t t' hs hs'
  generalize hsc : T % 60 = sc at t t' hs hs'
  have hA := text_ev t (x := T) (by rw [hs]; exact cl_id hT0 (by omega))
  have hB := text_ev t' (x := T + 86400) (by rw [hs']; exact cl_id (by omega) (by omega))
  obtain ⟨cA3, cA17⟩ := T1_cut t
  obtain ⟨cB3, cB17⟩ := T1_cut t'
  have lA : (X.bytes (T1 y mo d h mi sc (wk y mo d))).size = 29 := T1_len t
  have lB : (X.bytes (T1 y' mo' d' h mi sc (wk y' mo' d'))).size = 29 := T1_len t'
  have hw := wk0 y mo d
  have hw' : wk y' mo' d' = (wk y mo d + 1) % 7 := by unfold wk; rw [hn, hn']; omega
  generalize X.bytes (T1 y mo d h mi sc (wk y mo d)) = A at hA cA3 cA17 lA
  generalize X.bytes (T1 y' mo' d' h mi sc (wk y' mo' d')) = B at hB cB3 cB17 lB
  obtain ⟨n, en⟩ := Int.eq_ofNat_of_zero_le hw.1
  have hn7 : n < 7 := by omega
  have eD : wrap64 (Int.tmod a1 40) = a1 % 40 := by rw [Int.tmod_eq_emod_of_nonneg b1.1]; exact w64 (by omega) (by omega)
  have eD1 : wrap64 (Int.tdiv (a1 % 40) 10) = a1 % 40 / 10 := by rw [Int.tdiv_eq_ediv_of_nonneg (by omega)]; exact w64 (by omega) (by omega)
  have eD1' : wrap64 (a1 % 40 / 10 + 1) = a1 % 40 / 10 + 1 := w64 (by omega) (by omega)
  have eD2 : Int.tmod (a1 % 40) 10 = a1 % 40 % 10 := Int.tmod_eq_emod_of_nonneg (by omega)
  have eD2' : wrap64 (a1 % 40 % 10 + 1) = a1 % 40 % 10 + 1 := w64 (by omega) (by omega)
  have eM : wrap64 (3 * (wrap64 (Int.tmod a2 12))) = 3 * (a2 % 12) := by rw [Int.tmod_eq_emod_of_nonneg b2.1, w64 (x := a2 % 12) (by omega) (by omega)]; exact w64 (by omega) (by omega)
  have eM' : wrap64 (3 * (a2 % 12) + 3) = 3 * (a2 % 12) + 3 := w64 (by omega) (by omega)
  have e3 : wrap64 ((3 * n : Nat) + 3 : Int) = (3 * n : Nat) + 3 := w64 (by omega) (by omega)
  have e6 : wrap64 ((3 * n : Nat) + 6 : Int) = (3 * n : Nat) + 6 := w64 (by omega) (by omega)
  obtain ⟨r, hP, hR⟩ := both_r (A.extract 0 5 ++ (⟨#[48, 49, 50, 51]⟩ : ByteArray).extract (a1 % 40 / 10).toNat (a1 % 40 / 10 + 1).toNat ++ (⟨#[48, 49, 50, 51, 52, 53, 54, 55, 56, 57]⟩ : ByteArray).extract (a1 % 40 % 10).toNat (a1 % 40 % 10 + 1).toNat ++ (⟨#[32]⟩ : ByteArray) ++ (⟨#[74, 97, 110, 70, 101, 98, 77, 97, 114, 65, 112, 114, 77, 97, 121, 74, 117, 110, 74, 117, 108, 65, 117, 103, 83, 101, 112, 79, 99, 116, 78, 111, 118, 68, 101, 99]⟩ : ByteArray).extract (3 * (a2 % 12)).toNat (3 * (a2 % 12) + 3).toNat ++ A.extract 11 29) (by
    simp only [ByteArray.size_append, ByteArray.size_extract]
    have z1 : (⟨#[32]⟩ : ByteArray).size = 1 := rfl
    omega)
  obtain ⟨k0, hk⟩ := known_ev
  obtain ⟨k1, hA⟩ := hA
  obtain ⟨k2, hB⟩ := hB
  obtain ⟨k3, hP⟩ := hP
  obtain ⟨k4, hR⟩ := hR
  have q0 := hk (k0 + k1 + k2 + k3 + k4) (by omega)
  have q1 := hA (k0 + k1 + k2 + k3 + k4) (by omega)
  have q2 := hB (k0 + k1 + k2 + k3 + k4) (by omega)
  have q3 := hP (k0 + k1 + k2 + k3 + k4) (by omega)
  have q4 := hR (k0 + k1 + k2 + k3 + k4) (by omega)
  simp only at q0 q1 q2 q3 q4
  have oL : (⟨#[83, 117, 110, 77, 111, 110, 84, 117, 101, 87, 101, 100, 84, 104, 117, 70, 114, 105, 83, 97, 116, 83, 117, 110]⟩ : ByteArray) = X.bytes ordL := rfl
  have s4 : (⟨#[48, 49, 50, 51]⟩ : ByteArray).size = 4 := rfl
  have s10 : (⟨#[48, 49, 50, 51, 52, 53, 54, 55, 56, 57]⟩ : ByteArray).size = 10 := rfl
  have s36 : (⟨#[74, 97, 110, 70, 101, 98, 77, 97, 114, 65, 112, 114, 77, 97, 121, 74, 117, 110, 74, 117, 108, 65, 117, 103, 83, 101, 112, 79, 99, 116, 78, 111, 118, 68, 101, 99]⟩ : ByteArray).size = 36 := rfl
  refine days_core _ a0 a1 a2 T (T + 86400) A B (X.bytes ordL) _ _ _ _ _ _ _ _ _ _ _ _ _ _ _ _ ((3 * n : Nat) : Int) _ _ r.1 r.2 n w hG hn7 q0 q1 q2 q3 q4 hT (w64 (by omega) (by omega)) lA lB (cB17.trans cA17.symm) _ _ cA3 cB3
    ?_ ?_ (by omega) e3 e6 (by omega) (by omega) (by omega) ?_ eD eD1 eD1' (by omega) (by omega) (by omega) eD2 eD2' (by omega) (by omega) (by omega) eM eM' (by omega) (by omega) (by omega) rfl rfl rfl ?_ ?_ ?_ rfl rfl ?_ ?_ oL rfl rfl rfl rfl
  · intro j hj
    rw [ord_at j (by omega), bytes_toList]
    refine beq_no (sd_ne (by omega) hw ?_)
    omega
  · rw [ord_at n (by omega), bytes_toList, en, show ((n : Int) % 7) = n by omega]
    simp
  · rw [show ((3 * n : Nat) + 3 : Int).toNat = 3 * (n + 1) by omega, show ((3 * n : Nat) + 6 : Int).toNat = 3 * (n + 1) + 3 by omega, ord_at (n + 1) (by omega), bytes_toList, hw', en]
    simp
  · rw [ByteArray.size_extract, s4]; omega
  · rw [ByteArray.size_extract, s10]; omega
  · rw [ByteArray.size_extract, s36]; omega
  · rw [ByteArray.size_extract, lA]; rfl
  · rw [ByteArray.size_extract, lA]; rfl
end Go.Proofs.YtcejglmmjbmafaaDoor.Pure
