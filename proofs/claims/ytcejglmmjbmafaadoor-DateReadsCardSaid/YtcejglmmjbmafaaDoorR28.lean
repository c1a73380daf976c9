/- Words and walks, joined by a program. -/
import Derived.Test.YtcejglmmjbmafaaDoorR22
import Derived.Test.YtcejglmmjbmafaaDoorR27
import Derived.RowKit
/- The document's reader of dates, Parse: the walks of its first two forms (the regions that draw are the print's; see wip/gen_ref2.py). -/
namespace Go.Proofs.YtcejglmmjbmafaaDoor.X
open Go.RowKit Go.Proofs.YtcejglmmjbmafaaDoorW.PrintWords Go.Proofs.YtcejglmmjbmafaaDoorW.PrintLast Go.Proofs.YtcejglmmjbmafaaDoorW.PrintMore
set_option linter.unusedVariables false
set_option linter.unusedSimpArgs false

def RefW.T5 : Bool × List (List Nat × List Nat) := (true, [([], []), ([], []), ([1], [1]), ([0, 2, 0], [0, 2]), ([], []), ([3], []), ([], []), ([6], [6]), ([5, 7, 5], [5, 7]), ([], []), ([], []), ([10], [10]), ([3, 4, 8, 9, 11, 8], [3, 4, 8, 9, 11]), ([12], [12]), ([12], [12]), ([13, 12, 0, 1, 2, 3, 4, 5, 6, 7, 8, 9, 10, 11, 12, 13, 14], [13]), ([14, 15, 0, 1, 2, 3, 4, 5, 6, 7, 8, 9, 10, 11, 12, 13, 14, 15], [14])])
def RefW.B5 : List Nat := [0, 0, 2, 7, 0, 15, 0, 64, 239, 0, 0, 1024, 4095, 8191, 8191, 32767, 65535]
theorem RefW.tab5 : rtab .any (opsOf Tryd.f12 5) = RefW.T5 := by kernel_rfl
theorem RefW.bits5 : waitsOk RefW.T5.2 RefW.B5 = true := by kernel_rfl
def RefW.T16 : Bool × List (List Nat × List Nat) := (true, [([], []), ([], []), ([1], [1]), ([0, 2, 0], [0, 2]), ([], []), ([3], []), ([], []), ([6], [6]), ([5, 7, 5], [5, 7]), ([], []), ([], []), ([10], [10]), ([3, 4, 8, 9, 11, 8], [3, 4, 8, 9, 11]), ([12], [12]), ([12], [12]), ([13, 12, 0, 1, 2, 3, 4, 5, 6, 7, 8, 9, 10, 11, 12, 13, 14], [13]), ([14, 15, 0, 1, 2, 3, 4, 5, 6, 7, 8, 9, 10, 11, 12, 13, 14, 15], [14])])
def RefW.B16 : List Nat := [0, 0, 2, 7, 0, 15, 0, 64, 239, 0, 0, 1024, 4095, 8191, 8191, 32767, 65535]
theorem RefW.tab16 : rtab .any (opsOf Tryd.f12 16) = RefW.T16 := by kernel_rfl
theorem RefW.bits16 : waitsOk RefW.T16.2 RefW.B16 = true := by kernel_rfl
def RefW.T31 : Bool × List (List Nat × List Nat) := (true, [([], []), ([], []), ([], []), ([], []), ([3], [3]), ([2, 4, 2], [2, 4]), ([], []), ([], []), ([7], [7]), ([0, 1, 5, 6, 8, 5], [0, 1, 5, 6, 8]), ([9], [9]), ([9], [9]), ([10, 9, 0, 1, 2, 3, 4, 5, 6, 7, 8, 9, 10, 11], [10]), ([11, 12, 0, 1, 2, 3, 4, 5, 6, 7, 8, 9, 10, 11, 12], [11])])
def RefW.B31 : List Nat := [0, 0, 0, 0, 8, 28, 0, 0, 128, 511, 1023, 1023, 4095, 8191]
theorem RefW.tab31 : rtab .any (opsOf Tryd.f12 31) = RefW.T31 := by kernel_rfl
theorem RefW.bits31 : waitsOk RefW.T31.2 RefW.B31 = true := by kernel_rfl
theorem slice_of {w : World} {base : Nat} {v : Value} {r : List ByteArray} (h : Kd.R Kd.string 9 w base (fun _ => True) v r) :
    ∃ A c, v = .slice A r.length c ∧ Kd.C Kd.string w A r.length r ∧ r.length ≤ c := by
  obtain ⟨A, c, e⟩ := Kd.R_slice h
  subst e
  exact ⟨A, c, rfl, (Kd.R_reads' h).2.2, (Kd.R_reads' h).2.1⟩

set_option maxRecDepth 100000 in
set_option maxHeartbeats 100000000 in
theorem ref_form1 (k : Nat) (a : ByteArray) (r1 r2 : Int) (w : World) (hg : G1 a = true) (h : rform1 k a = some (r1, r2)) :
    Calls Tryd.prog 12 #[.string a] w fun e w' => e = .returned (.tuple #[.int .i64 r1, .int .i64 r2]) ∧ Below w.heap.size w w' := by
  simp only [G1, Bool.and_eq_true, decide_eq_true_eq] at hg
  obtain ⟨hs, f3, b7, b11, b16, f25⟩ := hg
  rw [hs] at f25
  have x7 : ∀ h : 7 < a.size, ((a[7]'h).toNat : Int) = 32 := fun h => (bt_at a 7 h).trans (beq_iff_eq.mp b7)
  have x11 : ∀ h : 11 < a.size, ((a[11]'h).toNat : Int) = 32 := fun h => (bt_at a 11 h).trans (beq_iff_eq.mp b11)
  have x16 : ∀ h : 16 < a.size, ((a[16]'h).toNat : Int) = 32 := fun h => (bt_at a 16 h).trans (beq_iff_eq.mp b16)
  clear b7 b11 b16
  simp only [rform1, rparts] at h
  obtain ⟨⟨d, p⟩, h1, h⟩ := Option.bind_eq_some_iff.mp h
  obtain ⟨⟨y, q⟩, h2, h3⟩ := Option.bind_eq_some_iff.mp h
  clear h
  simp only at h3
  have C1 := Lib.hid (fun W => ambryref9_digits.calls k _ d p W h1)
  have C2 := Lib.hid (fun W => ambryref9_digits.calls k _ y q W h2)
  have H := Lib.hid h3
  clear h1 h2 h3
  go_enter Tryd.func12, Tryd.ntmps12
  go_wp2_with fail
  with_reducible refine (C1.out _).mono ?_
  rintro e w1 ⟨rfl, hd⟩
  have HB1 := Lib.hid hd.below
  clear hd
  go_wp2_with fail
  with_reducible refine (C2.out _).mono ?_
  rintro e w2 ⟨rfl, hd⟩
  have HB := Aside0.mk (below_step HB1.out hd.below)
  clear hd
  cases p with
  | false =>
    have h := H.out
    clear H
    simp only [Bool.false_eq_true, false_and, if_false] at h
    obtain ⟨rfl, rfl⟩ := Prod.mk.inj (Option.some.inj h)
    clear h
    go_wp2_with fail
    go_ret2
    exact ⟨rfl, HB.out⟩
  | true =>
    cases q with
    | false =>
      have h := H.out
      clear H
      simp only [Bool.false_eq_true, and_false, if_false] at h
      obtain ⟨rfl, rfl⟩ := Prod.mk.inj (Option.some.inj h)
      clear h
      go_wp2_with fail
      go_ret2
      exact ⟨rfl, HB.out⟩
    | true =>
      have h := H.out
      clear H
      simp only [and_self, if_true] at h
      obtain ⟨DS, h1, h⟩ := Option.bind_eq_some_iff.mp h
      obtain ⟨II, h2, h⟩ := Option.bind_eq_some_iff.mp h
      obtain ⟨MS, h3, h⟩ := Option.bind_eq_some_iff.mp h
      obtain ⟨JJ, h4, h5⟩ := Option.bind_eq_some_iff.mp h
      clear h
      have A27 := Aside0.mk h1
      have A30 := Aside0.mk h2
      have A31 := Aside0.mk h3
      have A34 := Aside0.mk h4
      have A37 := Aside0.mk h5
      clear h1 h2 h3 h4 h5
      go_wp2_with fail
      have n0_ := Aside0.mk (below_drew1 HB.out)
      clear HB
      have HB := n0_
      clear n0_
      refine start_ (n := 17) (S := fun w' => True) (ds := []) #[false, false, false, false, false, false, false, false, false, false, false, false, false, false, false, false, false] (by kernel_rfl) rfl rfl trivial (fun hHeld => ?_); refine with_tabW RefW.tab5 RefW.bits5 (fun HT_ HW_ => ?_)
      generalize w2.drew = w38 at HB hHeld ⊢
      refine pure_ (i := 1) (N := some 65) (v := ?_) (a' := ?_) #[false, true, false, false, false, false, false, false, false, false, false, false, false, false, false, false, false] rfl rfl (any_of HT_.out (by kernel_rfl)) (fun _ _ _ h => h) (Or.inl ⟨by rfl, ?_⟩) ?_ ?_
      rotate_left
      · intro w'
        go_simp
        with_reducible rfl
      rotate_left
      · simp only [Act.put, List.setIfInBounds_toArray, List.set_cons_zero, List.set_cons_succ, i64_w, i32_w]
        rfl
      refine pure_ (i := 2) (N := some 66) (v := ?_) (a' := ?_) #[false, true, true, false, false, false, false, false, false, false, false, false, false, false, false, false, false] rfl rfl (any_of HT_.out (by kernel_rfl)) (fun _ _ _ h => h) (Or.inl ⟨by rfl, ?_⟩) ?_ ?_
      rotate_left
      · intro w'
        go_simp
        with_reducible rfl
      rotate_left
      · simp only [Act.put, List.setIfInBounds_toArray, List.set_cons_zero, List.set_cons_succ, i64_w, i32_w]
        rfl
      refine pure_ (i := 4) (N := some 68) (v := ?_) (a' := ?_) #[false, true, true, false, true, false, false, false, false, false, false, false, false, false, false, false, false] rfl rfl (any_of HT_.out (by kernel_rfl)) (fun _ _ _ h => h) (Or.inl ⟨by rfl, ?_⟩) ?_ ?_
      rotate_left
      · intro w'
        go_simp
        with_reducible rfl
      rotate_left
      · simp only [Act.put, List.setIfInBounds_toArray, List.set_cons_zero, List.set_cons_succ, i64_w, i32_w]
        rfl
      refine pure_ (i := 6) (N := some 70) (v := ?_) (a' := ?_) #[false, true, true, false, true, false, true, false, false, false, false, false, false, false, false, false, false] rfl rfl (any_of HT_.out (by kernel_rfl)) (fun _ _ _ h => h) (Or.inl ⟨by rfl, ?_⟩) ?_ ?_
      rotate_left
      · intro w'
        go_simp
        with_reducible rfl
      rotate_left
      · simp only [Act.put, List.setIfInBounds_toArray, List.set_cons_zero, List.set_cons_succ, i64_w, i32_w]
        rfl
      refine pure_ (i := 7) (N := some 71) (v := ?_) (a' := ?_) #[false, true, true, false, true, false, true, true, false, false, false, false, false, false, false, false, false] rfl rfl (any_of HT_.out (by kernel_rfl)) (fun _ _ _ h => h) (Or.inl ⟨by rfl, ?_⟩) ?_ ?_
      rotate_left
      · intro w'
        go_simp
        with_reducible rfl
      rotate_left
      · simp only [Act.put, List.setIfInBounds_toArray, List.set_cons_zero, List.set_cons_succ, i64_w, i32_w]
        rfl
      refine pure_ (i := 9) (N := some 73) (v := ?_) (a' := ?_) #[false, true, true, false, true, false, true, true, false, true, false, false, false, false, false, false, false] rfl rfl (any_of HT_.out (by kernel_rfl)) (fun _ _ _ h => h) (Or.inl ⟨by rfl, ?_⟩) ?_ ?_
      rotate_left
      · intro w'
        go_simp
        with_reducible rfl
      rotate_left
      · simp only [Act.put, List.setIfInBounds_toArray, List.set_cons_zero, List.set_cons_succ, i64_w, i32_w]
        rfl
      refine pure_ (i := 10) (N := some 74) (v := ?_) (a' := ?_) #[false, true, true, false, true, false, true, true, false, true, true, false, false, false, false, false, false] rfl rfl (any_of HT_.out (by kernel_rfl)) (fun _ _ _ h => h) (Or.inl ⟨by rfl, ?_⟩) ?_ ?_
      rotate_left
      · intro w'
        go_simp
        with_reducible rfl
      rotate_left
      · simp only [Act.put, List.setIfInBounds_toArray, List.set_cons_zero, List.set_cons_succ, i64_w, i32_w]
        rfl
      refine pure_ (i := 11) (N := some 75) (v := ?_) (a' := ?_) #[false, true, true, false, true, false, true, true, false, true, true, true, false, false, false, false, false] rfl rfl (any_of HT_.out (by kernel_rfl)) (fun _ _ _ h => h) (Or.inl ⟨by rfl, ?_⟩) ?_ ?_
      rotate_left
      · intro w'
        go_simp
        with_reducible rfl
      rotate_left
      · simp only [Act.put, List.setIfInBounds_toArray, List.set_cons_zero, List.set_cons_succ, i64_w, i32_w]
        rfl
      refine one_ (i := 0) (N := some 64) #[true, true, true, false, true, false, true, true, false, true, true, true, false, false, false, false, false] rfl rfl (one_of HT_.out (by kernel_rfl)) (by decide) (fun K hK => ?_)
      refine goes_ Tryd.func25 (by kernel_rfl) rfl #[] (by rfl) rfl rfl (by (try simp only [List.map_toArray, List.map_cons, List.map_nil]); first | done | rfl | (simp only [List.length_drop, List.length_take]; rfl)) ?_
      with_reducible refine (ambryref9_days.calls  DS _ A27.out).mono ?_
      rintro e w39 ⟨v247, rfl, ho0, hb⟩
      refine ⟨_, rfl, ?_⟩
      have n0_ := Aside0.mk (Kd.R_lower ho0 (below_size (by repeat (first | (with_reducible first | exact HB.out | apply below_alloc | apply pw_below_drewN | apply below_drew1) | exact HB.out))))
      have n1_ := Aside0.mk (below_step (by repeat (first | (with_reducible first | exact HB.out | apply below_alloc | apply pw_below_drewN | apply below_drew1) | exact HB.out)) hb)
      clear HB
      have HO248 := n0_
      have HB := n1_
      clear n0_ n1_
      (try clear hb)
      (try clear hb2)
      (try clear hk)
      (try clear hi)
      (try clear ho0)
      obtain ⟨Ao40, co40, eo40⟩ := Kd.R_slice HO248.out
      (first | subst eo40 | (injection eo40 with f1_ f2_ f3_; have f4_ := f1_.symm; have f5_ := f3_.symm; clear f1_ f2_ f3_; subst f4_; subst f5_))
      refine hK.out _ _ trivial (fun hHeld => ?_)
      clear hK K
      refine norm_ (a' := ?_) ?_ ?_
      rotate_left
      · show Act.put _ (some 64) _ = _
        simp only [Act.put, List.setIfInBounds_toArray, List.set_cons_zero, List.set_cons_succ, i64_w, i32_w]
        rfl
      refine one_ (i := 3) (N := some 67) #[true, true, true, true, true, false, true, true, false, true, true, true, false, false, false, false, false] rfl rfl (one_of HT_.out (by kernel_rfl)) (by decide) (fun K hK => ?_)
      refine goes_ Tryd.func30 (by kernel_rfl) rfl #[.slice Ao40 DS.length co40, .string (a.extract 0 3)] (by rfl) rfl rfl (by (try simp only [List.map_toArray, List.map_cons, List.map_nil]); first | done | rfl | (simp only [List.length_drop, List.length_take]; rfl)) ?_
      with_reducible refine (ambryref9_index.calls k _ _ DS (a.extract 0 3) II _ ?side1 ?side2 A30.out).mono ?_
      (case side1 => repeat (first | exact (Kd.R_reads' HO248.out).2.2 | (with_reducible refine Kd.C_alloc ?_ _) | (with_reducible refine Kd.C_drewN ?_ _) | (with_reducible refine Kd.C_drew ?_)))
      (case side2 => exact (Kd.R_reads' HO248.out).2.1)
      rintro e w' ⟨rfl, ⟨nd, rfl⟩⟩
      refine ⟨_, rfl, ?_⟩
      refine hK.out _ _ trivial (fun hHeld => ?_)
      clear hK K
      refine norm_ (a' := ?_) ?_ ?_
      rotate_left
      · show Act.put _ (some 67) _ = _
        simp only [Act.put, List.setIfInBounds_toArray, List.set_cons_zero, List.set_cons_succ, i64_w, i32_w]
        rfl
      refine one_ (i := 5) (N := some 69) #[true, true, true, true, true, true, true, true, false, true, true, true, false, false, false, false, false] rfl rfl (one_of HT_.out (by kernel_rfl)) (by decide) (fun K hK => ?_)
      refine goes_ Tryd.func27 (by kernel_rfl) rfl #[] (by rfl) rfl rfl (by (try simp only [List.map_toArray, List.map_cons, List.map_nil]); first | done | rfl | (simp only [List.length_drop, List.length_take]; rfl)) ?_
      with_reducible refine (ambryref9_months.calls  MS _ A31.out).mono ?_
      rintro e w41 ⟨v251, rfl, ho0, hb⟩
      refine ⟨_, rfl, ?_⟩
      have n0_ := Aside0.mk (Kd.R_elder' (by (with_reducible repeat (first | apply Kd.R_alloc | apply Kd.R_drewN | apply Kd.R_drew)); exact HO248.out) (Kd.R_base ho0) hb)
      have n1_ := Aside0.mk (Kd.R_lower (Kd.R_new' ho0 (Kd.R_lt (by (with_reducible repeat (first | apply Kd.R_alloc | apply Kd.R_drewN | apply Kd.R_drew)); exact HO248.out))) (below_size (by repeat (first | (with_reducible first | exact HB.out | apply below_alloc | apply pw_below_drewN | apply below_drew1) | exact HB.out))))
      have n2_ := Aside0.mk (below_step (by repeat (first | (with_reducible first | exact HB.out | apply below_alloc | apply pw_below_drewN | apply below_drew1) | exact HB.out)) hb)
      clear HO248
      clear HB
      have HO248 := n0_
      have HO252 := n1_
      have HB := n2_
      clear n0_ n1_ n2_
      (try clear hb)
      (try clear hb2)
      (try clear hk)
      (try clear hi)
      (try clear ho0)
      obtain ⟨Ao42, co42, eo42⟩ := Kd.R_slice HO252.out
      (first | subst eo42 | (injection eo42 with f1_ f2_ f3_; have f4_ := f1_.symm; have f5_ := f3_.symm; clear f1_ f2_ f3_; subst f4_; subst f5_))
      refine hK.out _ _ trivial (fun hHeld => ?_)
      clear hK K
      refine norm_ (a' := ?_) ?_ ?_
      rotate_left
      · show Act.put _ (some 69) _ = _
        simp only [Act.put, List.setIfInBounds_toArray, List.set_cons_zero, List.set_cons_succ, i64_w, i32_w]
        rfl
      refine one_ (i := 8) (N := some 72) #[true, true, true, true, true, true, true, true, true, true, true, true, false, false, false, false, false] rfl rfl (one_of HT_.out (by kernel_rfl)) (by decide) (fun K hK => ?_)
      refine goes_ Tryd.func30 (by kernel_rfl) rfl #[.slice Ao42 MS.length co42, .string (a.extract 8 11)] (by rfl) rfl rfl (by (try simp only [List.map_toArray, List.map_cons, List.map_nil]); first | done | rfl | (simp only [List.length_drop, List.length_take]; rfl)) ?_
      with_reducible refine (ambryref9_index.calls k _ _ MS (a.extract 8 11) JJ _ ?side1 ?side2 A34.out).mono ?_
      (case side1 => repeat (first | exact (Kd.R_reads' HO252.out).2.2 | (with_reducible refine Kd.C_alloc ?_ _) | (with_reducible refine Kd.C_drewN ?_ _) | (with_reducible refine Kd.C_drew ?_)))
      (case side2 => exact (Kd.R_reads' HO252.out).2.1)
      rintro e w' ⟨rfl, ⟨nd, rfl⟩⟩
      refine ⟨_, rfl, ?_⟩
      refine hK.out _ _ trivial (fun hHeld => ?_)
      clear hK K
      refine norm_ (a' := ?_) ?_ ?_
      rotate_left
      · show Act.put _ (some 72) _ = _
        simp only [Act.put, List.setIfInBounds_toArray, List.set_cons_zero, List.set_cons_succ, i64_w, i32_w]
        rfl
      refine one_ (i := 12) (N := some 76) #[true, true, true, true, true, true, true, true, true, true, true, true, true, false, false, false, false] rfl rfl (one_of HT_.out (by kernel_rfl)) (by decide) (fun K hK => ?_)
      refine goes_ Tryd.func29 (by kernel_rfl) rfl #[.int .i64 II, .int .i64 y, .int .i64 JJ, .int .i64 d, .string (a.extract 17 25)] (by rfl) rfl rfl (by (try simp only [List.map_toArray, List.map_cons, List.map_nil]); first | done | rfl | (simp only [List.length_drop, List.length_take]; rfl)) ?_
      with_reducible refine (ambryref9_made.calls k II y JJ d (a.extract 17 25) r1 r2 _ A37.out).mono ?_
      rintro e w43 ⟨rfl, hb⟩
      refine ⟨_, rfl, ?_⟩
      have n0_ := Aside0.mk (Kd.R_below (by (with_reducible repeat (first | apply Kd.R_alloc | apply Kd.R_drewN | apply Kd.R_drew)); exact HO248.out) hb)
      have n1_ := Aside0.mk (Kd.R_below (by (with_reducible repeat (first | apply Kd.R_alloc | apply Kd.R_drewN | apply Kd.R_drew)); exact HO252.out) hb)
      have n2_ := Aside0.mk (below_step (by repeat (first | (with_reducible first | exact HB.out | apply below_alloc | apply pw_below_drewN | apply below_drew1) | exact HB.out)) hb)
      clear HO248
      clear HO252
      clear HB
      have HO248 := n0_
      have HO252 := n1_
      have HB := n2_
      clear n0_ n1_ n2_
      (try clear hb)
      (try clear hb2)
      (try clear hk)
      (try clear hi)
      refine hK.out _ _ trivial (fun hHeld => ?_)
      clear hK K
      refine norm_ (a' := ?_) ?_ ?_
      rotate_left
      · show Act.put _ (some 76) _ = _
        simp only [Act.put, List.setIfInBounds_toArray, List.set_cons_zero, List.set_cons_succ, i64_w, i32_w]
        rfl
      refine pure_ (i := 13) (N := some 77) (v := ?_) (a' := ?_) #[true, true, true, true, true, true, true, true, true, true, true, true, true, true, false, false, false] rfl rfl (any_of HT_.out (by kernel_rfl)) (fun _ _ _ h => h) (Or.inl ⟨by rfl, ?_⟩) ?_ ?_
      rotate_left
      · intro w'
        go_simp
        with_reducible rfl
      rotate_left
      · simp only [Act.put, List.setIfInBounds_toArray, List.set_cons_zero, List.set_cons_succ, i64_w, i32_w]
        rfl
      refine pure_ (i := 14) (N := some 78) (v := ?_) (a' := ?_) #[true, true, true, true, true, true, true, true, true, true, true, true, true, true, true, false, false] rfl rfl (any_of HT_.out (by kernel_rfl)) (fun _ _ _ h => h) (Or.inl ⟨by rfl, ?_⟩) ?_ ?_
      rotate_left
      · intro w'
        go_simp
        with_reducible rfl
      rotate_left
      · simp only [Act.put, List.setIfInBounds_toArray, List.set_cons_zero, List.set_cons_succ, i64_w, i32_w]
        rfl
      refine pure_ (i := 15) (N := some 2) (v := ?_) (a' := ?_) #[true, true, true, true, true, true, true, true, true, true, true, true, true, true, true, true, false] rfl rfl (any_of HT_.out (by kernel_rfl)) (fun _ _ _ h => h) (Or.inl ⟨by rfl, ?_⟩) ?_ ?_
      rotate_left
      · intro w'
        go_simp
        with_reducible rfl
      rotate_left
      · simp only [Act.put, List.setIfInBounds_toArray, List.set_cons_zero, List.set_cons_succ, i64_w, i32_w]
        rfl
      refine pure_ (i := 16) (N := some 3) (v := ?_) (a' := ?_) #[true, true, true, true, true, true, true, true, true, true, true, true, true, true, true, true, true] rfl rfl (any_of HT_.out (by kernel_rfl)) (fun _ _ _ h => h) (Or.inl ⟨by rfl, ?_⟩) ?_ ?_
      rotate_left
      · intro w'
        go_simp
        with_reducible rfl
      rotate_left
      · simp only [Act.put, List.setIfInBounds_toArray, List.set_cons_zero, List.set_cons_succ, i64_w, i32_w]
        rfl
      refine done_ (done_of HT_.out (by kernel_rfl)) ?_
      try go_wp2
      go_ret2
      exact ⟨by first | rfl | (simp [errW_none, errW_some] <;> rfl) | (simp [*, errW_none, errW_some] <;> rfl), by repeat (first | (with_reducible first | exact HB.out | apply below_alloc | apply pw_below_drewN | apply below_drew1) | exact HB.out)⟩

set_option maxRecDepth 100000 in
set_option maxHeartbeats 100000000 in
theorem ref_form2a (k : Nat) (a : ByteArray) (r1 r2 : Int) (w : World) (hg : G2 a = true) (hb : bt (a.extract 8 10) 0 = 32) (h : rparts k ((a.extract 8 10).extract 1 2) (a.extract 20 a.size) (a.extract 0 3) (a.extract 4 7) (a.extract 11 19) = some (r1, r2)) :
    Calls Tryd.prog 12 #[.string a] w fun e w' => e = .returned (.tuple #[.int .i64 r1, .int .i64 r2]) ∧ Below w.heap.size w w' := by
  simp only [G2, Bool.and_eq_true, decide_eq_true_eq] at hg
  obtain ⟨hs, b3, b7, b10, b19⟩ := hg
  have x3 : ∀ h : 3 < a.size, ((a[3]'h).toNat : Int) = 32 := fun h => (bt_at a 3 h).trans (beq_iff_eq.mp b3)
  have x7 : ∀ h : 7 < a.size, ((a[7]'h).toNat : Int) = 32 := fun h => (bt_at a 7 h).trans (beq_iff_eq.mp b7)
  have x10 : ∀ h : 10 < a.size, ((a[10]'h).toNat : Int) = 32 := fun h => (bt_at a 10 h).trans (beq_iff_eq.mp b10)
  have x19 : ∀ h : 19 < a.size, ((a[19]'h).toNat : Int) = 32 := fun h => (bt_at a 19 h).trans (beq_iff_eq.mp b19)
  clear b3 b7 b10 b19
  have hz : (a.extract 8 10).size = 2 := by simp [hs]
  obtain ⟨e8, he8⟩ : ∃ e, a.extract 8 10 = e := ⟨_, rfl⟩
  rw [he8] at hz
  rw [he8] at h hb
  have x0 : ∀ h : 0 < e8.size, ((e8[0]'h).toNat : Int) = 32 := fun h => (bt_at e8 0 h).trans hb
  clear hb
  simp only [rparts, hs] at h
  obtain ⟨⟨d, p⟩, h1, h⟩ := Option.bind_eq_some_iff.mp h
  obtain ⟨⟨y, q⟩, h2, h3⟩ := Option.bind_eq_some_iff.mp h
  clear h
  simp only at h3
  have C1 := Lib.hid (fun W => ambryref9_digits.calls k _ d p W h1)
  have C2 := Lib.hid (fun W => ambryref9_digits.calls k _ y q W h2)
  have H := Lib.hid h3
  clear h1 h2 h3
  go_enter Tryd.func12, Tryd.ntmps12
  go_wp2_with fail
  with_reducible refine (C1.out _).mono ?_
  rintro e w1 ⟨rfl, hd⟩
  have HB1 := Lib.hid hd.below
  clear hd
  go_wp2_with fail
  with_reducible refine (C2.out _).mono ?_
  rintro e w2 ⟨rfl, hd⟩
  have HB := Aside0.mk (below_step HB1.out hd.below)
  clear hd
  cases p with
  | false =>
    have h := H.out
    clear H
    simp only [Bool.false_eq_true, false_and, if_false] at h
    obtain ⟨rfl, rfl⟩ := Prod.mk.inj (Option.some.inj h)
    clear h
    go_wp2_with fail
    go_ret2
    exact ⟨rfl, HB.out⟩
  | true =>
    cases q with
    | false =>
      have h := H.out
      clear H
      simp only [Bool.false_eq_true, and_false, if_false] at h
      obtain ⟨rfl, rfl⟩ := Prod.mk.inj (Option.some.inj h)
      clear h
      go_wp2_with fail
      go_ret2
      exact ⟨rfl, HB.out⟩
    | true =>
      have h := H.out
      clear H
      simp only [and_self, if_true] at h
      obtain ⟨DS, h1, h⟩ := Option.bind_eq_some_iff.mp h
      obtain ⟨II, h2, h⟩ := Option.bind_eq_some_iff.mp h
      obtain ⟨MS, h3, h⟩ := Option.bind_eq_some_iff.mp h
      obtain ⟨JJ, h4, h5⟩ := Option.bind_eq_some_iff.mp h
      clear h
      have A73 := Aside0.mk h1
      have A76 := Aside0.mk h2
      have A77 := Aside0.mk h3
      have A80 := Aside0.mk h4
      have A83 := Aside0.mk h5
      clear h1 h2 h3 h4 h5
      go_wp2_with fail
      have n0_ := Aside0.mk (below_drew1 HB.out)
      clear HB
      have HB := n0_
      clear n0_
      refine start_ (n := 17) (S := fun w' => True) (ds := []) #[false, false, false, false, false, false, false, false, false, false, false, false, false, false, false, false, false] (by kernel_rfl) rfl rfl trivial (fun hHeld => ?_); refine with_tabW RefW.tab16 RefW.bits16 (fun HT_ HW_ => ?_)
      generalize w2.drew = w84 at HB hHeld ⊢
      refine pure_ (i := 1) (N := some 128) (v := ?_) (a' := ?_) #[false, true, false, false, false, false, false, false, false, false, false, false, false, false, false, false, false] rfl rfl (any_of HT_.out (by kernel_rfl)) (fun _ _ _ h => h) (Or.inl ⟨by rfl, ?_⟩) ?_ ?_
      rotate_left
      · intro w'
        go_simp
        with_reducible rfl
      rotate_left
      · simp only [Act.put, List.setIfInBounds_toArray, List.set_cons_zero, List.set_cons_succ, i64_w, i32_w]
        rfl
      refine pure_ (i := 2) (N := some 129) (v := ?_) (a' := ?_) #[false, true, true, false, false, false, false, false, false, false, false, false, false, false, false, false, false] rfl rfl (any_of HT_.out (by kernel_rfl)) (fun _ _ _ h => h) (Or.inl ⟨by rfl, ?_⟩) ?_ ?_
      rotate_left
      · intro w'
        go_simp
        with_reducible rfl
      rotate_left
      · simp only [Act.put, List.setIfInBounds_toArray, List.set_cons_zero, List.set_cons_succ, i64_w, i32_w]
        rfl
      refine pure_ (i := 4) (N := some 131) (v := ?_) (a' := ?_) #[false, true, true, false, true, false, false, false, false, false, false, false, false, false, false, false, false] rfl rfl (any_of HT_.out (by kernel_rfl)) (fun _ _ _ h => h) (Or.inl ⟨by rfl, ?_⟩) ?_ ?_
      rotate_left
      · intro w'
        go_simp
        with_reducible rfl
      rotate_left
      · simp only [Act.put, List.setIfInBounds_toArray, List.set_cons_zero, List.set_cons_succ, i64_w, i32_w]
        rfl
      refine pure_ (i := 6) (N := some 133) (v := ?_) (a' := ?_) #[false, true, true, false, true, false, true, false, false, false, false, false, false, false, false, false, false] rfl rfl (any_of HT_.out (by kernel_rfl)) (fun _ _ _ h => h) (Or.inl ⟨by rfl, ?_⟩) ?_ ?_
      rotate_left
      · intro w'
        go_simp
        with_reducible rfl
      rotate_left
      · simp only [Act.put, List.setIfInBounds_toArray, List.set_cons_zero, List.set_cons_succ, i64_w, i32_w]
        rfl
      refine pure_ (i := 7) (N := some 134) (v := ?_) (a' := ?_) #[false, true, true, false, true, false, true, true, false, false, false, false, false, false, false, false, false] rfl rfl (any_of HT_.out (by kernel_rfl)) (fun _ _ _ h => h) (Or.inl ⟨by rfl, ?_⟩) ?_ ?_
      rotate_left
      · intro w'
        go_simp
        with_reducible rfl
      rotate_left
      · simp only [Act.put, List.setIfInBounds_toArray, List.set_cons_zero, List.set_cons_succ, i64_w, i32_w]
        rfl
      refine pure_ (i := 9) (N := some 136) (v := ?_) (a' := ?_) #[false, true, true, false, true, false, true, true, false, true, false, false, false, false, false, false, false] rfl rfl (any_of HT_.out (by kernel_rfl)) (fun _ _ _ h => h) (Or.inl ⟨by rfl, ?_⟩) ?_ ?_
      rotate_left
      · intro w'
        go_simp
        with_reducible rfl
      rotate_left
      · simp only [Act.put, List.setIfInBounds_toArray, List.set_cons_zero, List.set_cons_succ, i64_w, i32_w]
        rfl
      refine pure_ (i := 10) (N := some 137) (v := ?_) (a' := ?_) #[false, true, true, false, true, false, true, true, false, true, true, false, false, false, false, false, false] rfl rfl (any_of HT_.out (by kernel_rfl)) (fun _ _ _ h => h) (Or.inl ⟨by rfl, ?_⟩) ?_ ?_
      rotate_left
      · intro w'
        go_simp
        with_reducible rfl
      rotate_left
      · simp only [Act.put, List.setIfInBounds_toArray, List.set_cons_zero, List.set_cons_succ, i64_w, i32_w]
        rfl
      refine pure_ (i := 11) (N := some 138) (v := ?_) (a' := ?_) #[false, true, true, false, true, false, true, true, false, true, true, true, false, false, false, false, false] rfl rfl (any_of HT_.out (by kernel_rfl)) (fun _ _ _ h => h) (Or.inl ⟨by rfl, ?_⟩) ?_ ?_
      rotate_left
      · intro w'
        go_simp
        with_reducible rfl
      rotate_left
      · simp only [Act.put, List.setIfInBounds_toArray, List.set_cons_zero, List.set_cons_succ, i64_w, i32_w]
        rfl
      refine one_ (i := 0) (N := some 127) #[true, true, true, false, true, false, true, true, false, true, true, true, false, false, false, false, false] rfl rfl (one_of HT_.out (by kernel_rfl)) (by decide) (fun K hK => ?_)
      refine goes_ Tryd.func25 (by kernel_rfl) rfl #[] (by rfl) rfl rfl (by (try simp only [List.map_toArray, List.map_cons, List.map_nil]); first | done | rfl | (simp only [List.length_drop, List.length_take]; rfl)) ?_
      with_reducible refine (ambryref9_days.calls  DS _ A73.out).mono ?_
      rintro e w85 ⟨v261, rfl, ho0, hb⟩
      refine ⟨_, rfl, ?_⟩
      have n0_ := Aside0.mk (Kd.R_lower ho0 (below_size (by repeat (first | (with_reducible first | exact HB.out | apply below_alloc | apply pw_below_drewN | apply below_drew1) | exact HB.out))))
      have n1_ := Aside0.mk (below_step (by repeat (first | (with_reducible first | exact HB.out | apply below_alloc | apply pw_below_drewN | apply below_drew1) | exact HB.out)) hb)
      clear HB
      have HO262 := n0_
      have HB := n1_
      clear n0_ n1_
      (try clear hb)
      (try clear hb2)
      (try clear hk)
      (try clear hi)
      (try clear ho0)
      obtain ⟨Ao86, co86, eo86⟩ := Kd.R_slice HO262.out
      (first | subst eo86 | (injection eo86 with f1_ f2_ f3_; have f4_ := f1_.symm; have f5_ := f3_.symm; clear f1_ f2_ f3_; subst f4_; subst f5_))
      refine hK.out _ _ trivial (fun hHeld => ?_)
      clear hK K
      refine norm_ (a' := ?_) ?_ ?_
      rotate_left
      · show Act.put _ (some 127) _ = _
        simp only [Act.put, List.setIfInBounds_toArray, List.set_cons_zero, List.set_cons_succ, i64_w, i32_w]
        rfl
      refine one_ (i := 3) (N := some 130) #[true, true, true, true, true, false, true, true, false, true, true, true, false, false, false, false, false] rfl rfl (one_of HT_.out (by kernel_rfl)) (by decide) (fun K hK => ?_)
      refine goes_ Tryd.func30 (by kernel_rfl) rfl #[.slice Ao86 DS.length co86, .string (a.extract 0 3)] (by rfl) rfl rfl (by (try simp only [List.map_toArray, List.map_cons, List.map_nil]); first | done | rfl | (simp only [List.length_drop, List.length_take]; rfl)) ?_
      with_reducible refine (ambryref9_index.calls k _ _ DS (a.extract 0 3) II _ ?side1 ?side2 A76.out).mono ?_
      (case side1 => repeat (first | exact (Kd.R_reads' HO262.out).2.2 | (with_reducible refine Kd.C_alloc ?_ _) | (with_reducible refine Kd.C_drewN ?_ _) | (with_reducible refine Kd.C_drew ?_)))
      (case side2 => exact (Kd.R_reads' HO262.out).2.1)
      rintro e w' ⟨rfl, ⟨nd, rfl⟩⟩
      refine ⟨_, rfl, ?_⟩
      refine hK.out _ _ trivial (fun hHeld => ?_)
      clear hK K
      refine norm_ (a' := ?_) ?_ ?_
      rotate_left
      · show Act.put _ (some 130) _ = _
        simp only [Act.put, List.setIfInBounds_toArray, List.set_cons_zero, List.set_cons_succ, i64_w, i32_w]
        rfl
      refine one_ (i := 5) (N := some 132) #[true, true, true, true, true, true, true, true, false, true, true, true, false, false, false, false, false] rfl rfl (one_of HT_.out (by kernel_rfl)) (by decide) (fun K hK => ?_)
      refine goes_ Tryd.func27 (by kernel_rfl) rfl #[] (by rfl) rfl rfl (by (try simp only [List.map_toArray, List.map_cons, List.map_nil]); first | done | rfl | (simp only [List.length_drop, List.length_take]; rfl)) ?_
      with_reducible refine (ambryref9_months.calls  MS _ A77.out).mono ?_
      rintro e w87 ⟨v265, rfl, ho0, hb⟩
      refine ⟨_, rfl, ?_⟩
      have n0_ := Aside0.mk (Kd.R_elder' (by (with_reducible repeat (first | apply Kd.R_alloc | apply Kd.R_drewN | apply Kd.R_drew)); exact HO262.out) (Kd.R_base ho0) hb)
      have n1_ := Aside0.mk (Kd.R_lower (Kd.R_new' ho0 (Kd.R_lt (by (with_reducible repeat (first | apply Kd.R_alloc | apply Kd.R_drewN | apply Kd.R_drew)); exact HO262.out))) (below_size (by repeat (first | (with_reducible first | exact HB.out | apply below_alloc | apply pw_below_drewN | apply below_drew1) | exact HB.out))))
      have n2_ := Aside0.mk (below_step (by repeat (first | (with_reducible first | exact HB.out | apply below_alloc | apply pw_below_drewN | apply below_drew1) | exact HB.out)) hb)
      clear HO262
      clear HB
      have HO262 := n0_
      have HO266 := n1_
      have HB := n2_
      clear n0_ n1_ n2_
      (try clear hb)
      (try clear hb2)
      (try clear hk)
      (try clear hi)
      (try clear ho0)
      obtain ⟨Ao88, co88, eo88⟩ := Kd.R_slice HO266.out
      (first | subst eo88 | (injection eo88 with f1_ f2_ f3_; have f4_ := f1_.symm; have f5_ := f3_.symm; clear f1_ f2_ f3_; subst f4_; subst f5_))
      refine hK.out _ _ trivial (fun hHeld => ?_)
      clear hK K
      refine norm_ (a' := ?_) ?_ ?_
      rotate_left
      · show Act.put _ (some 132) _ = _
        simp only [Act.put, List.setIfInBounds_toArray, List.set_cons_zero, List.set_cons_succ, i64_w, i32_w]
        rfl
      refine one_ (i := 8) (N := some 135) #[true, true, true, true, true, true, true, true, true, true, true, true, false, false, false, false, false] rfl rfl (one_of HT_.out (by kernel_rfl)) (by decide) (fun K hK => ?_)
      refine goes_ Tryd.func30 (by kernel_rfl) rfl #[.slice Ao88 MS.length co88, .string (a.extract 4 7)] (by rfl) rfl rfl (by (try simp only [List.map_toArray, List.map_cons, List.map_nil]); first | done | rfl | (simp only [List.length_drop, List.length_take]; rfl)) ?_
      with_reducible refine (ambryref9_index.calls k _ _ MS (a.extract 4 7) JJ _ ?side1 ?side2 A80.out).mono ?_
      (case side1 => repeat (first | exact (Kd.R_reads' HO266.out).2.2 | (with_reducible refine Kd.C_alloc ?_ _) | (with_reducible refine Kd.C_drewN ?_ _) | (with_reducible refine Kd.C_drew ?_)))
      (case side2 => exact (Kd.R_reads' HO266.out).2.1)
      rintro e w' ⟨rfl, ⟨nd, rfl⟩⟩
      refine ⟨_, rfl, ?_⟩
      refine hK.out _ _ trivial (fun hHeld => ?_)
      clear hK K
      refine norm_ (a' := ?_) ?_ ?_
      rotate_left
      · show Act.put _ (some 135) _ = _
        simp only [Act.put, List.setIfInBounds_toArray, List.set_cons_zero, List.set_cons_succ, i64_w, i32_w]
        rfl
      refine one_ (i := 12) (N := some 139) #[true, true, true, true, true, true, true, true, true, true, true, true, true, false, false, false, false] rfl rfl (one_of HT_.out (by kernel_rfl)) (by decide) (fun K hK => ?_)
      refine goes_ Tryd.func29 (by kernel_rfl) rfl #[.int .i64 II, .int .i64 y, .int .i64 JJ, .int .i64 d, .string (a.extract 11 19)] (by rfl) rfl rfl (by (try simp only [List.map_toArray, List.map_cons, List.map_nil]); first | done | rfl | (simp only [List.length_drop, List.length_take]; rfl)) ?_
      with_reducible refine (ambryref9_made.calls k II y JJ d (a.extract 11 19) r1 r2 _ A83.out).mono ?_
      rintro e w89 ⟨rfl, hb⟩
      refine ⟨_, rfl, ?_⟩
      have n0_ := Aside0.mk (Kd.R_below (by (with_reducible repeat (first | apply Kd.R_alloc | apply Kd.R_drewN | apply Kd.R_drew)); exact HO262.out) hb)
      have n1_ := Aside0.mk (Kd.R_below (by (with_reducible repeat (first | apply Kd.R_alloc | apply Kd.R_drewN | apply Kd.R_drew)); exact HO266.out) hb)
      have n2_ := Aside0.mk (below_step (by repeat (first | (with_reducible first | exact HB.out | apply below_alloc | apply pw_below_drewN | apply below_drew1) | exact HB.out)) hb)
      clear HO262
      clear HO266
      clear HB
      have HO262 := n0_
      have HO266 := n1_
      have HB := n2_
      clear n0_ n1_ n2_
      (try clear hb)
      (try clear hb2)
      (try clear hk)
      (try clear hi)
      refine hK.out _ _ trivial (fun hHeld => ?_)
      clear hK K
      refine norm_ (a' := ?_) ?_ ?_
      rotate_left
      · show Act.put _ (some 139) _ = _
        simp only [Act.put, List.setIfInBounds_toArray, List.set_cons_zero, List.set_cons_succ, i64_w, i32_w]
        rfl
      refine pure_ (i := 13) (N := some 140) (v := ?_) (a' := ?_) #[true, true, true, true, true, true, true, true, true, true, true, true, true, true, false, false, false] rfl rfl (any_of HT_.out (by kernel_rfl)) (fun _ _ _ h => h) (Or.inl ⟨by rfl, ?_⟩) ?_ ?_
      rotate_left
      · intro w'
        go_simp
        with_reducible rfl
      rotate_left
      · simp only [Act.put, List.setIfInBounds_toArray, List.set_cons_zero, List.set_cons_succ, i64_w, i32_w]
        rfl
      refine pure_ (i := 14) (N := some 141) (v := ?_) (a' := ?_) #[true, true, true, true, true, true, true, true, true, true, true, true, true, true, true, false, false] rfl rfl (any_of HT_.out (by kernel_rfl)) (fun _ _ _ h => h) (Or.inl ⟨by rfl, ?_⟩) ?_ ?_
      rotate_left
      · intro w'
        go_simp
        with_reducible rfl
      rotate_left
      · simp only [Act.put, List.setIfInBounds_toArray, List.set_cons_zero, List.set_cons_succ, i64_w, i32_w]
        rfl
      refine pure_ (i := 15) (N := some 2) (v := ?_) (a' := ?_) #[true, true, true, true, true, true, true, true, true, true, true, true, true, true, true, true, false] rfl rfl (any_of HT_.out (by kernel_rfl)) (fun _ _ _ h => h) (Or.inl ⟨by rfl, ?_⟩) ?_ ?_
      rotate_left
      · intro w'
        go_simp
        with_reducible rfl
      rotate_left
      · simp only [Act.put, List.setIfInBounds_toArray, List.set_cons_zero, List.set_cons_succ, i64_w, i32_w]
        rfl
      refine pure_ (i := 16) (N := some 3) (v := ?_) (a' := ?_) #[true, true, true, true, true, true, true, true, true, true, true, true, true, true, true, true, true] rfl rfl (any_of HT_.out (by kernel_rfl)) (fun _ _ _ h => h) (Or.inl ⟨by rfl, ?_⟩) ?_ ?_
      rotate_left
      · intro w'
        go_simp
        with_reducible rfl
      rotate_left
      · simp only [Act.put, List.setIfInBounds_toArray, List.set_cons_zero, List.set_cons_succ, i64_w, i32_w]
        rfl
      refine done_ (done_of HT_.out (by kernel_rfl)) ?_
      try go_wp2
      go_ret2
      exact ⟨by first | rfl | (simp [errW_none, errW_some] <;> rfl) | (simp [*, errW_none, errW_some] <;> rfl), by repeat (first | (with_reducible first | exact HB.out | apply below_alloc | apply pw_below_drewN | apply below_drew1) | exact HB.out)⟩

set_option maxRecDepth 100000 in
set_option maxHeartbeats 100000000 in
theorem ref_form2b (k : Nat) (a : ByteArray) (r1 r2 : Int) (w : World) (hg : G2 a = true) (hb : bt (a.extract 8 10) 0 ≠ 32) (hb2 : bt (a.extract 8 10) 0 = 48) (h : some ((0 : Int), (80 : Int)) = some (r1, r2)) :
    Calls Tryd.prog 12 #[.string a] w fun e w' => e = .returned (.tuple #[.int .i64 r1, .int .i64 r2]) ∧ Below w.heap.size w w' := by
  simp only [G2, Bool.and_eq_true, decide_eq_true_eq] at hg
  obtain ⟨hs, b3, b7, b10, b19⟩ := hg
  have x3 : ∀ h : 3 < a.size, ((a[3]'h).toNat : Int) = 32 := fun h => (bt_at a 3 h).trans (beq_iff_eq.mp b3)
  have x7 : ∀ h : 7 < a.size, ((a[7]'h).toNat : Int) = 32 := fun h => (bt_at a 7 h).trans (beq_iff_eq.mp b7)
  have x10 : ∀ h : 10 < a.size, ((a[10]'h).toNat : Int) = 32 := fun h => (bt_at a 10 h).trans (beq_iff_eq.mp b10)
  have x19 : ∀ h : 19 < a.size, ((a[19]'h).toNat : Int) = 32 := fun h => (bt_at a 19 h).trans (beq_iff_eq.mp b19)
  clear b3 b7 b10 b19
  have hz : (a.extract 8 10).size = 2 := by simp [hs]
  obtain ⟨e8, he8⟩ : ∃ e, a.extract 8 10 = e := ⟨_, rfl⟩
  rw [he8] at hz
  rw [he8] at hb2
  have x0 : ∀ h : 0 < e8.size, ((e8[0]'h).toNat : Int) = 48 := fun h => (bt_at e8 0 h).trans hb2
  clear hb hb2
  obtain ⟨rfl, rfl⟩ := Prod.mk.inj (Option.some.inj h)
  clear h
  go_enter Tryd.func12, Tryd.ntmps12
  go_wp2_with fail
  go_ret2
  exact ⟨rfl, Below.refl _ _⟩

set_option maxRecDepth 100000 in
set_option maxHeartbeats 100000000 in
theorem ref_form2c (k : Nat) (a : ByteArray) (r1 r2 : Int) (w : World) (hg : G2 a = true) (hb : bt (a.extract 8 10) 0 ≠ 32) (hb2 : bt (a.extract 8 10) 0 ≠ 48) (h : rparts k (a.extract 8 10) (a.extract 20 a.size) (a.extract 0 3) (a.extract 4 7) (a.extract 11 19) = some (r1, r2)) :
    Calls Tryd.prog 12 #[.string a] w fun e w' => e = .returned (.tuple #[.int .i64 r1, .int .i64 r2]) ∧ Below w.heap.size w w' := by
  simp only [G2, Bool.and_eq_true, decide_eq_true_eq] at hg
  obtain ⟨hs, b3, b7, b10, b19⟩ := hg
  have x3 : ∀ h : 3 < a.size, ((a[3]'h).toNat : Int) = 32 := fun h => (bt_at a 3 h).trans (beq_iff_eq.mp b3)
  have x7 : ∀ h : 7 < a.size, ((a[7]'h).toNat : Int) = 32 := fun h => (bt_at a 7 h).trans (beq_iff_eq.mp b7)
  have x10 : ∀ h : 10 < a.size, ((a[10]'h).toNat : Int) = 32 := fun h => (bt_at a 10 h).trans (beq_iff_eq.mp b10)
  have x19 : ∀ h : 19 < a.size, ((a[19]'h).toNat : Int) = 32 := fun h => (bt_at a 19 h).trans (beq_iff_eq.mp b19)
  clear b3 b7 b10 b19
  have hz : (a.extract 8 10).size = 2 := by simp [hs]
  obtain ⟨e8, he8⟩ : ∃ e, a.extract 8 10 = e := ⟨_, rfl⟩
  rw [he8] at hz
  rw [he8] at h hb hb2
  have x0 : ∀ h : 0 < e8.size, ((e8[0]'h).toNat : Int) = bt e8 0 := fun h => bt_at e8 0 h
  have y0 : (bt e8 0 == 32) = false := beq_eq_false_iff_ne.mpr hb
  have y1 : (bt e8 0 == 48) = false := beq_eq_false_iff_ne.mpr hb2
  clear hb hb2
  simp only [rparts, hs] at h
  obtain ⟨⟨d, p⟩, h1, h⟩ := Option.bind_eq_some_iff.mp h
  obtain ⟨⟨y, q⟩, h2, h3⟩ := Option.bind_eq_some_iff.mp h
  clear h
  simp only at h3
  have C1 := Lib.hid (fun W => ambryref9_digits.calls k _ d p W h1)
  have C2 := Lib.hid (fun W => ambryref9_digits.calls k _ y q W h2)
  have H := Lib.hid h3
  clear h1 h2 h3
  go_enter Tryd.func12, Tryd.ntmps12
  go_wp2_with fail
  with_reducible refine (C1.out _).mono ?_
  rintro e w1 ⟨rfl, hd⟩
  have HB1 := Lib.hid hd.below
  clear hd
  go_wp2_with fail
  with_reducible refine (C2.out _).mono ?_
  rintro e w2 ⟨rfl, hd⟩
  have HB := Aside0.mk (below_step HB1.out hd.below)
  clear hd
  cases p with
  | false =>
    have h := H.out
    clear H
    simp only [Bool.false_eq_true, false_and, if_false] at h
    obtain ⟨rfl, rfl⟩ := Prod.mk.inj (Option.some.inj h)
    clear h
    go_wp2_with fail
    go_ret2
    exact ⟨rfl, HB.out⟩
  | true =>
    cases q with
    | false =>
      have h := H.out
      clear H
      simp only [Bool.false_eq_true, and_false, if_false] at h
      obtain ⟨rfl, rfl⟩ := Prod.mk.inj (Option.some.inj h)
      clear h
      go_wp2_with fail
      go_ret2
      exact ⟨rfl, HB.out⟩
    | true =>
      have h := H.out
      clear H
      simp only [and_self, if_true] at h
      obtain ⟨DS, h1, h⟩ := Option.bind_eq_some_iff.mp h
      obtain ⟨II, h2, h⟩ := Option.bind_eq_some_iff.mp h
      obtain ⟨MS, h3, h⟩ := Option.bind_eq_some_iff.mp h
      obtain ⟨JJ, h4, h5⟩ := Option.bind_eq_some_iff.mp h
      clear h
      have A73 := Aside0.mk h1
      have A76 := Aside0.mk h2
      have A77 := Aside0.mk h3
      have A80 := Aside0.mk h4
      have A83 := Aside0.mk h5
      clear h1 h2 h3 h4 h5
      go_wp2_with fail
      have n0_ := Aside0.mk (below_drew1 HB.out)
      clear HB
      have HB := n0_
      clear n0_
      refine start_ (n := 17) (S := fun w' => True) (ds := []) #[false, false, false, false, false, false, false, false, false, false, false, false, false, false, false, false, false] (by kernel_rfl) rfl rfl trivial (fun hHeld => ?_); refine with_tabW RefW.tab16 RefW.bits16 (fun HT_ HW_ => ?_)
      generalize w2.drew = w84 at HB hHeld ⊢
      refine pure_ (i := 1) (N := some 128) (v := ?_) (a' := ?_) #[false, true, false, false, false, false, false, false, false, false, false, false, false, false, false, false, false] rfl rfl (any_of HT_.out (by kernel_rfl)) (fun _ _ _ h => h) (Or.inl ⟨by rfl, ?_⟩) ?_ ?_
      rotate_left
      · intro w'
        go_simp
        with_reducible rfl
      rotate_left
      · simp only [Act.put, List.setIfInBounds_toArray, List.set_cons_zero, List.set_cons_succ, i64_w, i32_w]
        rfl
      refine pure_ (i := 2) (N := some 129) (v := ?_) (a' := ?_) #[false, true, true, false, false, false, false, false, false, false, false, false, false, false, false, false, false] rfl rfl (any_of HT_.out (by kernel_rfl)) (fun _ _ _ h => h) (Or.inl ⟨by rfl, ?_⟩) ?_ ?_
      rotate_left
      · intro w'
        go_simp
        with_reducible rfl
      rotate_left
      · simp only [Act.put, List.setIfInBounds_toArray, List.set_cons_zero, List.set_cons_succ, i64_w, i32_w]
        rfl
      refine pure_ (i := 4) (N := some 131) (v := ?_) (a' := ?_) #[false, true, true, false, true, false, false, false, false, false, false, false, false, false, false, false, false] rfl rfl (any_of HT_.out (by kernel_rfl)) (fun _ _ _ h => h) (Or.inl ⟨by rfl, ?_⟩) ?_ ?_
      rotate_left
      · intro w'
        go_simp
        with_reducible rfl
      rotate_left
      · simp only [Act.put, List.setIfInBounds_toArray, List.set_cons_zero, List.set_cons_succ, i64_w, i32_w]
        rfl
      refine pure_ (i := 6) (N := some 133) (v := ?_) (a' := ?_) #[false, true, true, false, true, false, true, false, false, false, false, false, false, false, false, false, false] rfl rfl (any_of HT_.out (by kernel_rfl)) (fun _ _ _ h => h) (Or.inl ⟨by rfl, ?_⟩) ?_ ?_
      rotate_left
      · intro w'
        go_simp
        with_reducible rfl
      rotate_left
      · simp only [Act.put, List.setIfInBounds_toArray, List.set_cons_zero, List.set_cons_succ, i64_w, i32_w]
        rfl
      refine pure_ (i := 7) (N := some 134) (v := ?_) (a' := ?_) #[false, true, true, false, true, false, true, true, false, false, false, false, false, false, false, false, false] rfl rfl (any_of HT_.out (by kernel_rfl)) (fun _ _ _ h => h) (Or.inl ⟨by rfl, ?_⟩) ?_ ?_
      rotate_left
      · intro w'
        go_simp
        with_reducible rfl
      rotate_left
      · simp only [Act.put, List.setIfInBounds_toArray, List.set_cons_zero, List.set_cons_succ, i64_w, i32_w]
        rfl
      refine pure_ (i := 9) (N := some 136) (v := ?_) (a' := ?_) #[false, true, true, false, true, false, true, true, false, true, false, false, false, false, false, false, false] rfl rfl (any_of HT_.out (by kernel_rfl)) (fun _ _ _ h => h) (Or.inl ⟨by rfl, ?_⟩) ?_ ?_
      rotate_left
      · intro w'
        go_simp
        with_reducible rfl
      rotate_left
      · simp only [Act.put, List.setIfInBounds_toArray, List.set_cons_zero, List.set_cons_succ, i64_w, i32_w]
        rfl
      refine pure_ (i := 10) (N := some 137) (v := ?_) (a' := ?_) #[false, true, true, false, true, false, true, true, false, true, true, false, false, false, false, false, false] rfl rfl (any_of HT_.out (by kernel_rfl)) (fun _ _ _ h => h) (Or.inl ⟨by rfl, ?_⟩) ?_ ?_
      rotate_left
      · intro w'
        go_simp
        with_reducible rfl
      rotate_left
      · simp only [Act.put, List.setIfInBounds_toArray, List.set_cons_zero, List.set_cons_succ, i64_w, i32_w]
        rfl
      refine pure_ (i := 11) (N := some 138) (v := ?_) (a' := ?_) #[false, true, true, false, true, false, true, true, false, true, true, true, false, false, false, false, false] rfl rfl (any_of HT_.out (by kernel_rfl)) (fun _ _ _ h => h) (Or.inl ⟨by rfl, ?_⟩) ?_ ?_
      rotate_left
      · intro w'
        go_simp
        with_reducible rfl
      rotate_left
      · simp only [Act.put, List.setIfInBounds_toArray, List.set_cons_zero, List.set_cons_succ, i64_w, i32_w]
        rfl
      refine one_ (i := 0) (N := some 127) #[true, true, true, false, true, false, true, true, false, true, true, true, false, false, false, false, false] rfl rfl (one_of HT_.out (by kernel_rfl)) (by decide) (fun K hK => ?_)
      refine goes_ Tryd.func25 (by kernel_rfl) rfl #[] (by rfl) rfl rfl (by (try simp only [List.map_toArray, List.map_cons, List.map_nil]); first | done | rfl | (simp only [List.length_drop, List.length_take]; rfl)) ?_
      with_reducible refine (ambryref9_days.calls  DS _ A73.out).mono ?_
      rintro e w85 ⟨v261, rfl, ho0, hb⟩
      refine ⟨_, rfl, ?_⟩
      have n0_ := Aside0.mk (Kd.R_lower ho0 (below_size (by repeat (first | (with_reducible first | exact HB.out | apply below_alloc | apply pw_below_drewN | apply below_drew1) | exact HB.out))))
      have n1_ := Aside0.mk (below_step (by repeat (first | (with_reducible first | exact HB.out | apply below_alloc | apply pw_below_drewN | apply below_drew1) | exact HB.out)) hb)
      clear HB
      have HO262 := n0_
      have HB := n1_
      clear n0_ n1_
      (try clear hb)
      (try clear hb2)
      (try clear hk)
      (try clear hi)
      (try clear ho0)
      obtain ⟨Ao86, co86, eo86⟩ := Kd.R_slice HO262.out
      (first | subst eo86 | (injection eo86 with f1_ f2_ f3_; have f4_ := f1_.symm; have f5_ := f3_.symm; clear f1_ f2_ f3_; subst f4_; subst f5_))
      refine hK.out _ _ trivial (fun hHeld => ?_)
      clear hK K
      refine norm_ (a' := ?_) ?_ ?_
      rotate_left
      · show Act.put _ (some 127) _ = _
        simp only [Act.put, List.setIfInBounds_toArray, List.set_cons_zero, List.set_cons_succ, i64_w, i32_w]
        rfl
      refine one_ (i := 3) (N := some 130) #[true, true, true, true, true, false, true, true, false, true, true, true, false, false, false, false, false] rfl rfl (one_of HT_.out (by kernel_rfl)) (by decide) (fun K hK => ?_)
      refine goes_ Tryd.func30 (by kernel_rfl) rfl #[.slice Ao86 DS.length co86, .string (a.extract 0 3)] (by rfl) rfl rfl (by (try simp only [List.map_toArray, List.map_cons, List.map_nil]); first | done | rfl | (simp only [List.length_drop, List.length_take]; rfl)) ?_
      with_reducible refine (ambryref9_index.calls k _ _ DS (a.extract 0 3) II _ ?side1 ?side2 A76.out).mono ?_
      (case side1 => repeat (first | exact (Kd.R_reads' HO262.out).2.2 | (with_reducible refine Kd.C_alloc ?_ _) | (with_reducible refine Kd.C_drewN ?_ _) | (with_reducible refine Kd.C_drew ?_)))
      (case side2 => exact (Kd.R_reads' HO262.out).2.1)
      rintro e w' ⟨rfl, ⟨nd, rfl⟩⟩
      refine ⟨_, rfl, ?_⟩
      refine hK.out _ _ trivial (fun hHeld => ?_)
      clear hK K
      refine norm_ (a' := ?_) ?_ ?_
      rotate_left
      · show Act.put _ (some 130) _ = _
        simp only [Act.put, List.setIfInBounds_toArray, List.set_cons_zero, List.set_cons_succ, i64_w, i32_w]
        rfl
      refine one_ (i := 5) (N := some 132) #[true, true, true, true, true, true, true, true, false, true, true, true, false, false, false, false, false] rfl rfl (one_of HT_.out (by kernel_rfl)) (by decide) (fun K hK => ?_)
      refine goes_ Tryd.func27 (by kernel_rfl) rfl #[] (by rfl) rfl rfl (by (try simp only [List.map_toArray, List.map_cons, List.map_nil]); first | done | rfl | (simp only [List.length_drop, List.length_take]; rfl)) ?_
      with_reducible refine (ambryref9_months.calls  MS _ A77.out).mono ?_
      rintro e w87 ⟨v265, rfl, ho0, hb⟩
      refine ⟨_, rfl, ?_⟩
      have n0_ := Aside0.mk (Kd.R_elder' (by (with_reducible repeat (first | apply Kd.R_alloc | apply Kd.R_drewN | apply Kd.R_drew)); exact HO262.out) (Kd.R_base ho0) hb)
      have n1_ := Aside0.mk (Kd.R_lower (Kd.R_new' ho0 (Kd.R_lt (by (with_reducible repeat (first | apply Kd.R_alloc | apply Kd.R_drewN | apply Kd.R_drew)); exact HO262.out))) (below_size (by repeat (first | (with_reducible first | exact HB.out | apply below_alloc | apply pw_below_drewN | apply below_drew1) | exact HB.out))))
      have n2_ := Aside0.mk (below_step (by repeat (first | (with_reducible first | exact HB.out | apply below_alloc | apply pw_below_drewN | apply below_drew1) | exact HB.out)) hb)
      clear HO262
      clear HB
      have HO262 := n0_
      have HO266 := n1_
      have HB := n2_
      clear n0_ n1_ n2_
      (try clear hb)
      (try clear hb2)
      (try clear hk)
      (try clear hi)
      (try clear ho0)
      obtain ⟨Ao88, co88, eo88⟩ := Kd.R_slice HO266.out
      (first | subst eo88 | (injection eo88 with f1_ f2_ f3_; have f4_ := f1_.symm; have f5_ := f3_.symm; clear f1_ f2_ f3_; subst f4_; subst f5_))
      refine hK.out _ _ trivial (fun hHeld => ?_)
      clear hK K
      refine norm_ (a' := ?_) ?_ ?_
      rotate_left
      · show Act.put _ (some 132) _ = _
        simp only [Act.put, List.setIfInBounds_toArray, List.set_cons_zero, List.set_cons_succ, i64_w, i32_w]
        rfl
      refine one_ (i := 8) (N := some 135) #[true, true, true, true, true, true, true, true, true, true, true, true, false, false, false, false, false] rfl rfl (one_of HT_.out (by kernel_rfl)) (by decide) (fun K hK => ?_)
      refine goes_ Tryd.func30 (by kernel_rfl) rfl #[.slice Ao88 MS.length co88, .string (a.extract 4 7)] (by rfl) rfl rfl (by (try simp only [List.map_toArray, List.map_cons, List.map_nil]); first | done | rfl | (simp only [List.length_drop, List.length_take]; rfl)) ?_
      with_reducible refine (ambryref9_index.calls k _ _ MS (a.extract 4 7) JJ _ ?side1 ?side2 A80.out).mono ?_
      (case side1 => repeat (first | exact (Kd.R_reads' HO266.out).2.2 | (with_reducible refine Kd.C_alloc ?_ _) | (with_reducible refine Kd.C_drewN ?_ _) | (with_reducible refine Kd.C_drew ?_)))
      (case side2 => exact (Kd.R_reads' HO266.out).2.1)
      rintro e w' ⟨rfl, ⟨nd, rfl⟩⟩
      refine ⟨_, rfl, ?_⟩
      refine hK.out _ _ trivial (fun hHeld => ?_)
      clear hK K
      refine norm_ (a' := ?_) ?_ ?_
      rotate_left
      · show Act.put _ (some 135) _ = _
        simp only [Act.put, List.setIfInBounds_toArray, List.set_cons_zero, List.set_cons_succ, i64_w, i32_w]
        rfl
      refine one_ (i := 12) (N := some 139) #[true, true, true, true, true, true, true, true, true, true, true, true, true, false, false, false, false] rfl rfl (one_of HT_.out (by kernel_rfl)) (by decide) (fun K hK => ?_)
      refine goes_ Tryd.func29 (by kernel_rfl) rfl #[.int .i64 II, .int .i64 y, .int .i64 JJ, .int .i64 d, .string (a.extract 11 19)] (by rfl) rfl rfl (by (try simp only [List.map_toArray, List.map_cons, List.map_nil]); first | done | rfl | (simp only [List.length_drop, List.length_take]; rfl)) ?_
      with_reducible refine (ambryref9_made.calls k II y JJ d (a.extract 11 19) r1 r2 _ A83.out).mono ?_
      rintro e w89 ⟨rfl, hb⟩
      refine ⟨_, rfl, ?_⟩
      have n0_ := Aside0.mk (Kd.R_below (by (with_reducible repeat (first | apply Kd.R_alloc | apply Kd.R_drewN | apply Kd.R_drew)); exact HO262.out) hb)
      have n1_ := Aside0.mk (Kd.R_below (by (with_reducible repeat (first | apply Kd.R_alloc | apply Kd.R_drewN | apply Kd.R_drew)); exact HO266.out) hb)
      have n2_ := Aside0.mk (below_step (by repeat (first | (with_reducible first | exact HB.out | apply below_alloc | apply pw_below_drewN | apply below_drew1) | exact HB.out)) hb)
      clear HO262
      clear HO266
      clear HB
      have HO262 := n0_
      have HO266 := n1_
      have HB := n2_
      clear n0_ n1_ n2_
      (try clear hb)
      (try clear hb2)
      (try clear hk)
      (try clear hi)
      refine hK.out _ _ trivial (fun hHeld => ?_)
      clear hK K
      refine norm_ (a' := ?_) ?_ ?_
      rotate_left
      · show Act.put _ (some 139) _ = _
        simp only [Act.put, List.setIfInBounds_toArray, List.set_cons_zero, List.set_cons_succ, i64_w, i32_w]
        rfl
      refine pure_ (i := 13) (N := some 140) (v := ?_) (a' := ?_) #[true, true, true, true, true, true, true, true, true, true, true, true, true, true, false, false, false] rfl rfl (any_of HT_.out (by kernel_rfl)) (fun _ _ _ h => h) (Or.inl ⟨by rfl, ?_⟩) ?_ ?_
      rotate_left
      · intro w'
        go_simp
        with_reducible rfl
      rotate_left
      · simp only [Act.put, List.setIfInBounds_toArray, List.set_cons_zero, List.set_cons_succ, i64_w, i32_w]
        rfl
      refine pure_ (i := 14) (N := some 141) (v := ?_) (a' := ?_) #[true, true, true, true, true, true, true, true, true, true, true, true, true, true, true, false, false] rfl rfl (any_of HT_.out (by kernel_rfl)) (fun _ _ _ h => h) (Or.inl ⟨by rfl, ?_⟩) ?_ ?_
      rotate_left
      · intro w'
        go_simp
        with_reducible rfl
      rotate_left
      · simp only [Act.put, List.setIfInBounds_toArray, List.set_cons_zero, List.set_cons_succ, i64_w, i32_w]
        rfl
      refine pure_ (i := 15) (N := some 2) (v := ?_) (a' := ?_) #[true, true, true, true, true, true, true, true, true, true, true, true, true, true, true, true, false] rfl rfl (any_of HT_.out (by kernel_rfl)) (fun _ _ _ h => h) (Or.inl ⟨by rfl, ?_⟩) ?_ ?_
      rotate_left
      · intro w'
        go_simp
        with_reducible rfl
      rotate_left
      · simp only [Act.put, List.setIfInBounds_toArray, List.set_cons_zero, List.set_cons_succ, i64_w, i32_w]
        rfl
      refine pure_ (i := 16) (N := some 3) (v := ?_) (a' := ?_) #[true, true, true, true, true, true, true, true, true, true, true, true, true, true, true, true, true] rfl rfl (any_of HT_.out (by kernel_rfl)) (fun _ _ _ h => h) (Or.inl ⟨by rfl, ?_⟩) ?_ ?_
      rotate_left
      · intro w'
        go_simp
        with_reducible rfl
      rotate_left
      · simp only [Act.put, List.setIfInBounds_toArray, List.set_cons_zero, List.set_cons_succ, i64_w, i32_w]
        rfl
      refine done_ (done_of HT_.out (by kernel_rfl)) ?_
      try go_wp2
      go_ret2
      exact ⟨by first | rfl | (simp [errW_none, errW_some] <;> rfl) | (simp [*, errW_none, errW_some] <;> rfl), by repeat (first | (with_reducible first | exact HB.out | apply below_alloc | apply pw_below_drewN | apply below_drew1) | exact HB.out)⟩
end Go.Proofs.YtcejglmmjbmafaaDoor.X
/- The document's reader of dates, Parse: its pure form and the walk of its third form (the loop). -/
namespace Go.Proofs.YtcejglmmjbmafaaDoor.X
open Go.RowKit Go.Proofs.YtcejglmmjbmafaaDoorW.PrintWords Go.Proofs.YtcejglmmjbmafaaDoorW.PrintLast Go.Proofs.YtcejglmmjbmafaaDoorW.PrintMore
set_option linter.unusedVariables false
set_option linter.unusedSimpArgs false

/-- Does the text begin with this long name of a day, and has it that form's length? -/
def lcond (a l : ByteArray) : Bool := decide (a.size = l.size + 24) && ((a.extract 0 l.size).toList == l.toList && (a.extract l.size (l.size + 2)).toList == [44, 32])
def rform3 (k : Nat) (w : Int) (r : ByteArray) : Option (Int × Int) := (ambryref9_digits.f k (r.extract 0 2)).bind fun a => (ambryref9_digits.f k (r.extract 7 9)).bind fun b =>
  if a.2 = true ∧ b.2 = true ∧ bt r 2 = 45 ∧ bt r 6 = 45 ∧ bt r 9 = 32 ∧ (r.extract 18 22).toList = [32, 71, 77, 84] then ambryref9_months.f.bind fun ms => (ambryref9_index.f k ms (r.extract 3 6)).bind fun j =>
    ambryref9_made.f k w (if b.1 ≥ 70 then wrap64 (b.1 + 1900) else wrap64 (b.1 + 2000)) j a.1 (r.extract 10 18)
  else some (0, 80)
def rloop (k : Nat) (a : ByteArray) : Int → List ByteArray → Option (Int × Int)
  | _, [] => some (0, 80)
  | w, l :: ls => if lcond a l = true then rform3 k w (a.extract (l.size + 2) (l.size + 24)) else rloop k a (w + 1) ls
def ambryref9_Parse.f (k : Nat) (a : ByteArray) : Option (Int × Int) :=
  if G1 a = true then rform1 k a else if G2 a = true then rform2 k a else ambryref9_longs.f.bind fun ls => rloop k a 0 ls
theorem rparts.mono (d y w m c : ByteArray) (k : Nat) : LeO (rparts k d y w m c) (rparts (k + 1) d y w m c) :=
  LeO.bind (ambryref9_digits.mono _ _) fun _ => LeO.bind (ambryref9_digits.mono _ _) fun _ => LeO.ite (LeO.bind (LeO.refl _) fun _ => LeO.bind (ambryref9_index.mono _ _ _) fun _ => LeO.bind (LeO.refl _) fun _ => LeO.bind (ambryref9_index.mono _ _ _) fun _ => ambryref9_made.mono _ _ _ _ _ _) (LeO.refl _)
theorem rloop.mono (a : ByteArray) (k : Nat) : ∀ (ls : List ByteArray) (w : Int), LeO (rloop k a w ls) (rloop (k + 1) a w ls)
  | [], _ => LeO.refl _
  | l :: ls, w => LeO.ite (LeO.bind (ambryref9_digits.mono _ _) fun _ => LeO.bind (ambryref9_digits.mono _ _) fun _ => LeO.ite (LeO.bind (LeO.refl _) fun _ => LeO.bind (ambryref9_index.mono _ _ _) fun _ => ambryref9_made.mono _ _ _ _ _ _) (LeO.refl _)) (rloop.mono a k ls (w + 1))
theorem ambryref9_Parse.mono (a : ByteArray) (k : Nat) : LeO (ambryref9_Parse.f k a) (ambryref9_Parse.f (k + 1) a) :=
  LeO.ite (rparts.mono _ _ _ _ _ _) (LeO.ite (LeO.ite (rparts.mono _ _ _ _ _ _) (LeO.ite (LeO.refl _) (rparts.mono _ _ _ _ _ _))) (LeO.bind (LeO.refl _) fun _ => rloop.mono _ _ _ _))

theorem fall1 (a : ByteArray) (h : G1 a = false) : a.size ≠ 29 ∨ a.size = 29 ∧ ((a.extract 3 5).toList == [44, 32]) = false ∨ a.size = 29 ∧ ((a.extract 3 5).toList == [44, 32]) = true ∧ (bt a 7 == 32) = false ∨
    a.size = 29 ∧ ((a.extract 3 5).toList == [44, 32]) = true ∧ (bt a 7 == 32) = true ∧ (bt a 11 == 32) = false ∨ a.size = 29 ∧ ((a.extract 3 5).toList == [44, 32]) = true ∧ (bt a 7 == 32) = true ∧ (bt a 11 == 32) = true ∧ (bt a 16 == 32) = false ∨
    a.size = 29 ∧ ((a.extract 3 5).toList == [44, 32]) = true ∧ (bt a 7 == 32) = true ∧ (bt a 11 == 32) = true ∧ (bt a 16 == 32) = true ∧ ((a.extract 25 29).toList == [32, 71, 77, 84]) = false := by
  by_cases hs : a.size = 29
  · unfold G1 at h
    rw [hs] at h
    revert h
    cases ((a.extract 3 5).toList == [44, 32]) <;> cases (bt a 7 == 32) <;> cases (bt a 11 == 32) <;> cases (bt a 16 == 32) <;> cases ((a.extract 25 29).toList == [32, 71, 77, 84]) <;> simp [hs]
  · exact .inl hs
theorem fall2 (a : ByteArray) (h : G2 a = false) : a.size ≠ 24 ∨ a.size = 24 ∧ (bt a 3 == 32) = false ∨ a.size = 24 ∧ (bt a 3 == 32) = true ∧ (bt a 7 == 32) = false ∨ a.size = 24 ∧ (bt a 3 == 32) = true ∧ (bt a 7 == 32) = true ∧ (bt a 10 == 32) = false ∨
    a.size = 24 ∧ (bt a 3 == 32) = true ∧ (bt a 7 == 32) = true ∧ (bt a 10 == 32) = true ∧ (bt a 19 == 32) = false := by
  by_cases hs : a.size = 24
  · unfold G2 at h
    revert h
    cases (bt a 3 == 32) <;> cases (bt a 7 == 32) <;> cases (bt a 10 == 32) <;> cases (bt a 19 == 32) <;> simp [hs]
  · exact .inl hs
/-- What one round finds. -/
theorem lcases (a l : ByteArray) : lcond a l = true ∧ a.size = l.size + 24 ∧ ((a.extract 0 l.size).toList == l.toList) = true ∧ ((a.extract l.size (l.size + 2)).toList == [44, 32]) = true ∨
    lcond a l = false ∧ (a.size ≠ l.size + 24 ∨ a.size = l.size + 24 ∧ ((a.extract 0 l.size).toList == l.toList) = false ∨ a.size = l.size + 24 ∧ ((a.extract 0 l.size).toList == l.toList) = true ∧ ((a.extract l.size (l.size + 2)).toList == [44, 32]) = false) := by
  by_cases hs : a.size = l.size + 24
  · cases h1 : ((a.extract 0 l.size).toList == l.toList) <;> cases h2 : ((a.extract l.size (l.size + 2)).toList == [44, 32]) <;> simp [lcond, hs, h1, h2]
  · exact .inr ⟨by simp [lcond, hs], .inl hs⟩

set_option maxRecDepth 100000 in
set_option maxHeartbeats 100000000 in
theorem ref_rest (k : Nat) (a : ByteArray) (r1 r2 : Int) (ls : List ByteArray) (w : World) (hg : G1 a = false) (hg2 : G2 a = false) (hls : ambryref9_longs.f = some ls) (hl7 : ls.length = 7) (h9 : ∀ l ∈ ls, l.size = 6 ∨ l.size = 7 ∨ l.size = 8 ∨ l.size = 9) (h : rloop k a 0 ls = some (r1, r2)) :
    Calls Tryd.prog 12 #[.string a] w fun e w' => e = .returned (.tuple #[.int .i64 r1, .int .i64 r2]) ∧ Below w.heap.size w w' := by
  have H := Lib.hid h
  have CL := Lib.hid (fun W => ambryref9_longs.calls ls W hls)
  have HL := Lib.hid hls
  have H7 := Lib.hid hl7
  have H9 := Lib.hid h9
  clear h hls hl7 h9
  have F1 := Lib.hid (fall1 a hg)
  have F2 := Lib.hid (fall2 a hg2)
  clear hg hg2
  have HB := Aside0.mk (Below.refl w.heap.size w)
  go_enter Tryd.func12, Tryd.ntmps12
  go_upto_region 1 with (fail)
  go_cut [47] (fun v47 wc => v47 = .bool false ∧ Aside0 (Below w.heap.size w wc))
  case first => as_aux_lemma =>
    clear H CL HL F2
    have f := F1.out
    clear F1
    rcases f with hs | ⟨hs, f1⟩ | ⟨hs, f1, f2⟩ | ⟨hs, f1, f2, f3⟩ | ⟨hs, f1, f2, f3, f4⟩ | ⟨hs, f1, f2, f3, f4, f5⟩
    · have hi : ((a.size : Int) == 29) = false := beq_eq_false_iff_ne.mpr (by omega)
      go_wp2
      go_meet
      case rel => exact ⟨rfl, HB⟩
    · go_wp2
      go_meet
      case rel => exact ⟨rfl, HB⟩
    · have x7 : ∀ h : 7 < a.size, ((a[7]'h).toNat : Int) = bt a 7 := fun h => bt_at a 7 h
      go_wp2
      go_meet
      case rel => exact ⟨rfl, HB⟩
    · have x7 : ∀ h : 7 < a.size, ((a[7]'h).toNat : Int) = bt a 7 := fun h => bt_at a 7 h
      have x11 : ∀ h : 11 < a.size, ((a[11]'h).toNat : Int) = bt a 11 := fun h => bt_at a 11 h
      go_wp2
      go_meet
      case rel => exact ⟨rfl, HB⟩
    · have x7 : ∀ h : 7 < a.size, ((a[7]'h).toNat : Int) = bt a 7 := fun h => bt_at a 7 h
      have x11 : ∀ h : 11 < a.size, ((a[11]'h).toNat : Int) = bt a 11 := fun h => bt_at a 11 h
      have x16 : ∀ h : 16 < a.size, ((a[16]'h).toNat : Int) = bt a 16 := fun h => bt_at a 16 h
      go_wp2
      go_meet
      case rel => exact ⟨rfl, HB⟩
    · have x7 : ∀ h : 7 < a.size, ((a[7]'h).toNat : Int) = bt a 7 := fun h => bt_at a 7 h
      have x11 : ∀ h : 11 < a.size, ((a[11]'h).toNat : Int) = bt a 11 := fun h => bt_at a 11 h
      have x16 : ∀ h : 16 < a.size, ((a[16]'h).toNat : Int) = bt a 16 := fun h => bt_at a 16 h
      go_wp2
      go_meet
      case rel => exact ⟨rfl, HB⟩
  case rest =>
    clear HB
    obtain ⟨rfl, HB⟩ := hcut
    clear F1
    go_upto_region 7 with (fail)
    go_cut [101] (fun v101 wc => v101 = .bool false ∧ Aside0 (Below w.heap.size w wc))
    case first => as_aux_lemma =>
      clear H CL HL
      have f := F2.out
      clear F2
      have x3 : ∀ h : 3 < a.size, ((a[3]'h).toNat : Int) = bt a 3 := fun h => bt_at a 3 h
      have x7 : ∀ h : 7 < a.size, ((a[7]'h).toNat : Int) = bt a 7 := fun h => bt_at a 7 h
      have x10 : ∀ h : 10 < a.size, ((a[10]'h).toNat : Int) = bt a 10 := fun h => bt_at a 10 h
      have x19 : ∀ h : 19 < a.size, ((a[19]'h).toNat : Int) = bt a 19 := fun h => bt_at a 19 h
      rcases f with hs | ⟨hs, f1⟩ | ⟨hs, f1, f2⟩ | ⟨hs, f1, f2, f3⟩ | ⟨hs, f1, f2, f3, f4⟩
      · have hi : ((a.size : Int) == 24) = false := beq_eq_false_iff_ne.mpr (by omega)
        go_wp2
        go_meet
        case rel => exact ⟨rfl, HB⟩
      all_goals
        go_wp2
        go_meet
        case rel => exact ⟨rfl, HB⟩
    case rest => as_aux_lemma =>
      clear HB
      obtain ⟨rfl, HB⟩ := hcut
      clear F2
      go_wp2
      go_loopg [13] 7 (fun kq v13 w' => ∃ (i : Nat), v13 = .int .i64 i ∧ Aside0 (kq + i = 7) ∧ Aside0 (rloop k a i (ls.drop i) = some (r1, r2)) ∧ Aside0 (Below w.heap.size w w'))
      case atStart => exact ⟨0, rfl, ⟨rfl⟩, ⟨H.out⟩, HB⟩
      case round => as_aux_lemma =>
        clear H HB
        obtain ⟨i, rfl, HK, H, HB⟩ := hrel
        cases gk with
        | zero =>
          have hk := HK.out
          have ei : i = 7 := by omega
          subst ei
          have h := H.out
          rw [List.drop_eq_nil_of_le (Nat.le_of_eq H7.out)] at h
          simp only [rloop] at h
          obtain ⟨rfl, rfl⟩ := Prod.mk.inj (Option.some.inj h)
          clear h H HK hk
          go_wp2_with fail
          go_ret2
          exact ⟨rfl, HB.out⟩
        | succ k1 =>
          have hk := HK.out
          have hi : i < 7 := by omega
          have hi7 : decide ((i : Int) < 7) = true := decide_eq_true (by omega)
          obtain ⟨l, ls', hd⟩ : ∃ l ls', ls.drop i = l :: ls' := by
            cases e : ls.drop i with
            | nil => exact absurd (congrArg List.length e) (by simp only [List.length_drop, H7.out, List.length_nil]; omega)
            | cons l ls' => exact ⟨l, ls', rfl⟩
          have hrd : rdOf ByteArray.empty ls (i : Int) = l := by
            have e := congrArg (fun z => z.getD 0 ByteArray.empty) hd
            simpa [rdOf, List.getD_eq_getElem?_getD] using e
          have hd' : ls.drop (i + 1) = ls' := by rw [← List.tail_drop, hd]; rfl
          have hsz := H9.out l (List.mem_of_mem_drop (by rw [hd]; exact List.mem_cons_self))
          have h := H.out
          rw [hd] at h
          simp only [rloop] at h
          clear H
          have HH := Lib.hid h
          have HD := Lib.hid hd'
          have HR := Lib.hid hrd
          have HK1 := Lib.hid (show k1 + (i + 1) = 7 by omega)
          have LC := Lib.hid (lcases a l)
          clear h hd hd' hk HK
          go_wp2_with fail
          refine (CL.out _).mono ?_
          rintro e w3 ⟨v, rfl, hR, hb⟩
          have HB3 := Lib.hid (below_step HB.out hb)
          obtain ⟨A, c, rfl, hC, hc⟩ := slice_of hR
          obtain ⟨ad, eA, hx⟩ := Kd.at_string hC (i : Int) (by omega) (by rw [H7.out]; omega)
          subst eA
          rw [hrd] at hx
          clear hR hb hc hrd
          simp only [Int.toNat_natCast] at hx
          have hlen := H7.out
          rcases LC.out with ⟨hc, hs, f1, f2⟩ | ⟨hc, hff⟩
          · have h := HH.out
            rw [hc, if_pos rfl] at h
            clear HH LC hc
            obtain ⟨r, he⟩ : ∃ r, a.extract (l.size + 2) (l.size + 24) = r := ⟨_, rfl⟩
            rw [he] at h
            have hz : r.size = 22 := by rw [← he]; simp [hs]
            have x2 : ∀ h : 2 < r.size, ((r[2]'h).toNat : Int) = bt r 2 := fun h => bt_at r 2 h
            have x6 : ∀ h : 6 < r.size, ((r[6]'h).toNat : Int) = bt r 6 := fun h => bt_at r 6 h
            have x9 : ∀ h : 9 < r.size, ((r[9]'h).toNat : Int) = bt r 9 := fun h => bt_at r 9 h
            simp only [rform3] at h
            obtain ⟨⟨d, p⟩, h1, h⟩ := Option.bind_eq_some_iff.mp h
            obtain ⟨⟨y, q⟩, h2, h3⟩ := Option.bind_eq_some_iff.mp h
            clear h
            simp only at h3
            have C1 := Lib.hid (fun W => ambryref9_digits.calls k _ d p W h1)
            have C2 := Lib.hid (fun W => ambryref9_digits.calls k _ y q W h2)
            have H := Lib.hid h3
            clear h1 h2 h3
            have HB := Aside0.mk HB3.out
            go_upto_region 22 with (fail)
            go_cut [173] (fun v173 wc => v173 = .bool true ∧ Aside0 (Below w.heap.size w wc))
            case first => as_aux_lemma =>
              clear C1 C2 H
              rcases hsz with hl | hl | hl | hl
              all_goals
                rw [hl] at hs he f1 f2
                simp only [Nat.reduceAdd] at hs he f1 f2
                go_wp2
                go_meet
                case rel => exact ⟨rfl, HB⟩
            clear HB HB3
            obtain ⟨rfl, HB⟩ := hcut
            go_upto_region 23 with (fail)
            go_cut [15] (fun v15 wc => v15 = .string r ∧ Aside0 (Below w.heap.size w wc))
            case first => as_aux_lemma =>
              clear C1 C2 H
              rcases hsz with hl | hl | hl | hl
              all_goals
                rw [hl] at hs he f1 f2
                simp only [Nat.reduceAdd] at hs he f1 f2
                go_wp2
                go_meet
                case rel => exact ⟨rfl, HB⟩
            case rest => as_aux_lemma =>
              clear HB
              obtain ⟨rfl, HB3⟩ := hcut
              clear hs he f1 f2 hx
              go_wp2_with fail
              with_reducible refine (C1.out _).mono ?_
              rintro e w4 ⟨rfl, hd⟩
              have HB4 := Lib.hid (below_step HB3.out hd.below)
              clear hd
              go_wp2_with fail
              with_reducible refine (C2.out _).mono ?_
              rintro e w5 ⟨rfl, hd⟩
              have HB := Aside0.mk (below_step HB4.out hd.below)
              clear hd
              by_cases hp : p = true ∧ q = true ∧ bt r 2 = 45 ∧ bt r 6 = 45 ∧ bt r 9 = 32 ∧ (r.extract 18 22).toList = [32, 71, 77, 84]
              · as_aux_lemma =>
                have h := H.out
                rw [if_pos hp] at h
                clear H
                obtain ⟨rfl, rfl, b2, b6, b9, b18⟩ := hp
                rw [b2] at x2
                rw [b6] at x6
                rw [b9] at x9
                clear b2 b6 b9
                obtain ⟨MS, h1, h⟩ := Option.bind_eq_some_iff.mp h
                obtain ⟨JJ, h2, h3⟩ := Option.bind_eq_some_iff.mp h
                clear h
                by_cases hy : y ≥ 70
                · as_aux_lemma =>
                  rw [if_pos hy] at h3
                  have hy1 : decide (70 ≤ y) = true := decide_eq_true hy
                  have A129 := Aside0.mk h1
                  have A132 := Aside0.mk h2
                  have A135 := Aside0.mk h3
                  clear h1 h2 h3 hy
                  go_wp2_with fail
                  have n0_ := Aside0.mk (below_drew1 HB.out)
                  clear HB
                  have HB := n0_
                  clear n0_
                  refine start_ (n := 14) (S := fun w' => True) (ds := []) #[false, false, false, false, false, false, false, false, false, false, false, false, false, false] (by kernel_rfl) rfl rfl trivial (fun hHeld => ?_); refine with_tabW RefW.tab31 RefW.bits31 (fun HT_ HW_ => ?_)
                  generalize w5.drew = w136 at HB hHeld ⊢
                  refine pure_ (i := 0) (N := some 223) (v := ?_) (a' := ?_) #[true, false, false, false, false, false, false, false, false, false, false, false, false, false] rfl rfl (any_of HT_.out (by kernel_rfl)) (fun _ _ _ h => h) (Or.inl ⟨by rfl, ?_⟩) ?_ ?_
                  rotate_left
                  · intro w'
                    go_simp
                    with_reducible rfl
                  rotate_left
                  · simp only [Act.put, List.setIfInBounds_toArray, List.set_cons_zero, List.set_cons_succ, i64_w, i32_w]
                    rfl
                  refine pure_ (i := 1) (N := some 224) (v := ?_) (a' := ?_) #[true, true, false, false, false, false, false, false, false, false, false, false, false, false] rfl rfl (any_of HT_.out (by kernel_rfl)) (fun _ _ _ h => h) (Or.inl ⟨by rfl, ?_⟩) ?_ ?_
                  rotate_left
                  · intro w'
                    go_simp
                    with_reducible rfl
                  rotate_left
                  · simp only [Act.put, List.setIfInBounds_toArray, List.set_cons_zero, List.set_cons_succ, i64_w, i32_w]
                    rfl
                  refine pure_ (i := 3) (N := some 226) (v := ?_) (a' := ?_) #[true, true, false, true, false, false, false, false, false, false, false, false, false, false] rfl rfl (any_of HT_.out (by kernel_rfl)) (fun _ _ _ h => h) (Or.inl ⟨by rfl, ?_⟩) ?_ ?_
                  rotate_left
                  · intro w'
                    go_simp
                    with_reducible rfl
                  rotate_left
                  · simp only [Act.put, List.setIfInBounds_toArray, List.set_cons_zero, List.set_cons_succ, i64_w, i32_w]
                    rfl
                  refine pure_ (i := 4) (N := some 227) (v := ?_) (a' := ?_) #[true, true, false, true, true, false, false, false, false, false, false, false, false, false] rfl rfl (any_of HT_.out (by kernel_rfl)) (fun _ _ _ h => h) (Or.inl ⟨by rfl, ?_⟩) ?_ ?_
                  rotate_left
                  · intro w'
                    go_simp
                    with_reducible rfl
                  rotate_left
                  · simp only [Act.put, List.setIfInBounds_toArray, List.set_cons_zero, List.set_cons_succ, i64_w, i32_w]
                    rfl
                  refine pure_ (i := 6) (N := some 229) (v := ?_) (a' := ?_) #[true, true, false, true, true, false, true, false, false, false, false, false, false, false] rfl rfl (any_of HT_.out (by kernel_rfl)) (fun _ _ _ h => h) (Or.inl ⟨by rfl, ?_⟩) ?_ ?_
                  rotate_left
                  · intro w'
                    go_simp
                    with_reducible rfl
                  rotate_left
                  · simp only [Act.put, List.setIfInBounds_toArray, List.set_cons_zero, List.set_cons_succ, i64_w, i32_w]
                    rfl
                  refine pure_ (i := 7) (N := some 230) (v := ?_) (a' := ?_) #[true, true, false, true, true, false, true, true, false, false, false, false, false, false] rfl rfl (any_of HT_.out (by kernel_rfl)) (fun _ _ _ h => h) (Or.inl ⟨by rfl, ?_⟩) ?_ ?_
                  rotate_left
                  · intro w'
                    go_simp
                    with_reducible rfl
                  rotate_left
                  · simp only [Act.put, List.setIfInBounds_toArray, List.set_cons_zero, List.set_cons_succ, i64_w, i32_w]
                    rfl
                  refine pure_ (i := 8) (N := some 231) (v := ?_) (a' := ?_) #[true, true, false, true, true, false, true, true, true, false, false, false, false, false] rfl rfl (any_of HT_.out (by kernel_rfl)) (fun _ _ _ h => h) (Or.inl ⟨by rfl, ?_⟩) ?_ ?_
                  rotate_left
                  · intro w'
                    go_simp
                    with_reducible rfl
                  rotate_left
                  · simp only [Act.put, List.setIfInBounds_toArray, List.set_cons_zero, List.set_cons_succ, i64_w, i32_w]
                    rfl
                  refine one_ (i := 2) (N := some 225) #[true, true, true, true, true, false, true, true, true, false, false, false, false, false] rfl rfl (one_of HT_.out (by kernel_rfl)) (by decide) (fun K hK => ?_)
                  refine goes_ Tryd.func27 (by kernel_rfl) rfl #[] (by rfl) rfl rfl (by (try simp only [List.map_toArray, List.map_cons, List.map_nil]); first | done | rfl | (simp only [List.length_drop, List.length_take]; rfl)) ?_
                  with_reducible refine (ambryref9_months.calls  MS _ A129.out).mono ?_
                  rintro e w137 ⟨v279, rfl, ho0, hb⟩
                  refine ⟨_, rfl, ?_⟩
                  have n0_ := Aside0.mk (Kd.R_lower ho0 (below_size (by repeat (first | (with_reducible first | exact HB.out | apply below_alloc | apply pw_below_drewN | apply below_drew1) | exact HB.out))))
                  have n1_ := Aside0.mk (below_step (by repeat (first | (with_reducible first | exact HB.out | apply below_alloc | apply pw_below_drewN | apply below_drew1) | exact HB.out)) hb)
                  clear HB
                  have HO280 := n0_
                  have HB := n1_
                  clear n0_ n1_
                  (try clear hb)
                  (try clear hb2)
                  (try clear hk)
                  (try clear hi)
                  (try clear ho0)
                  obtain ⟨Ao138, co138, eo138⟩ := Kd.R_slice HO280.out
                  (first | subst eo138 | (injection eo138 with f1_ f2_ f3_; have f4_ := f1_.symm; have f5_ := f3_.symm; clear f1_ f2_ f3_; subst f4_; subst f5_))
                  refine hK.out _ _ trivial (fun hHeld => ?_)
                  clear hK K
                  refine norm_ (a' := ?_) ?_ ?_
                  rotate_left
                  · show Act.put _ (some 225) _ = _
                    simp only [Act.put, List.setIfInBounds_toArray, List.set_cons_zero, List.set_cons_succ, i64_w, i32_w]
                    rfl
                  refine one_ (i := 5) (N := some 228) #[true, true, true, true, true, true, true, true, true, false, false, false, false, false] rfl rfl (one_of HT_.out (by kernel_rfl)) (by decide) (fun K hK => ?_)
                  refine goes_ Tryd.func30 (by kernel_rfl) rfl #[.slice Ao138 MS.length co138, .string (r.extract 3 6)] (by rfl) rfl rfl (by (try simp only [List.map_toArray, List.map_cons, List.map_nil]); first | done | (simp only [he]; rfl) | rfl | (simp only [List.length_drop, List.length_take]; rfl)) ?_
                  with_reducible refine (ambryref9_index.calls k _ _ MS (r.extract 3 6) JJ _ ?side1 ?side2 A132.out).mono ?_
                  (case side1 => repeat (first | exact (Kd.R_reads' HO280.out).2.2 | (with_reducible refine Kd.C_alloc ?_ _) | (with_reducible refine Kd.C_drewN ?_ _) | (with_reducible refine Kd.C_drew ?_)))
                  (case side2 => exact (Kd.R_reads' HO280.out).2.1)
                  rintro e w' ⟨rfl, ⟨nd, rfl⟩⟩
                  refine ⟨_, rfl, ?_⟩
                  refine hK.out _ _ trivial (fun hHeld => ?_)
                  clear hK K
                  refine norm_ (a' := ?_) ?_ ?_
                  rotate_left
                  · show Act.put _ (some 228) _ = _
                    simp only [Act.put, List.setIfInBounds_toArray, List.set_cons_zero, List.set_cons_succ, i64_w, i32_w]
                    rfl
                  refine one_ (i := 9) (N := some 232) #[true, true, true, true, true, true, true, true, true, true, false, false, false, false] rfl rfl (one_of HT_.out (by kernel_rfl)) (by decide) (fun K hK => ?_)
                  refine goes_ Tryd.func29 (by kernel_rfl) rfl #[.int .i64 (i : Int), .int .i64 (wrap64 (y + 1900)), .int .i64 JJ, .int .i64 d, .string (r.extract 10 18)] (by rfl) rfl rfl (by (try simp only [List.map_toArray, List.map_cons, List.map_nil]); first | done | (simp only [he]; rfl) | rfl | (simp only [List.length_drop, List.length_take]; rfl)) ?_
                  with_reducible refine (ambryref9_made.calls k (i : Int) (wrap64 (y + 1900)) JJ d (r.extract 10 18) r1 r2 _ A135.out).mono ?_
                  rintro e w139 ⟨rfl, hb⟩
                  refine ⟨_, rfl, ?_⟩
                  have n0_ := Aside0.mk (Kd.R_below (by (with_reducible repeat (first | apply Kd.R_alloc | apply Kd.R_drewN | apply Kd.R_drew)); exact HO280.out) hb)
                  have n1_ := Aside0.mk (below_step (by repeat (first | (with_reducible first | exact HB.out | apply below_alloc | apply pw_below_drewN | apply below_drew1) | exact HB.out)) hb)
                  clear HO280
                  clear HB
                  have HO280 := n0_
                  have HB := n1_
                  clear n0_ n1_
                  (try clear hb)
                  (try clear hb2)
                  (try clear hk)
                  (try clear hi)
                  refine hK.out _ _ trivial (fun hHeld => ?_)
                  clear hK K
                  refine norm_ (a' := ?_) ?_ ?_
                  rotate_left
                  · show Act.put _ (some 232) _ = _
                    simp only [Act.put, List.setIfInBounds_toArray, List.set_cons_zero, List.set_cons_succ, i64_w, i32_w]
                    rfl
                  refine pure_ (i := 10) (N := some 233) (v := ?_) (a' := ?_) #[true, true, true, true, true, true, true, true, true, true, true, false, false, false] rfl rfl (any_of HT_.out (by kernel_rfl)) (fun _ _ _ h => h) (Or.inl ⟨by rfl, ?_⟩) ?_ ?_
                  rotate_left
                  · intro w'
                    go_simp
                    with_reducible rfl
                  rotate_left
                  · simp only [Act.put, List.setIfInBounds_toArray, List.set_cons_zero, List.set_cons_succ, i64_w, i32_w]
                    rfl
                  refine pure_ (i := 11) (N := some 234) (v := ?_) (a' := ?_) #[true, true, true, true, true, true, true, true, true, true, true, true, false, false] rfl rfl (any_of HT_.out (by kernel_rfl)) (fun _ _ _ h => h) (Or.inl ⟨by rfl, ?_⟩) ?_ ?_
                  rotate_left
                  · intro w'
                    go_simp
                    with_reducible rfl
                  rotate_left
                  · simp only [Act.put, List.setIfInBounds_toArray, List.set_cons_zero, List.set_cons_succ, i64_w, i32_w]
                    rfl
                  refine pure_ (i := 12) (N := some 2) (v := ?_) (a' := ?_) #[true, true, true, true, true, true, true, true, true, true, true, true, true, false] rfl rfl (any_of HT_.out (by kernel_rfl)) (fun _ _ _ h => h) (Or.inl ⟨by rfl, ?_⟩) ?_ ?_
                  rotate_left
                  · intro w'
                    go_simp
                    with_reducible rfl
                  rotate_left
                  · simp only [Act.put, List.setIfInBounds_toArray, List.set_cons_zero, List.set_cons_succ, i64_w, i32_w]
                    rfl
                  refine pure_ (i := 13) (N := some 3) (v := ?_) (a' := ?_) #[true, true, true, true, true, true, true, true, true, true, true, true, true, true] rfl rfl (any_of HT_.out (by kernel_rfl)) (fun _ _ _ h => h) (Or.inl ⟨by rfl, ?_⟩) ?_ ?_
                  rotate_left
                  · intro w'
                    go_simp
                    with_reducible rfl
                  rotate_left
                  · simp only [Act.put, List.setIfInBounds_toArray, List.set_cons_zero, List.set_cons_succ, i64_w, i32_w]
                    rfl
                  refine done_ (done_of HT_.out (by kernel_rfl)) ?_
                  try go_wp2
                  go_ret2
                  exact ⟨by first | rfl | (simp [errW_none, errW_some] <;> rfl) | (simp only [he]; first | rfl | (simp [errW_none, errW_some] <;> rfl)) | (simp [*, errW_none, errW_some] <;> rfl), by repeat (first | (with_reducible first | exact HB.out | apply below_alloc | apply pw_below_drewN | apply below_drew1) | exact HB.out)⟩
                · as_aux_lemma =>
                  rw [if_neg hy] at h3
                  have hy1 : decide (70 ≤ y) = false := decide_eq_false hy
                  have A140 := Aside0.mk h1
                  have A143 := Aside0.mk h2
                  have A146 := Aside0.mk h3
                  clear h1 h2 h3 hy
                  go_wp2_with fail
                  have n0_ := Aside0.mk (below_drew1 HB.out)
                  clear HB
                  have HB := n0_
                  clear n0_
                  refine start_ (n := 14) (S := fun w' => True) (ds := []) #[false, false, false, false, false, false, false, false, false, false, false, false, false, false] (by kernel_rfl) rfl rfl trivial (fun hHeld => ?_); refine with_tabW RefW.tab31 RefW.bits31 (fun HT_ HW_ => ?_)
                  generalize w5.drew = w147 at HB hHeld ⊢
                  refine pure_ (i := 0) (N := some 223) (v := ?_) (a' := ?_) #[true, false, false, false, false, false, false, false, false, false, false, false, false, false] rfl rfl (any_of HT_.out (by kernel_rfl)) (fun _ _ _ h => h) (Or.inl ⟨by rfl, ?_⟩) ?_ ?_
                  rotate_left
                  · intro w'
                    go_simp
                    with_reducible rfl
                  rotate_left
                  · simp only [Act.put, List.setIfInBounds_toArray, List.set_cons_zero, List.set_cons_succ, i64_w, i32_w]
                    rfl
                  refine pure_ (i := 1) (N := some 224) (v := ?_) (a' := ?_) #[true, true, false, false, false, false, false, false, false, false, false, false, false, false] rfl rfl (any_of HT_.out (by kernel_rfl)) (fun _ _ _ h => h) (Or.inl ⟨by rfl, ?_⟩) ?_ ?_
                  rotate_left
                  · intro w'
                    go_simp
                    with_reducible rfl
                  rotate_left
                  · simp only [Act.put, List.setIfInBounds_toArray, List.set_cons_zero, List.set_cons_succ, i64_w, i32_w]
                    rfl
                  refine pure_ (i := 3) (N := some 226) (v := ?_) (a' := ?_) #[true, true, false, true, false, false, false, false, false, false, false, false, false, false] rfl rfl (any_of HT_.out (by kernel_rfl)) (fun _ _ _ h => h) (Or.inl ⟨by rfl, ?_⟩) ?_ ?_
                  rotate_left
                  · intro w'
                    go_simp
                    with_reducible rfl
                  rotate_left
                  · simp only [Act.put, List.setIfInBounds_toArray, List.set_cons_zero, List.set_cons_succ, i64_w, i32_w]
                    rfl
                  refine pure_ (i := 4) (N := some 227) (v := ?_) (a' := ?_) #[true, true, false, true, true, false, false, false, false, false, false, false, false, false] rfl rfl (any_of HT_.out (by kernel_rfl)) (fun _ _ _ h => h) (Or.inl ⟨by rfl, ?_⟩) ?_ ?_
                  rotate_left
                  · intro w'
                    go_simp
                    with_reducible rfl
                  rotate_left
                  · simp only [Act.put, List.setIfInBounds_toArray, List.set_cons_zero, List.set_cons_succ, i64_w, i32_w]
                    rfl
                  refine pure_ (i := 6) (N := some 229) (v := ?_) (a' := ?_) #[true, true, false, true, true, false, true, false, false, false, false, false, false, false] rfl rfl (any_of HT_.out (by kernel_rfl)) (fun _ _ _ h => h) (Or.inl ⟨by rfl, ?_⟩) ?_ ?_
                  rotate_left
                  · intro w'
                    go_simp
                    with_reducible rfl
                  rotate_left
                  · simp only [Act.put, List.setIfInBounds_toArray, List.set_cons_zero, List.set_cons_succ, i64_w, i32_w]
                    rfl
                  refine pure_ (i := 7) (N := some 230) (v := ?_) (a' := ?_) #[true, true, false, true, true, false, true, true, false, false, false, false, false, false] rfl rfl (any_of HT_.out (by kernel_rfl)) (fun _ _ _ h => h) (Or.inl ⟨by rfl, ?_⟩) ?_ ?_
                  rotate_left
                  · intro w'
                    go_simp
                    with_reducible rfl
                  rotate_left
                  · simp only [Act.put, List.setIfInBounds_toArray, List.set_cons_zero, List.set_cons_succ, i64_w, i32_w]
                    rfl
                  refine pure_ (i := 8) (N := some 231) (v := ?_) (a' := ?_) #[true, true, false, true, true, false, true, true, true, false, false, false, false, false] rfl rfl (any_of HT_.out (by kernel_rfl)) (fun _ _ _ h => h) (Or.inl ⟨by rfl, ?_⟩) ?_ ?_
                  rotate_left
                  · intro w'
                    go_simp
                    with_reducible rfl
                  rotate_left
                  · simp only [Act.put, List.setIfInBounds_toArray, List.set_cons_zero, List.set_cons_succ, i64_w, i32_w]
                    rfl
                  refine one_ (i := 2) (N := some 225) #[true, true, true, true, true, false, true, true, true, false, false, false, false, false] rfl rfl (one_of HT_.out (by kernel_rfl)) (by decide) (fun K hK => ?_)
                  refine goes_ Tryd.func27 (by kernel_rfl) rfl #[] (by rfl) rfl rfl (by (try simp only [List.map_toArray, List.map_cons, List.map_nil]); first | done | rfl | (simp only [List.length_drop, List.length_take]; rfl)) ?_
                  with_reducible refine (ambryref9_months.calls  MS _ A140.out).mono ?_
                  rintro e w148 ⟨v285, rfl, ho0, hb⟩
                  refine ⟨_, rfl, ?_⟩
                  have n0_ := Aside0.mk (Kd.R_lower ho0 (below_size (by repeat (first | (with_reducible first | exact HB.out | apply below_alloc | apply pw_below_drewN | apply below_drew1) | exact HB.out))))
                  have n1_ := Aside0.mk (below_step (by repeat (first | (with_reducible first | exact HB.out | apply below_alloc | apply pw_below_drewN | apply below_drew1) | exact HB.out)) hb)
                  clear HB
                  have HO286 := n0_
                  have HB := n1_
                  clear n0_ n1_
                  (try clear hb)
                  (try clear hb2)
                  (try clear hk)
                  (try clear hi)
                  (try clear ho0)
                  obtain ⟨Ao149, co149, eo149⟩ := Kd.R_slice HO286.out
                  (first | subst eo149 | (injection eo149 with f1_ f2_ f3_; have f4_ := f1_.symm; have f5_ := f3_.symm; clear f1_ f2_ f3_; subst f4_; subst f5_))
                  refine hK.out _ _ trivial (fun hHeld => ?_)
                  clear hK K
                  refine norm_ (a' := ?_) ?_ ?_
                  rotate_left
                  · show Act.put _ (some 225) _ = _
                    simp only [Act.put, List.setIfInBounds_toArray, List.set_cons_zero, List.set_cons_succ, i64_w, i32_w]
                    rfl
                  refine one_ (i := 5) (N := some 228) #[true, true, true, true, true, true, true, true, true, false, false, false, false, false] rfl rfl (one_of HT_.out (by kernel_rfl)) (by decide) (fun K hK => ?_)
                  refine goes_ Tryd.func30 (by kernel_rfl) rfl #[.slice Ao149 MS.length co149, .string (r.extract 3 6)] (by rfl) rfl rfl (by (try simp only [List.map_toArray, List.map_cons, List.map_nil]); first | done | (simp only [he]; rfl) | rfl | (simp only [List.length_drop, List.length_take]; rfl)) ?_
                  with_reducible refine (ambryref9_index.calls k _ _ MS (r.extract 3 6) JJ _ ?side1 ?side2 A143.out).mono ?_
                  (case side1 => repeat (first | exact (Kd.R_reads' HO286.out).2.2 | (with_reducible refine Kd.C_alloc ?_ _) | (with_reducible refine Kd.C_drewN ?_ _) | (with_reducible refine Kd.C_drew ?_)))
                  (case side2 => exact (Kd.R_reads' HO286.out).2.1)
                  rintro e w' ⟨rfl, ⟨nd, rfl⟩⟩
                  refine ⟨_, rfl, ?_⟩
                  refine hK.out _ _ trivial (fun hHeld => ?_)
                  clear hK K
                  refine norm_ (a' := ?_) ?_ ?_
                  rotate_left
                  · show Act.put _ (some 228) _ = _
                    simp only [Act.put, List.setIfInBounds_toArray, List.set_cons_zero, List.set_cons_succ, i64_w, i32_w]
                    rfl
                  refine one_ (i := 9) (N := some 232) #[true, true, true, true, true, true, true, true, true, true, false, false, false, false] rfl rfl (one_of HT_.out (by kernel_rfl)) (by decide) (fun K hK => ?_)
                  refine goes_ Tryd.func29 (by kernel_rfl) rfl #[.int .i64 (i : Int), .int .i64 (wrap64 (y + 2000)), .int .i64 JJ, .int .i64 d, .string (r.extract 10 18)] (by rfl) rfl rfl (by (try simp only [List.map_toArray, List.map_cons, List.map_nil]); first | done | (simp only [he]; rfl) | rfl | (simp only [List.length_drop, List.length_take]; rfl)) ?_
                  with_reducible refine (ambryref9_made.calls k (i : Int) (wrap64 (y + 2000)) JJ d (r.extract 10 18) r1 r2 _ A146.out).mono ?_
                  rintro e w150 ⟨rfl, hb⟩
                  refine ⟨_, rfl, ?_⟩
                  have n0_ := Aside0.mk (Kd.R_below (by (with_reducible repeat (first | apply Kd.R_alloc | apply Kd.R_drewN | apply Kd.R_drew)); exact HO286.out) hb)
                  have n1_ := Aside0.mk (below_step (by repeat (first | (with_reducible first | exact HB.out | apply below_alloc | apply pw_below_drewN | apply below_drew1) | exact HB.out)) hb)
                  clear HO286
                  clear HB
                  have HO286 := n0_
                  have HB := n1_
                  clear n0_ n1_
                  (try clear hb)
                  (try clear hb2)
                  (try clear hk)
                  (try clear hi)
                  refine hK.out _ _ trivial (fun hHeld => ?_)
                  clear hK K
                  refine norm_ (a' := ?_) ?_ ?_
                  rotate_left
                  · show Act.put _ (some 232) _ = _
                    simp only [Act.put, List.setIfInBounds_toArray, List.set_cons_zero, List.set_cons_succ, i64_w, i32_w]
                    rfl
                  refine pure_ (i := 10) (N := some 233) (v := ?_) (a' := ?_) #[true, true, true, true, true, true, true, true, true, true, true, false, false, false] rfl rfl (any_of HT_.out (by kernel_rfl)) (fun _ _ _ h => h) (Or.inl ⟨by rfl, ?_⟩) ?_ ?_
                  rotate_left
                  · intro w'
                    go_simp
                    with_reducible rfl
                  rotate_left
                  · simp only [Act.put, List.setIfInBounds_toArray, List.set_cons_zero, List.set_cons_succ, i64_w, i32_w]
                    rfl
                  refine pure_ (i := 11) (N := some 234) (v := ?_) (a' := ?_) #[true, true, true, true, true, true, true, true, true, true, true, true, false, false] rfl rfl (any_of HT_.out (by kernel_rfl)) (fun _ _ _ h => h) (Or.inl ⟨by rfl, ?_⟩) ?_ ?_
                  rotate_left
                  · intro w'
                    go_simp
                    with_reducible rfl
                  rotate_left
                  · simp only [Act.put, List.setIfInBounds_toArray, List.set_cons_zero, List.set_cons_succ, i64_w, i32_w]
                    rfl
                  refine pure_ (i := 12) (N := some 2) (v := ?_) (a' := ?_) #[true, true, true, true, true, true, true, true, true, true, true, true, true, false] rfl rfl (any_of HT_.out (by kernel_rfl)) (fun _ _ _ h => h) (Or.inl ⟨by rfl, ?_⟩) ?_ ?_
                  rotate_left
                  · intro w'
                    go_simp
                    with_reducible rfl
                  rotate_left
                  · simp only [Act.put, List.setIfInBounds_toArray, List.set_cons_zero, List.set_cons_succ, i64_w, i32_w]
                    rfl
                  refine pure_ (i := 13) (N := some 3) (v := ?_) (a' := ?_) #[true, true, true, true, true, true, true, true, true, true, true, true, true, true] rfl rfl (any_of HT_.out (by kernel_rfl)) (fun _ _ _ h => h) (Or.inl ⟨by rfl, ?_⟩) ?_ ?_
                  rotate_left
                  · intro w'
                    go_simp
                    with_reducible rfl
                  rotate_left
                  · simp only [Act.put, List.setIfInBounds_toArray, List.set_cons_zero, List.set_cons_succ, i64_w, i32_w]
                    rfl
                  refine done_ (done_of HT_.out (by kernel_rfl)) ?_
                  try go_wp2
                  go_ret2
                  exact ⟨by first | rfl | (simp [errW_none, errW_some] <;> rfl) | (simp only [he]; first | rfl | (simp [errW_none, errW_some] <;> rfl)) | (simp [*, errW_none, errW_some] <;> rfl), by repeat (first | (with_reducible first | exact HB.out | apply below_alloc | apply pw_below_drewN | apply below_drew1) | exact HB.out)⟩
              · as_aux_lemma =>
                have h := H.out
                rw [if_neg hp] at h
                obtain ⟨rfl, rfl⟩ := Prod.mk.inj (Option.some.inj h)
                clear H h
                have hn : p = false ∨ p = true ∧ q = false ∨ p = true ∧ q = true ∧ (bt r 2 == 45) = false ∨ p = true ∧ q = true ∧ (bt r 2 == 45) = true ∧ (bt r 6 == 45) = false ∨ p = true ∧ q = true ∧ (bt r 2 == 45) = true ∧ (bt r 6 == 45) = true ∧ (bt r 9 == 32) = false ∨
                    p = true ∧ q = true ∧ (bt r 2 == 45) = true ∧ (bt r 6 == 45) = true ∧ (bt r 9 == 32) = true ∧ ((r.extract 18 22).toList == [32, 71, 77, 84]) = false := by
                  rw [← beq_iff_eq (a := bt r 2), ← beq_iff_eq (a := bt r 6), ← beq_iff_eq (a := bt r 9), ← beq_iff_eq (a := (r.extract 18 22).toList)] at hp
                  revert hp
                  cases p <;> cases q <;> cases (bt r 2 == 45) <;> cases (bt r 6 == 45) <;> cases (bt r 9 == 32) <;> cases ((r.extract 18 22).toList == [32, 71, 77, 84]) <;> simp
                clear hp
                rcases hn with rfl | ⟨rfl, rfl⟩ | ⟨rfl, rfl, g1⟩ | ⟨rfl, rfl, g1, g2⟩ | ⟨rfl, rfl, g1, g2, g3⟩ | ⟨rfl, rfl, g1, g2, g3, g4⟩
                all_goals
                  have z1 : (bt r 2 != 45) = !(bt r 2 == 45) := rfl
                  have z2 : (bt r 6 != 45) = !(bt r 6 == 45) := rfl
                  have z3 : (bt r 9 != 32) = !(bt r 9 == 32) := rfl
                  have z4 : ((r.extract 18 22).toList != [32, 71, 77, 84]) = !((r.extract 18 22).toList == [32, 71, 77, 84]) := rfl
                  try rw [g1] at z1
                  try rw [g2] at z2
                  try rw [g3] at z3
                  try rw [g4] at z4
                  try simp only [Bool.not_true, Bool.not_false] at z1 z2 z3 z4
                  go_wp2_with fail
                  go_ret2
                  exact ⟨rfl, HB.out⟩
          · as_aux_lemma =>
            have h := HH.out
            rw [hc, if_neg (by decide)] at h
            clear HH LC hc
            rcases hff with hs | ⟨hs, f1⟩ | ⟨hs, f1, f2⟩
            · rcases hsz with hl | hl | hl | hl
              all_goals
                rw [hl] at hs
                simp only [Nat.reduceAdd] at hs
                have hi := beq_eq_false_iff_ne.mpr (show (a.size : Int) ≠ ((l.size : Int) + 24) by omega)
                rw [hl] at hi
                simp only [Int.cast_ofNat_Int, Int.reduceAdd] at hi
                have H' := Aside0.mk h
                clear h
                go_wp2_with fail
                go_roundg k1
                case measure => omega
                case rel => exact ⟨i + 1, rfl, ⟨HK1.out⟩, ⟨by rw [HD.out]; exact H'.out⟩, ⟨HB3.out⟩⟩
            all_goals
              rcases hsz with hl | hl | hl | hl
              all_goals
                rw [hl] at hs f1
                try rw [hl] at f2
                simp only [Nat.reduceAdd] at hs f1
                try simp only [Nat.reduceAdd] at f2
                have H' := Aside0.mk h
                clear h
                go_wp2_with fail
                go_roundg k1
                case measure => omega
                case rel => exact ⟨i + 1, rfl, ⟨HK1.out⟩, ⟨by rw [HD.out]; exact H'.out⟩, ⟨HB3.out⟩⟩

theorem ambryref9_Parse.calls (k : Nat) (a0 : ByteArray) (r1 : Int) (r2 : Int) (w : World) (h : ambryref9_Parse.f k a0 = some (r1, r2)) :
    Calls Tryd.prog 12 #[.string a0] w fun e w' => e = .returned (.tuple #[.int .i64 r1, .int .i64 r2]) ∧ Below w.heap.size w w' := by
  unfold ambryref9_Parse.f at h
  by_cases g1 : G1 a0 = true
  · rw [if_pos g1] at h
    exact ref_form1 k a0 r1 r2 w g1 h
  · rw [if_neg g1] at h
    by_cases g2 : G2 a0 = true
    · rw [if_pos g2] at h
      unfold rform2 at h
      by_cases h1 : bt (a0.extract 8 10) 0 = 32
      · rw [if_pos h1] at h
        exact ref_form2a k a0 r1 r2 w g2 h1 h
      · rw [if_neg h1] at h
        by_cases h2 : bt (a0.extract 8 10) 0 = 48
        · rw [if_pos h2] at h
          exact ref_form2b k a0 r1 r2 w g2 h1 h2 h
        · rw [if_neg h2] at h
          exact ref_form2c k a0 r1 r2 w g2 h1 h2 h
    · rw [if_neg g2] at h
      obtain ⟨ls, hls, h⟩ := Option.bind_eq_some_iff.mp h
      refine ref_rest k a0 r1 r2 ls w (Bool.eq_false_iff.mpr g1) (Bool.eq_false_iff.mpr g2) hls ?_ ?_ h
      · obtain rfl := Option.some.inj hls
        rfl
      · obtain rfl := Option.some.inj hls
        intro l hl
        simp only [List.mem_cons, List.not_mem_nil, or_false] at hl
        rcases hl with rfl | rfl | rfl | rfl | rfl | rfl | rfl <;> decide
end Go.Proofs.YtcejglmmjbmafaaDoor.X
-- printed by a program (xp.py, over the kit's print); Lean checks it
namespace Go.Proofs.YtcejglmmjbmafaaDoor.X
open Go.RowKit Go.Proofs.YtcejglmmjbmafaaDoorW.PrintWords Go.Proofs.YtcejglmmjbmafaaDoorW.PrintLast Go.Proofs.YtcejglmmjbmafaaDoorW.PrintMore
attribute [local go_sem] max2_int min2_int max_two min_two max_three min_three max_four min_four   -- for this text's walks alone
set_option linter.unusedVariables false
set_option linter.unusedSimpArgs false

/-! ### ambrylaw9_DateReads: function 4 -/
def ambrylaw9_DateReads.f (k : Nat) (a0 : ByteArray) : Option (Bool) := (ambrylaw9_known.f k).bind fun t242 => (if t242 = true then (if (a0.size : Int) > 200 then (some true) else ((date_Parse.f k a0).bind fun bt243 => ((ambryref9_Parse.f k a0).bind fun bt245 => (if bt243.1 = bt245.1 then (some (bt243.2 == bt245.2)) else (some false))))) else (some false))
theorem ambrylaw9_DateReads.mono : ∀ a0 k, LeO (ambrylaw9_DateReads.f k a0) (ambrylaw9_DateReads.f (k + 1) a0) := by
  intro a0 k
  unfold ambrylaw9_DateReads.f
  repeat' first
      | (with_reducible exact ambrylaw9_known.mono _)
      | (with_reducible exact ambryref9_Parse.mono _ _)
      | (with_reducible exact date_Parse.mono _ _)
      | (with_reducible exact LeO.refl _)
      | (with_reducible exact LeO.none _)
      | (with_reducible refine LeO.ite ?_ ?_)
      | (with_reducible refine LeO.bind ?_ (fun _ => ?_))
      | exact ambrylaw9_known.mono _
      | exact ambryref9_Parse.mono _ _
      | exact date_Parse.mono _ _
      | exact LeO.none _
      | refine LeO.ite ?_ ?_
      | refine LeO.bind ?_ (fun _ => ?_)
set_option maxHeartbeats 8000000 in
set_option maxRecDepth 100000 in
theorem ambrylaw9_DateReads.calls (k : Nat) (a0 : ByteArray) (r : Bool) (w : World) (hG : GL w) (h : ambrylaw9_DateReads.f k a0 = some r) :
    Calls Tryd.prog 4 #[.string a0] w fun e w' => e = .returned (.bool r) ∧ Below w.heap.size w w' := by
  have HG := Aside0.mk hG
  clear hG
  have HB := Aside0.mk (Below.refl w.heap.size w)
  have H : ((ambrylaw9_known.f k).bind fun t242 => (if t242 = true then (if (a0.size : Int) > 200 then (some true) else ((date_Parse.f k a0).bind fun bt243 => ((ambryref9_Parse.f k a0).bind fun bt245 => (if bt243.1 = bt245.1 then (some (bt243.2 == bt245.2)) else (some false))))) else (some false))) = some r := h
  clear h
  replace H := Option.bind_eq_some_iff.mp H
  obtain ⟨t242, A20, H⟩ := H
  replace H : (if t242 = true then (if (a0.size : Int) > 200 then (some true) else ((date_Parse.f k a0).bind fun bt243 => ((ambryref9_Parse.f k a0).bind fun bt245 => (if bt243.1 = bt245.1 then (some (bt243.2 == bt245.2)) else (some false))))) else (some false)) = some r := H
  have A2 := Aside0.mk A20
  clear A20
  by_cases c3 : t242 = true
  · subst c3
    have H1 : (if (a0.size : Int) > 200 then (some true) else ((date_Parse.f k a0).bind fun bt243 => ((ambryref9_Parse.f k a0).bind fun bt245 => (if bt243.1 = bt245.1 then (some (bt243.2 == bt245.2)) else (some false))))) = some r := by rw [if_pos rfl] at H; exact H
    clear H
    have H := H1
    clear H1
    by_cases c4 : (a0.size : Int) > 200
    · rw [if_pos c4] at H
      have c4b0 : decide (200 < (a0.size : Int)) = true := decide_eq_true c4
      have c4b1 : decide (200 < a0.size) = true := decide_eq_true (by omega)
      clear c4
      obtain rfl := Option.some.inj H
      go_enter Tryd.func4, Tryd.ntmps4
      go_wp2_with (first | ((with_reducible refine gate_callee (f := 8) rfl ?_); refine goesL_ (some 7) rfl rfl Tryd.func8 (by kernel_rfl) rfl #[] rfl (by (try simp only [List.map_toArray, List.map_cons, List.map_nil]); first | done | rfl | (simp only [List.length_drop, List.length_take]; rfl)) ?_; (with_reducible refine (ambrylaw9_known.calls k  true _ ?side1 A2.out).mono ?_); (case side1 => exact GL.below HG.out (by repeat (first | (with_reducible first | exact HB.out | apply below_alloc | apply pw_below_drewN | apply below_drew1) | exact HB.out))); rintro e w5 ⟨rfl, hb⟩; refine ⟨_, rfl, ?_⟩; have n0_ := Aside0.mk (below_step (by repeat (first | (with_reducible first | exact HB.out | apply below_alloc | apply pw_below_drewN | apply below_drew1) | exact HB.out)) hb); clear HB; have HB := n0_; clear n0_; (try clear hb); (try clear hb2); (try clear hk); (try clear hi)))
      go_ret
      exact ⟨by first | rfl | (simp [errW_none, errW_some] <;> rfl) | (simp [*, errW_none, errW_some] <;> rfl), by repeat (first | (with_reducible first | exact HB.out | apply below_alloc | apply pw_below_drewN | apply below_drew1) | exact HB.out)⟩
    · rw [if_neg c4] at H
      have c4b0 : decide (200 < (a0.size : Int)) = false := decide_eq_false c4
      have c4b1 : decide (200 < a0.size) = false := decide_eq_false (by omega)
      clear c4
      replace H := Option.bind_eq_some_iff.mp H
      obtain ⟨⟨t243, t244⟩, A60, H⟩ := H
      replace H : ((ambryref9_Parse.f k a0).bind fun bt245 => (if t243 = bt245.1 then (some (t244 == bt245.2)) else (some false))) = some r := H
      have A6 := Aside0.mk A60
      clear A60
      replace H := Option.bind_eq_some_iff.mp H
      obtain ⟨⟨t245, t246⟩, A70, H⟩ := H
      replace H : (if t243 = t245 then (some (t244 == t246)) else (some false)) = some r := H
      have A7 := Aside0.mk A70
      clear A70
      by_cases c8 : t243 = t245
      · rw [if_pos c8] at H
        have c8b0 : (t243 == t245) = true := beq_iff_eq.mpr c8
        have c8b1 : (t243 != t245) = false := bne_eq_false_iff_eq.mpr c8
        clear c8
        obtain rfl := Option.some.inj H
        go_enter Tryd.func4, Tryd.ntmps4
        go_wp2_with (first | ((with_reducible refine gate_callee (f := 8) rfl ?_); refine goesL_ (some 7) rfl rfl Tryd.func8 (by kernel_rfl) rfl #[] rfl (by (try simp only [List.map_toArray, List.map_cons, List.map_nil]); first | done | rfl | (simp only [List.length_drop, List.length_take]; rfl)) ?_; (with_reducible refine (ambrylaw9_known.calls k  true _ ?side1 A2.out).mono ?_); (case side1 => exact GL.below HG.out (by repeat (first | (with_reducible first | exact HB.out | apply below_alloc | apply pw_below_drewN | apply below_drew1) | exact HB.out))); rintro e w9 ⟨rfl, hb⟩; refine ⟨_, rfl, ?_⟩; have n0_ := Aside0.mk (below_step (by repeat (first | (with_reducible first | exact HB.out | apply below_alloc | apply pw_below_drewN | apply below_drew1) | exact HB.out)) hb); clear HB; have HB := n0_; clear n0_; (try clear hb); (try clear hb2); (try clear hk); (try clear hi)) | ((with_reducible refine gate_callee (f := 10) rfl ?_); refine goesL_ (some 14) rfl rfl Tryd.func10 (by kernel_rfl) rfl #[.string a0] rfl (by (try simp only [List.map_toArray, List.map_cons, List.map_nil]); first | done | rfl | (simp only [List.length_drop, List.length_take]; rfl)) ?_; (with_reducible refine (date_Parse.calls k a0 t243 t244 _ ?side1 A6.out).mono ?_); (case side1 => exact GL.below HG.out (by repeat (first | (with_reducible first | exact HB.out | apply below_alloc | apply pw_below_drewN | apply below_drew1) | exact HB.out))); rintro e w10 ⟨rfl, hb⟩; refine ⟨_, rfl, ?_⟩; have n0_ := Aside0.mk (below_step (by repeat (first | (with_reducible first | exact HB.out | apply below_alloc | apply pw_below_drewN | apply below_drew1) | exact HB.out)) hb); clear HB; have HB := n0_; clear n0_; (try clear hb); (try clear hb2); (try clear hk); (try clear hi)) | ((with_reducible refine gate_callee (f := 12) rfl ?_); refine goesL_ (some 19) rfl rfl Tryd.func12 (by kernel_rfl) rfl #[.string a0] rfl (by (try simp only [List.map_toArray, List.map_cons, List.map_nil]); first | done | rfl | (simp only [List.length_drop, List.length_take]; rfl)) ?_; (with_reducible refine (ambryref9_Parse.calls k a0 t245 t246 _ A7.out).mono ?_); rintro e w11 ⟨rfl, hb⟩; refine ⟨_, rfl, ?_⟩; have n0_ := Aside0.mk (below_step (by repeat (first | (with_reducible first | exact HB.out | apply below_alloc | apply pw_below_drewN | apply below_drew1) | exact HB.out)) hb); clear HB; have HB := n0_; clear n0_; (try clear hb); (try clear hb2); (try clear hk); (try clear hi)))
        go_ret
        exact ⟨by first | rfl | (simp [errW_none, errW_some] <;> rfl) | (simp [*, errW_none, errW_some] <;> rfl), by repeat (first | (with_reducible first | exact HB.out | apply below_alloc | apply pw_below_drewN | apply below_drew1) | exact HB.out)⟩
      · rw [if_neg c8] at H
        have c8b0 : (t243 == t245) = false := beq_eq_false_iff_ne.mpr c8
        have c8b1 : (t243 != t245) = true := bne_iff_ne.mpr c8
        obtain rfl := Option.some.inj H
        go_enter Tryd.func4, Tryd.ntmps4
        go_wp2_with (first | ((with_reducible refine gate_callee (f := 8) rfl ?_); refine goesL_ (some 7) rfl rfl Tryd.func8 (by kernel_rfl) rfl #[] rfl (by (try simp only [List.map_toArray, List.map_cons, List.map_nil]); first | done | rfl | (simp only [List.length_drop, List.length_take]; rfl)) ?_; (with_reducible refine (ambrylaw9_known.calls k  true _ ?side1 A2.out).mono ?_); (case side1 => exact GL.below HG.out (by repeat (first | (with_reducible first | exact HB.out | apply below_alloc | apply pw_below_drewN | apply below_drew1) | exact HB.out))); rintro e w12 ⟨rfl, hb⟩; refine ⟨_, rfl, ?_⟩; have n0_ := Aside0.mk (below_step (by repeat (first | (with_reducible first | exact HB.out | apply below_alloc | apply pw_below_drewN | apply below_drew1) | exact HB.out)) hb); clear HB; have HB := n0_; clear n0_; (try clear hb); (try clear hb2); (try clear hk); (try clear hi)) | ((with_reducible refine gate_callee (f := 10) rfl ?_); refine goesL_ (some 14) rfl rfl Tryd.func10 (by kernel_rfl) rfl #[.string a0] rfl (by (try simp only [List.map_toArray, List.map_cons, List.map_nil]); first | done | rfl | (simp only [List.length_drop, List.length_take]; rfl)) ?_; (with_reducible refine (date_Parse.calls k a0 t243 t244 _ ?side1 A6.out).mono ?_); (case side1 => exact GL.below HG.out (by repeat (first | (with_reducible first | exact HB.out | apply below_alloc | apply pw_below_drewN | apply below_drew1) | exact HB.out))); rintro e w13 ⟨rfl, hb⟩; refine ⟨_, rfl, ?_⟩; have n0_ := Aside0.mk (below_step (by repeat (first | (with_reducible first | exact HB.out | apply below_alloc | apply pw_below_drewN | apply below_drew1) | exact HB.out)) hb); clear HB; have HB := n0_; clear n0_; (try clear hb); (try clear hb2); (try clear hk); (try clear hi)) | ((with_reducible refine gate_callee (f := 12) rfl ?_); refine goesL_ (some 19) rfl rfl Tryd.func12 (by kernel_rfl) rfl #[.string a0] rfl (by (try simp only [List.map_toArray, List.map_cons, List.map_nil]); first | done | rfl | (simp only [List.length_drop, List.length_take]; rfl)) ?_; (with_reducible refine (ambryref9_Parse.calls k a0 t245 t246 _ A7.out).mono ?_); rintro e w14 ⟨rfl, hb⟩; refine ⟨_, rfl, ?_⟩; have n0_ := Aside0.mk (below_step (by repeat (first | (with_reducible first | exact HB.out | apply below_alloc | apply pw_below_drewN | apply below_drew1) | exact HB.out)) hb); clear HB; have HB := n0_; clear n0_; (try clear hb); (try clear hb2); (try clear hk); (try clear hi)))
        go_ret
        exact ⟨by first | rfl | (simp [errW_none, errW_some] <;> rfl) | (simp [*, errW_none, errW_some] <;> rfl), by repeat (first | (with_reducible first | exact HB.out | apply below_alloc | apply pw_below_drewN | apply below_drew1) | exact HB.out)⟩
  · replace c3 := Bool.eq_false_iff.mpr c3
    subst c3
    have H1 : (some false) = some r := by rw [if_neg (show ¬ (false = true) by decide)] at H; exact H
    clear H
    have H := H1
    clear H1
    obtain rfl := Option.some.inj H
    go_enter Tryd.func4, Tryd.ntmps4
    go_wp2_with (first | ((with_reducible refine gate_callee (f := 8) rfl ?_); refine goesL_ (some 7) rfl rfl Tryd.func8 (by kernel_rfl) rfl #[] rfl (by (try simp only [List.map_toArray, List.map_cons, List.map_nil]); first | done | rfl | (simp only [List.length_drop, List.length_take]; rfl)) ?_; (with_reducible refine (ambrylaw9_known.calls k  false _ ?side1 A2.out).mono ?_); (case side1 => exact GL.below HG.out (by repeat (first | (with_reducible first | exact HB.out | apply below_alloc | apply pw_below_drewN | apply below_drew1) | exact HB.out))); rintro e w15 ⟨rfl, hb⟩; refine ⟨_, rfl, ?_⟩; have n0_ := Aside0.mk (below_step (by repeat (first | (with_reducible first | exact HB.out | apply below_alloc | apply pw_below_drewN | apply below_drew1) | exact HB.out)) hb); clear HB; have HB := n0_; clear n0_; (try clear hb); (try clear hb2); (try clear hk); (try clear hi)))
    go_ret
    exact ⟨by first | rfl | (simp [errW_none, errW_some] <;> rfl) | (simp [*, errW_none, errW_some] <;> rfl), by repeat (first | (with_reducible first | exact HB.out | apply below_alloc | apply pw_below_drewN | apply below_drew1) | exact HB.out)⟩

/-- THE ONE PURE STATEMENT of ambrylaw9_DateReads: yours. -/
def ambrylaw9_DateReads.Pure : Prop := ∀ (a0 : ByteArray), a0.size ≤ 140737488351232 → ∃ k, ambrylaw9_DateReads.f k a0 = some true
theorem ambrylaw9_DateReads.walk (P : ambrylaw9_DateReads.Pure) (a0 : ByteArray) (w : World) (hG : GL w) (w0 : a0.size ≤ 140737488351232) :
    Calls Tryd.prog 4 #[.string a0] w fun e w' => e = .returned (.bool true) ∧ Below w.heap.size w w' := by
  obtain ⟨k, h⟩ := P a0 w0
  refine (ambrylaw9_DateReads.calls k a0 true w hG h).mono ?_
  rintro e w' ⟨rfl, hd⟩
  exact ⟨rfl, hd⟩

end Go.Proofs.YtcejglmmjbmafaaDoor.X
/- Plain arithmetic of the calendar: years' and months' lengths, days' numbers. No program here. -/
namespace Go.Proofs.YtcejglmmjbmafaaDoor.Cal
open Go.RowKit

theorem w64 {x : Int} (h0 : -9223372036854775808 ≤ x) (h1 : x ≤ 9223372036854775807) : wrap64 x = x := by unfold wrap64; omega

/-- 1 where the year is a leap year. -/
def lp (y : Int) : Int := if y % 4 = 0 then (if y % 100 = 0 then (if y % 400 = 0 then 1 else 0) else 1) else 0
theorem lp_01 (y : Int) : lp y = 0 ∨ lp y = 1 := by unfold lp; split <;> (try split) <;> (try split) <;> simp
/-- A month's length (January is 0). -/
def len (y m : Int) : Int := if m = 1 then 28 + lp y else if m = 3 ∨ m = 5 ∨ m = 8 ∨ m = 10 then 30 else 31
theorem len_lo (y m : Int) : 28 ≤ len y m := by have := lp_01 y; unfold len; split <;> (try split) <;> omega
theorem len_hi (y m : Int) : len y m ≤ 31 := by have := lp_01 y; unfold len; split <;> (try split) <;> omega
/-- Days ahead of a year, from 1970 on. -/
def dys (y : Int) : Int := 365 * (y - 1970) + ((y - 1) / 4 - (y - 1) / 100 + (y - 1) / 400) - 477
theorem dys_succ (y : Int) : dys (y + 1) = dys y + 365 + lp y := by
  unfold dys lp
  split
  · split
    · split <;> omega
    · omega
  · omega
theorem dys_1970 : dys 1970 = 0 := by decide
theorem dys_10000 : dys 10000 = 2932897 := by decide
theorem dys_lt {a b : Int} (h : a < b) : dys a + 365 ≤ dys b := by unfold dys; omega
theorem dys_le {a b : Int} (h : a ≤ b) : dys a ≤ dys b := by unfold dys; omega
/-- Days ahead of a month in its year. -/
def cum (y m : Int) : Int := if m ≤ 0 then 0 else if m = 1 then 31 else (if m = 2 then 59 else if m = 3 then 90 else if m = 4 then 120 else if m = 5 then 151 else if m = 6 then 181 else if m = 7 then 212 else if m = 8 then 243 else if m = 9 then 273 else if m = 10 then 304 else if m = 11 then 334 else 365) + lp y
theorem cum_0 (y : Int) : cum y 0 = 0 := rfl
theorem cum_12 (y : Int) : cum y 12 = 365 + lp y := rfl
theorem cum_succ (y m : Int) (h0 : 0 ≤ m) (h1 : m < 12) : cum y (m + 1) = cum y m + len y m := by
  obtain ⟨n, rfl⟩ := Int.eq_ofNat_of_zero_le h0
  match n, h1 with
  | 0, _ | 1, _ | 2, _ | 3, _ | 4, _ | 5, _ | 6, _ | 7, _ | 8, _ | 9, _ | 10, _ | 11, _ => simp [cum, len]; try omega
  | n + 12, h => omega
theorem cum_mono (y : Int) {a b : Int} (h0 : 0 ≤ a) (h : a ≤ b) (h1 : b ≤ 12) : cum y a ≤ cum y b := by
  obtain ⟨d, hd⟩ := Int.eq_ofNat_of_zero_le (show 0 ≤ b - a by omega)
  obtain rfl : b = a + d := by omega
  clear hd h
  induction d with
  | zero => simp
  | succ d ih =>
    have := cum_succ y (a + d) (by omega) (by omega)
    have := len_lo y (a + d)
    have := ih (by omega)
    have e : a + ((d + 1 : Nat) : Int) = a + d + 1 := by omega
    rw [e]
    omega
theorem cum_pos (y m : Int) (h0 : 0 ≤ m) (h1 : m ≤ 12) : 0 ≤ cum y m ∧ cum y m ≤ 366 := by
  have h2 := cum_mono y (Int.le_refl 0) h0 h1
  have h3 := cum_mono y h0 h1 (Int.le_refl 12)
  rw [cum_0] at h2
  rw [cum_12] at h3
  have := lp_01 y
  omega
/-- A date that may be. -/
structure Ok (y m d : Int) : Prop where
  y0 : 1970 ≤ y
  y1 : y ≤ 9999
  m0 : 0 ≤ m
  m1 : m < 12
  d0 : 1 ≤ d
  d1 : d ≤ len y m
/-- A date's number. -/
def num (y m d : Int) : Int := dys y + cum y m + d - 1
theorem Ok.lo {y m d : Int} (h : Ok y m d) : dys y ≤ num y m d := by
  have := (cum_pos y m h.m0 (by have := h.m1; omega)).1
  have := h.d0
  unfold num
  omega
theorem Ok.hi {y m d : Int} (h : Ok y m d) : num y m d < dys (y + 1) := by
  have h1 := cum_succ y m h.m0 h.m1
  have h2 := cum_mono y (show 0 ≤ m + 1 by have := h.m0; omega) (show m + 1 ≤ 12 by have := h.m1; omega) (Int.le_refl 12)
  rw [cum_12] at h2
  have h3 := dys_succ y
  have := h.d1
  unfold num
  omega
theorem Ok.bound {y m d : Int} (h : Ok y m d) : 0 ≤ num y m d ∧ num y m d ≤ 2932896 := by
  have h1 := h.lo
  have h2 := h.hi
  have h3 := dys_le h.y0
  have h4 := dys_le (show y + 1 ≤ 10000 by have := h.y1; omega)
  rw [dys_1970] at h3
  rw [dys_10000] at h4
  omega
/-- A number is one date's alone. -/
theorem num_inj {y m d y' m' d' : Int} (h : Ok y m d) (h' : Ok y' m' d') (e : num y m d = num y' m' d') : y = y' ∧ m = m' ∧ d = d' := by
  have l := h.lo; have l' := h'.lo; have u := h.hi; have u' := h'.hi
  have hy : y = y' := by
    rcases Int.lt_trichotomy y y' with hlt | heq | hgt
    · have := dys_le (show y + 1 ≤ y' by omega); omega
    · exact heq
    · have := dys_le (show y' + 1 ≤ y by omega); omega
  subst hy
  have hm : m = m' := by
    have c := cum_succ y m h.m0 h.m1
    have c' := cum_succ y m' h'.m0 h'.m1
    have := h.d0; have := h.d1; have := h'.d0; have := h'.d1
    unfold num at e
    rcases Int.lt_trichotomy m m' with hlt | heq | hgt
    · have := cum_mono y (show 0 ≤ m + 1 by have := h.m0; omega) (show m + 1 ≤ m' by omega) (by have := h'.m1; omega); omega
    · exact heq
    · have := cum_mono y (show 0 ≤ m' + 1 by have := h'.m0; omega) (show m' + 1 ≤ m by omega) (by have := h.m1; omega); omega
  subst hm
  unfold num at e
  exact ⟨rfl, rfl, by omega⟩
end Go.Proofs.YtcejglmmjbmafaaDoor.Cal
-- printed by a program (xp.py, over the kit's print); Lean checks it
namespace Go.Proofs.YtcejglmmjbmafaaDoor.X
open Go.RowKit Go.Proofs.YtcejglmmjbmafaaDoorW.PrintWords Go.Proofs.YtcejglmmjbmafaaDoorW.PrintLast Go.Proofs.YtcejglmmjbmafaaDoorW.PrintMore
attribute [local go_sem] max2_int min2_int max_two min_two max_three min_three max_four min_four   -- for this text's walks alone
set_option linter.unusedVariables false
set_option linter.unusedSimpArgs false

/-! ### ambryref9_two: function 26 -/
def ambryref9_two.f (a0 : Int) : Option (ByteArray) := if 0 ≤ (Int.tmod (wrap64 (Int.tdiv a0 10)) 10) then (if (Int.tmod (wrap64 (Int.tdiv a0 10)) 10) ≤ (wrap64 ((Int.tmod (wrap64 (Int.tdiv a0 10)) 10) + 1)) then (if (wrap64 ((Int.tmod (wrap64 (Int.tdiv a0 10)) 10) + 1)) ≤ 10 then (if 0 ≤ (Int.tmod a0 10) then (if (Int.tmod a0 10) ≤ (wrap64 ((Int.tmod a0 10) + 1)) then (if (wrap64 ((Int.tmod a0 10) + 1)) ≤ 10 then (if ((⟨#[48, 49, 50, 51, 52, 53, 54, 55, 56, 57]⟩ : ByteArray).extract ((Int.tmod (wrap64 (Int.tdiv a0 10)) 10) : Int).toNat ((wrap64 ((Int.tmod (wrap64 (Int.tdiv a0 10)) 10) + 1)) : Int).toNat).size + ((⟨#[48, 49, 50, 51, 52, 53, 54, 55, 56, 57]⟩ : ByteArray).extract ((Int.tmod a0 10) : Int).toNat ((wrap64 ((Int.tmod a0 10) + 1)) : Int).toNat).size ≤ 9223372036854775807 then (some (((⟨#[48, 49, 50, 51, 52, 53, 54, 55, 56, 57]⟩ : ByteArray).extract ((Int.tmod (wrap64 (Int.tdiv a0 10)) 10) : Int).toNat ((wrap64 ((Int.tmod (wrap64 (Int.tdiv a0 10)) 10) + 1)) : Int).toNat) ++ ((⟨#[48, 49, 50, 51, 52, 53, 54, 55, 56, 57]⟩ : ByteArray).extract ((Int.tmod a0 10) : Int).toNat ((wrap64 ((Int.tmod a0 10) + 1)) : Int).toNat))) else (none)) else (none)) else (none)) else (none)) else (none)) else (none)) else (none)
set_option maxHeartbeats 8000000 in
set_option maxRecDepth 100000 in
theorem ambryref9_two.calls (a0 : Int) (r : ByteArray) (w : World) (h : ambryref9_two.f a0 = some r) :
    Calls Tryd.prog 26 #[.int .i64 a0] w fun e w' => e = .returned (.string r) ∧ Drawn0 w w' := by
  have H : (if 0 ≤ (Int.tmod (wrap64 (Int.tdiv a0 10)) 10) then (if (Int.tmod (wrap64 (Int.tdiv a0 10)) 10) ≤ (wrap64 ((Int.tmod (wrap64 (Int.tdiv a0 10)) 10) + 1)) then (if (wrap64 ((Int.tmod (wrap64 (Int.tdiv a0 10)) 10) + 1)) ≤ 10 then (if 0 ≤ (Int.tmod a0 10) then (if (Int.tmod a0 10) ≤ (wrap64 ((Int.tmod a0 10) + 1)) then (if (wrap64 ((Int.tmod a0 10) + 1)) ≤ 10 then (if ((⟨#[48, 49, 50, 51, 52, 53, 54, 55, 56, 57]⟩ : ByteArray).extract ((Int.tmod (wrap64 (Int.tdiv a0 10)) 10) : Int).toNat ((wrap64 ((Int.tmod (wrap64 (Int.tdiv a0 10)) 10) + 1)) : Int).toNat).size + ((⟨#[48, 49, 50, 51, 52, 53, 54, 55, 56, 57]⟩ : ByteArray).extract ((Int.tmod a0 10) : Int).toNat ((wrap64 ((Int.tmod a0 10) + 1)) : Int).toNat).size ≤ 9223372036854775807 then (some (((⟨#[48, 49, 50, 51, 52, 53, 54, 55, 56, 57]⟩ : ByteArray).extract ((Int.tmod (wrap64 (Int.tdiv a0 10)) 10) : Int).toNat ((wrap64 ((Int.tmod (wrap64 (Int.tdiv a0 10)) 10) + 1)) : Int).toNat) ++ ((⟨#[48, 49, 50, 51, 52, 53, 54, 55, 56, 57]⟩ : ByteArray).extract ((Int.tmod a0 10) : Int).toNat ((wrap64 ((Int.tmod a0 10) + 1)) : Int).toNat))) else (none)) else (none)) else (none)) else (none)) else (none)) else (none)) else (none)) = some r := h
  clear h
  obtain ⟨ji2, hji2⟩ : ∃ j_ : Int, (Int.tmod (wrap64 (Int.tdiv a0 10)) 10) = j_ := ⟨_, rfl⟩
  replace H : (if 0 ≤ (ji2) then (if (ji2) ≤ (wrap64 ((ji2) + 1)) then (if (wrap64 ((ji2) + 1)) ≤ 10 then (if 0 ≤ (Int.tmod a0 10) then (if (Int.tmod a0 10) ≤ (wrap64 ((Int.tmod a0 10) + 1)) then (if (wrap64 ((Int.tmod a0 10) + 1)) ≤ 10 then (if ((⟨#[48, 49, 50, 51, 52, 53, 54, 55, 56, 57]⟩ : ByteArray).extract ((ji2) : Int).toNat ((wrap64 ((ji2) + 1)) : Int).toNat).size + ((⟨#[48, 49, 50, 51, 52, 53, 54, 55, 56, 57]⟩ : ByteArray).extract ((Int.tmod a0 10) : Int).toNat ((wrap64 ((Int.tmod a0 10) + 1)) : Int).toNat).size ≤ 9223372036854775807 then (some (((⟨#[48, 49, 50, 51, 52, 53, 54, 55, 56, 57]⟩ : ByteArray).extract ((ji2) : Int).toNat ((wrap64 ((ji2) + 1)) : Int).toNat) ++ ((⟨#[48, 49, 50, 51, 52, 53, 54, 55, 56, 57]⟩ : ByteArray).extract ((Int.tmod a0 10) : Int).toNat ((wrap64 ((Int.tmod a0 10) + 1)) : Int).toNat))) else (none)) else (none)) else (none)) else (none)) else (none)) else (none)) else (none)) = some r := by first | (rw [hji2] at H; exact H) | (simp only [hji2] at H ⊢; exact H)
  by_cases c3 : 0 ≤ (ji2)
  · rw [if_pos c3] at H
    have c3b0 := eq_true c3
    have c3b1 : decide (0 ≤ (ji2)) = true := decide_eq_true c3
    clear c3
    by_cases c4 : (ji2) ≤ (wrap64 ((ji2) + 1))
    · rw [if_pos c4] at H
      have c4b0 := eq_true c4
      have c4b1 : decide ((ji2) ≤ (wrap64 ((ji2) + 1))) = true := decide_eq_true c4
      by_cases c5 : (wrap64 ((ji2) + 1)) ≤ 10
      · rw [if_pos c5] at H
        have c5b0 := eq_true c5
        have c5b1 : decide ((wrap64 ((ji2) + 1)) ≤ 10) = true := decide_eq_true c5
        obtain ⟨ji6, hji6⟩ : ∃ j_ : Int, (Int.tmod a0 10) = j_ := ⟨_, rfl⟩
        replace H : (if 0 ≤ (ji6) then (if (ji6) ≤ (wrap64 ((ji6) + 1)) then (if (wrap64 ((ji6) + 1)) ≤ 10 then (if ((⟨#[48, 49, 50, 51, 52, 53, 54, 55, 56, 57]⟩ : ByteArray).extract ((ji2) : Int).toNat ((wrap64 ((ji2) + 1)) : Int).toNat).size + ((⟨#[48, 49, 50, 51, 52, 53, 54, 55, 56, 57]⟩ : ByteArray).extract ((ji6) : Int).toNat ((wrap64 ((ji6) + 1)) : Int).toNat).size ≤ 9223372036854775807 then (some (((⟨#[48, 49, 50, 51, 52, 53, 54, 55, 56, 57]⟩ : ByteArray).extract ((ji2) : Int).toNat ((wrap64 ((ji2) + 1)) : Int).toNat) ++ ((⟨#[48, 49, 50, 51, 52, 53, 54, 55, 56, 57]⟩ : ByteArray).extract ((ji6) : Int).toNat ((wrap64 ((ji6) + 1)) : Int).toNat))) else (none)) else (none)) else (none)) else (none)) = some r := by first | (rw [hji6] at H; exact H) | (simp only [hji6] at H ⊢; exact H)
        by_cases c7 : 0 ≤ (ji6)
        · rw [if_pos c7] at H
          have c7b0 := eq_true c7
          have c7b1 : decide (0 ≤ (ji6)) = true := decide_eq_true c7
          clear c7
          by_cases c8 : (ji6) ≤ (wrap64 ((ji6) + 1))
          · rw [if_pos c8] at H
            have c8b0 := eq_true c8
            have c8b1 : decide ((ji6) ≤ (wrap64 ((ji6) + 1))) = true := decide_eq_true c8
            by_cases c9 : (wrap64 ((ji6) + 1)) ≤ 10
            · rw [if_pos c9] at H
              have c9b0 := eq_true c9
              have c9b1 : decide ((wrap64 ((ji6) + 1)) ≤ 10) = true := decide_eq_true c9
              by_cases c10 : ((⟨#[48, 49, 50, 51, 52, 53, 54, 55, 56, 57]⟩ : ByteArray).extract ((ji2) : Int).toNat ((wrap64 ((ji2) + 1)) : Int).toNat).size + ((⟨#[48, 49, 50, 51, 52, 53, 54, 55, 56, 57]⟩ : ByteArray).extract ((ji6) : Int).toNat ((wrap64 ((ji6) + 1)) : Int).toNat).size ≤ 9223372036854775807
              · rw [if_pos c10] at H
                have c10b0 := eq_true c10
                have c10b1 : decide (((⟨#[48, 49, 50, 51, 52, 53, 54, 55, 56, 57]⟩ : ByteArray).extract ((ji2) : Int).toNat ((wrap64 ((ji2) + 1)) : Int).toNat).size + ((⟨#[48, 49, 50, 51, 52, 53, 54, 55, 56, 57]⟩ : ByteArray).extract ((ji6) : Int).toNat ((wrap64 ((ji6) + 1)) : Int).toNat).size ≤ 9223372036854775807) = true := decide_eq_true c10
                try (have c10b1s := c10b1; simp only [ByteArray.size_extract, Nat.min_self] at c10b1s)
                try (have c10b1t := of_decide_eq_true c10b1s)
                try have c10b2 : (9223372036854775807 < ((⟨#[48, 49, 50, 51, 52, 53, 54, 55, 56, 57]⟩ : ByteArray).extract ((ji2) : Int).toNat ((wrap64 ((ji2) + 1)) : Int).toNat).size + ((⟨#[48, 49, 50, 51, 52, 53, 54, 55, 56, 57]⟩ : ByteArray).extract ((ji6) : Int).toNat ((wrap64 ((ji6) + 1)) : Int).toNat).size) = False := eq_false (Nat.not_lt.2 c10)
                try (have c10b2s := c10b2; simp only [ByteArray.size_extract, Nat.min_self] at c10b2s)
                obtain rfl := Option.some.inj H
                go_enter Tryd.func26, Tryd.ntmps26
                go_wp2
                repeat (go_quiet (fail); try go_wp2)
                go_ret
                exact ⟨by first | rfl | (simp; done) | (simp only [← hji2, ← hji6] <;> (first | rfl | simp)) | (simp [*]; done), by repeat (first | exact Drawn0.refl _ | apply Drawn0.step)⟩
              · rw [if_neg c10] at H
                exact absurd H (by simp)
            · rw [if_neg c9] at H
              exact absurd H (by simp)
          · rw [if_neg c8] at H
            exact absurd H (by simp)
        · rw [if_neg c7] at H
          exact absurd H (by simp)
      · rw [if_neg c5] at H
        exact absurd H (by simp)
    · rw [if_neg c4] at H
      exact absurd H (by simp)
  · rw [if_neg c3] at H
    exact absurd H (by simp)

end Go.Proofs.YtcejglmmjbmafaaDoor.X
