/- Words and walks, joined by a program. -/
import Derived.Test.YtcdbnphhoihldaaDoorG22
import Derived.Test.YtcdbnphhoihldaaDoorG23
import Derived.Test.YtcdbnphhoihldaaDoorG24
import Derived.Lib.IndexBytes
-- printed by a program (xp.py, over the kit's print); Lean checks it
namespace Go.Proofs.YtcdbnphhoihldaaDoor.X
open Go.RowKit Go.Proofs.YtcdbnphhoihldaaDoorW.PrintWords Go.Proofs.YtcdbnphhoihldaaDoorW.PrintLast Go.Proofs.YtcdbnphhoihldaaDoorW.PrintMore
attribute [local go_sem] max2_int min2_int max_two min_two max_three min_three max_four min_four   -- for this text's walks alone
set_option linter.unusedVariables false
set_option linter.unusedSimpArgs false

/-! ### ambryref9_ahead: function 45 -/
def ambryref9_ahead.f (a0 : Int) : Option (Int) := some (wrap64 ((wrap64 ((wrap64 (365 * (wrap64 (a0 - 1970)))) + (wrap64 ((wrap64 ((wrap64 (Int.tdiv (wrap64 (a0 - 1)) 4)) - (wrap64 (Int.tdiv (wrap64 (a0 - 1)) 100)))) + (wrap64 (Int.tdiv (wrap64 (a0 - 1)) 400)))))) - 477))
set_option maxHeartbeats 8000000 in
set_option maxRecDepth 100000 in
theorem ambryref9_ahead.calls (a0 : Int) (r : Int) (w : World) (h : ambryref9_ahead.f a0 = some r) :
    Calls Tryd.prog 45 #[.int .i64 a0] w fun e w' => e = .returned (.int .i64 r) ∧ Drawn0 w w' := by
  have H : (some (wrap64 ((wrap64 ((wrap64 (365 * (wrap64 (a0 - 1970)))) + (wrap64 ((wrap64 ((wrap64 (Int.tdiv (wrap64 (a0 - 1)) 4)) - (wrap64 (Int.tdiv (wrap64 (a0 - 1)) 100)))) + (wrap64 (Int.tdiv (wrap64 (a0 - 1)) 400)))))) - 477))) = some r := h
  clear h
  obtain rfl := Option.some.inj H
  go_enter Tryd.func45, Tryd.ntmps45
  go_wp2
  go_ret
  exact ⟨by first | rfl | (simp; done) | (simp [*]; done), by repeat (first | exact Drawn0.refl _ | apply Drawn0.step)⟩

end Go.Proofs.YtcdbnphhoihldaaDoor.X
-- printed by a program (xp.py, over the kit's print); Lean checks it
namespace Go.Proofs.YtcdbnphhoihldaaDoor.X
open Go.RowKit Go.Proofs.YtcdbnphhoihldaaDoorW.PrintWords Go.Proofs.YtcdbnphhoihldaaDoorW.PrintLast Go.Proofs.YtcdbnphhoihldaaDoorW.PrintMore
attribute [local go_sem] max2_int min2_int max_two min_two max_three min_three max_four min_four   -- for this text's walks alone
set_option linter.unusedVariables false
set_option linter.unusedSimpArgs false

/-! ### ambryref9_leap: function 66 -/
def ambryref9_leap.f (a0 : Int) : Option (Bool) := if (Int.tmod a0 4) = 0 then (if (Int.tmod a0 100) = 0 then (some ((Int.tmod a0 400) == 0)) else (some true)) else (some false)
set_option maxHeartbeats 8000000 in
set_option maxRecDepth 100000 in
theorem ambryref9_leap.calls (a0 : Int) (r : Bool) (w : World) (h : ambryref9_leap.f a0 = some r) :
    Calls Tryd.prog 66 #[.int .i64 a0] w fun e w' => e = .returned (.bool r) ∧ Drawn0 w w' := by
  have H : (if (Int.tmod a0 4) = 0 then (if (Int.tmod a0 100) = 0 then (some ((Int.tmod a0 400) == 0)) else (some true)) else (some false)) = some r := h
  clear h
  by_cases c2 : (Int.tmod a0 4) = 0
  · rw [if_pos c2] at H
    have c2b0 : ((Int.tmod a0 4) == 0) = true := beq_iff_eq.mpr c2
    have c2b1 : ((Int.tmod a0 4) != 0) = false := bne_eq_false_iff_eq.mpr c2
    clear c2
    by_cases c3 : (Int.tmod a0 100) = 0
    · rw [if_pos c3] at H
      have c3b0 : ((Int.tmod a0 100) == 0) = true := beq_iff_eq.mpr c3
      have c3b1 : ((Int.tmod a0 100) != 0) = false := bne_eq_false_iff_eq.mpr c3
      clear c3
      obtain rfl := Option.some.inj H
      go_enter Tryd.func66, Tryd.ntmps66
      go_wp2
      go_ret
      exact ⟨by first | rfl | (simp; done) | (simp [*]; done), by repeat (first | exact Drawn0.refl _ | apply Drawn0.step)⟩
    · rw [if_neg c3] at H
      have c3b0 : ((Int.tmod a0 100) == 0) = false := beq_eq_false_iff_ne.mpr c3
      have c3b1 : ((Int.tmod a0 100) != 0) = true := bne_iff_ne.mpr c3
      obtain rfl := Option.some.inj H
      go_enter Tryd.func66, Tryd.ntmps66
      go_wp2
      go_ret
      exact ⟨by first | rfl | (simp; done) | (simp [*]; done), by repeat (first | exact Drawn0.refl _ | apply Drawn0.step)⟩
  · rw [if_neg c2] at H
    have c2b0 : ((Int.tmod a0 4) == 0) = false := beq_eq_false_iff_ne.mpr c2
    have c2b1 : ((Int.tmod a0 4) != 0) = true := bne_iff_ne.mpr c2
    obtain rfl := Option.some.inj H
    go_enter Tryd.func66, Tryd.ntmps66
    go_wp2
    go_ret
    exact ⟨by first | rfl | (simp; done) | (simp [*]; done), by repeat (first | exact Drawn0.refl _ | apply Drawn0.step)⟩

end Go.Proofs.YtcdbnphhoihldaaDoor.X
-- printed by a program (xp.py, over the kit's print); Lean checks it
namespace Go.Proofs.YtcdbnphhoihldaaDoor.X
open Go.RowKit Go.Proofs.YtcdbnphhoihldaaDoorW.PrintWords Go.Proofs.YtcdbnphhoihldaaDoorW.PrintLast Go.Proofs.YtcdbnphhoihldaaDoorW.PrintMore
attribute [local go_sem] max2_int min2_int max_two min_two max_three min_three max_four min_four   -- for this text's walks alone
set_option linter.unusedVariables false
set_option linter.unusedSimpArgs false

/-! ### ambryref9_length: function 46 -/
def ambryref9_length.f (a0 : Int) (a1 : Int) : Option (Int) := if a1 = 2 then ((ambryref9_leap.f a0).bind fun t303 => (if t303 = true then (some 29) else ((some (([31, 28, 31, 30, 31, 30, 31, 31, 30, 31, 30, 31] : List Int) : List Int)).bind fun y304 => (if 0 ≤ (wrap64 (a1 - 1)) then (if (wrap64 (a1 - 1)) < (y304.length : Int) then (some (rd y304 (wrap64 (a1 - 1)))) else (none)) else (none))))) else ((some (([31, 28, 31, 30, 31, 30, 31, 31, 30, 31, 30, 31] : List Int) : List Int)).bind fun y308 => (if 0 ≤ (wrap64 (a1 - 1)) then (if (wrap64 (a1 - 1)) < (y308.length : Int) then (some (rd y308 (wrap64 (a1 - 1)))) else (none)) else (none)))
set_option maxHeartbeats 8000000 in
set_option maxRecDepth 100000 in
theorem ambryref9_length.calls (a0 : Int) (a1 : Int) (r : Int) (w : World) (h : ambryref9_length.f a0 a1 = some r) :
  Calls Tryd.prog 46 #[.int .i64 a0, .int .i64 a1] w fun e w' => e = .returned (.int .i64 r) ∧ Below w.heap.size w w' := by
 have HB := Aside0.mk (Below.refl w.heap.size w)
 have H : (if a1 = 2 then ((ambryref9_leap.f a0).bind fun t303 => (if t303 = true then (some 29) else ((some (([31, 28, 31, 30, 31, 30, 31, 31, 30, 31, 30, 31] : List Int) : List Int)).bind fun y304 => (if 0 ≤ (wrap64 (a1 - 1)) then (if (wrap64 (a1 - 1)) < (y304.length : Int) then (some (rd y304 (wrap64 (a1 - 1)))) else (none)) else (none))))) else ((some (([31, 28, 31, 30, 31, 30, 31, 31, 30, 31, 30, 31] : List Int) : List Int)).bind fun y308 => (if 0 ≤ (wrap64 (a1 - 1)) then (if (wrap64 (a1 - 1)) < (y308.length : Int) then (some (rd y308 (wrap64 (a1 - 1)))) else (none)) else (none)))) = some r := h
 clear h
 by_cases c3 : a1 = 2
 ·
  rw [if_pos c3] at H
  have c3b0 : (a1 == 2) = true := beq_iff_eq.mpr c3
  have c3b1 : (a1 != 2) = false := bne_eq_false_iff_eq.mpr c3
  clear c3
  replace H := Option.bind_eq_some_iff.mp H
  obtain ⟨t303, A40, H⟩ := H
  replace H : (if t303 = true then (some 29) else ((some (([31, 28, 31, 30, 31, 30, 31, 31, 30, 31, 30, 31] : List Int) : List Int)).bind fun y304 => (if 0 ≤ (wrap64 (a1 - 1)) then (if (wrap64 (a1 - 1)) < (y304.length : Int) then (some (rd y304 (wrap64 (a1 - 1)))) else (none)) else (none)))) = some r := H
  have A4 := Aside0.mk A40
  clear A40
  by_cases c5 : t303 = true
  ·
   subst c5
   have H1 : (some 29) = some r := by rw [if_pos rfl] at H; exact H
   clear H
   have H := H1
   clear H1
   obtain rfl := Option.some.inj H
   go_enter Tryd.func46, Tryd.ntmps46
   go_wp2_with (first | (go_at_call 66; (with_reducible refine (ambryref9_leap.calls a0 true _ A4.out).mono ?_); rintro e w' ⟨rfl, ⟨nd, rfl⟩⟩))
   go_ret
   exact ⟨by first | rfl | (simp [errW_none, errW_some] <;> rfl) | (simp [*, errW_none, errW_some] <;> rfl), by repeat (first | (with_reducible first | exact HB.out | apply below_alloc | apply pw_below_drewN | apply below_drew1) | exact HB.out)⟩
  ·
   replace c5 := Bool.eq_false_iff.mpr c5
   subst c5
   have H1 : ((some (([31, 28, 31, 30, 31, 30, 31, 31, 30, 31, 30, 31] : List Int) : List Int)).bind fun y304 => (if 0 ≤ (wrap64 (a1 - 1)) then (if (wrap64 (a1 - 1)) < (y304.length : Int) then (some (rd y304 (wrap64 (a1 - 1)))) else (none)) else (none))) = some r := by rw [if_neg (show ¬ (false = true) by decide)] at H; exact H
   clear H
   have H := H1
   clear H1
   obtain ⟨y304, hy304⟩ : ∃ y_ : List Int, y_ = (([31, 28, 31, 30, 31, 30, 31, 31, 30, 31, 30, 31] : List Int)) := ⟨_, rfl⟩
   replace H : (if 0 ≤ (wrap64 (a1 - 1)) then (if (wrap64 (a1 - 1)) < (y304.length : Int) then (some (rd y304 (wrap64 (a1 - 1)))) else (none)) else (none)) = some r := by first | (rw [hy304]; with_reducible exact H) | (have H2_ := (Option.bind_some _ _).symm.trans H; rw [hy304]; with_reducible exact H2_) | (have H2_ := (Option.bind_some _ _).symm.trans H; with_reducible exact H2_) | with_reducible exact H | (rw [hy304]; exact H) | exact H
   have Ny304 := Aside0.mk hy304
   clear hy304
   obtain ⟨ji6, hji6⟩ : ∃ j_ : Int, (wrap64 (a1 - 1)) = j_ := ⟨_, rfl⟩
   replace H : (if 0 ≤ (ji6) then (if (ji6) < (y304.length : Int) then (some (rd y304 (ji6))) else (none)) else (none)) = some r := by first | (rw [hji6] at H; exact H) | (simp only [hji6] at H ⊢; exact H)
   (try rw [hji6] at A4)
   have hji6w : (IntKind.i64.wrap (a1 - 1)) = ji6 := (i64_w _).trans hji6
   by_cases c7 : 0 ≤ (ji6)
   ·
    rw [if_pos c7] at H
    have c7b0 : decide (0 ≤ (ji6)) = true := decide_eq_true c7
    clear c7
    by_cases c8 : (ji6) < (y304.length : Int)
    ·
     rw [if_pos c8] at H
     have c8b0 : decide ((ji6) < (y304.length : Int)) = true := decide_eq_true c8
     clear c8
     obtain rfl := Option.some.inj H
     go_enter Tryd.func46, Tryd.ntmps46
     go_wp2_with (first | (go_at_call 66; (with_reducible refine (ambryref9_leap.calls a0 false _ A4.out).mono ?_); rintro e w' ⟨rfl, ⟨nd, rfl⟩⟩) | ((with_reducible refine gate_dst (N := 11) rfl ?_); refine Kd.R_lit (Kd.int .i64) _ 3 ?hg (N := 11) ?hd (xs := ([31, 28, 31, 30, 31, 30, 31, 31, 30, 31, 30, 31] : List Int)) (inner := [.int .i64 31, .int .i64 28, .int .i64 31, .int .i64 30, .int .i64 31, .int .i64 30, .int .i64 31, .int .i64 31, .int .i64 30, .int .i64 31, .int .i64 30, .int .i64 31]) (ok := fun _ => True) (okp := fun _ => True) ?hr ?hp (fun _ hk => hk) trivial (Below.refl _ _) (Nat.le_refl _) (by simp) ?_; (case hd => rfl); (case hg => rfl); (case hr => first | (go_simp; done) | (go_simp; rfl)); (case hp => exact (Reps.one (show Kd.M (Kd.int .i64) _ _ _ 31 [.int .i64 31] from rfl) (Reps.one (show Kd.M (Kd.int .i64) _ _ _ 28 [.int .i64 28] from rfl) (Reps.one (show Kd.M (Kd.int .i64) _ _ _ 31 [.int .i64 31] from rfl) (Reps.one (show Kd.M (Kd.int .i64) _ _ _ 30 [.int .i64 30] from rfl) (Reps.one (show Kd.M (Kd.int .i64) _ _ _ 31 [.int .i64 31] from rfl) (Reps.one (show Kd.M (Kd.int .i64) _ _ _ 30 [.int .i64 30] from rfl) (Reps.one (show Kd.M (Kd.int .i64) _ _ _ 31 [.int .i64 31] from rfl) (Reps.one (show Kd.M (Kd.int .i64) _ _ _ 31 [.int .i64 31] from rfl) (Reps.one (show Kd.M (Kd.int .i64) _ _ _ 30 [.int .i64 30] from rfl) (Reps.one (show Kd.M (Kd.int .i64) _ _ _ 31 [.int .i64 31] from rfl) (Reps.one (show Kd.M (Kd.int .i64) _ _ _ 30 [.int .i64 30] from rfl) (Reps.one (show Kd.M (Kd.int .i64) _ _ _ 31 [.int .i64 31] from rfl) (Reps.none _ _)))))))))))))); intro v305 w9 ho10 hb hg_ hnew_; clear hg_ hnew_; (first | rw [← Ny304.out] at ho10 | (simp only [Int.reduceToNat] at ho10; rw [← Ny304.out] at ho10)); have n0_ := Aside0.mk (Kd.R_lower ho10 (below_size (by repeat (first | (with_reducible first | exact HB.out | apply below_alloc | apply pw_below_drewN | apply below_drew1) | exact HB.out)))); have n1_ := Aside0.mk (below_step (by repeat (first | (with_reducible first | exact HB.out | apply below_alloc | apply pw_below_drewN | apply below_drew1) | exact HB.out)) hb); clear HB; have HO306 := n0_; have HB := n1_; clear n0_ n1_; clear hb ho10; obtain ⟨Ao11, co11, eo11⟩ := Kd.R_slice HO306.out; subst eo11; have p307 : 0 ≤ ((ji6) : Int) := of_decide_eq_true (by first | (with_reducible assumption) | assumption); have q307 : (ji6) < (y304.length : Int) := of_decide_eq_true (by first | (with_reducible assumption) | assumption); obtain ⟨ad307, e307, hx307_0⟩ := Kd.at_int (Kd.R_reads' HO306.out).2.2 (ji6) p307 q307; cases e307; replace p307 := eq_true p307; replace q307 := eq_true q307))
     go_ret
     exact ⟨by first | rfl | (simp [errW_none, errW_some] <;> rfl) | (simp only [← hji6]; first | rfl | (simp [errW_none, errW_some] <;> rfl)) | (simp [*, errW_none, errW_some] <;> rfl), by repeat (first | (with_reducible first | exact HB.out | apply below_alloc | apply pw_below_drewN | apply below_drew1) | exact HB.out)⟩
    ·
     rw [if_neg c8] at H
     exact absurd H (by simp)
   ·
    rw [if_neg c7] at H
    exact absurd H (by simp)
 ·
  rw [if_neg c3] at H
  have c3b0 : (a1 == 2) = false := beq_eq_false_iff_ne.mpr c3
  have c3b1 : (a1 != 2) = true := bne_iff_ne.mpr c3
  obtain ⟨y308, hy308⟩ : ∃ y_ : List Int, y_ = (([31, 28, 31, 30, 31, 30, 31, 31, 30, 31, 30, 31] : List Int)) := ⟨_, rfl⟩
  replace H : (if 0 ≤ (wrap64 (a1 - 1)) then (if (wrap64 (a1 - 1)) < (y308.length : Int) then (some (rd y308 (wrap64 (a1 - 1)))) else (none)) else (none)) = some r := by first | (rw [hy308]; with_reducible exact H) | (have H2_ := (Option.bind_some _ _).symm.trans H; rw [hy308]; with_reducible exact H2_) | (have H2_ := (Option.bind_some _ _).symm.trans H; with_reducible exact H2_) | with_reducible exact H | (rw [hy308]; exact H) | exact H
  have Ny308 := Aside0.mk hy308
  clear hy308
  obtain ⟨ji12, hji12⟩ : ∃ j_ : Int, (wrap64 (a1 - 1)) = j_ := ⟨_, rfl⟩
  replace H : (if 0 ≤ (ji12) then (if (ji12) < (y308.length : Int) then (some (rd y308 (ji12))) else (none)) else (none)) = some r := by first | (rw [hji12] at H; exact H) | (simp only [hji12] at H ⊢; exact H)
  have hji12w : (IntKind.i64.wrap (a1 - 1)) = ji12 := (i64_w _).trans hji12
  by_cases c13 : 0 ≤ (ji12)
  ·
   rw [if_pos c13] at H
   have c13b0 : decide (0 ≤ (ji12)) = true := decide_eq_true c13
   clear c13
   by_cases c14 : (ji12) < (y308.length : Int)
   ·
    rw [if_pos c14] at H
    have c14b0 : decide ((ji12) < (y308.length : Int)) = true := decide_eq_true c14
    clear c14
    obtain rfl := Option.some.inj H
    go_enter Tryd.func46, Tryd.ntmps46
    go_wp2_with (first | ((with_reducible refine gate_dst (N := 11) rfl ?_); refine Kd.R_lit (Kd.int .i64) _ 3 ?hg (N := 11) ?hd (xs := ([31, 28, 31, 30, 31, 30, 31, 31, 30, 31, 30, 31] : List Int)) (inner := [.int .i64 31, .int .i64 28, .int .i64 31, .int .i64 30, .int .i64 31, .int .i64 30, .int .i64 31, .int .i64 31, .int .i64 30, .int .i64 31, .int .i64 30, .int .i64 31]) (ok := fun _ => True) (okp := fun _ => True) ?hr ?hp (fun _ hk => hk) trivial (Below.refl _ _) (Nat.le_refl _) (by simp) ?_; (case hd => rfl); (case hg => rfl); (case hr => first | (go_simp; done) | (go_simp; rfl)); (case hp => exact (Reps.one (show Kd.M (Kd.int .i64) _ _ _ 31 [.int .i64 31] from rfl) (Reps.one (show Kd.M (Kd.int .i64) _ _ _ 28 [.int .i64 28] from rfl) (Reps.one (show Kd.M (Kd.int .i64) _ _ _ 31 [.int .i64 31] from rfl) (Reps.one (show Kd.M (Kd.int .i64) _ _ _ 30 [.int .i64 30] from rfl) (Reps.one (show Kd.M (Kd.int .i64) _ _ _ 31 [.int .i64 31] from rfl) (Reps.one (show Kd.M (Kd.int .i64) _ _ _ 30 [.int .i64 30] from rfl) (Reps.one (show Kd.M (Kd.int .i64) _ _ _ 31 [.int .i64 31] from rfl) (Reps.one (show Kd.M (Kd.int .i64) _ _ _ 31 [.int .i64 31] from rfl) (Reps.one (show Kd.M (Kd.int .i64) _ _ _ 30 [.int .i64 30] from rfl) (Reps.one (show Kd.M (Kd.int .i64) _ _ _ 31 [.int .i64 31] from rfl) (Reps.one (show Kd.M (Kd.int .i64) _ _ _ 30 [.int .i64 30] from rfl) (Reps.one (show Kd.M (Kd.int .i64) _ _ _ 31 [.int .i64 31] from rfl) (Reps.none _ _)))))))))))))); intro v309 w15 ho16 hb hg_ hnew_; clear hg_ hnew_; (first | rw [← Ny308.out] at ho16 | (simp only [Int.reduceToNat] at ho16; rw [← Ny308.out] at ho16)); have n0_ := Aside0.mk (Kd.R_lower ho16 (below_size (by repeat (first | (with_reducible first | exact HB.out | apply below_alloc | apply pw_below_drewN | apply below_drew1) | exact HB.out)))); have n1_ := Aside0.mk (below_step (by repeat (first | (with_reducible first | exact HB.out | apply below_alloc | apply pw_below_drewN | apply below_drew1) | exact HB.out)) hb); clear HB; have HO310 := n0_; have HB := n1_; clear n0_ n1_; clear hb ho16; obtain ⟨Ao17, co17, eo17⟩ := Kd.R_slice HO310.out; subst eo17; have p311 : 0 ≤ ((ji12) : Int) := of_decide_eq_true (by first | (with_reducible assumption) | assumption); have q311 : (ji12) < (y308.length : Int) := of_decide_eq_true (by first | (with_reducible assumption) | assumption); obtain ⟨ad311, e311, hx311_0⟩ := Kd.at_int (Kd.R_reads' HO310.out).2.2 (ji12) p311 q311; cases e311; replace p311 := eq_true p311; replace q311 := eq_true q311))
    go_ret
    exact ⟨by first | rfl | (simp [errW_none, errW_some] <;> rfl) | (simp only [← hji12]; first | rfl | (simp [errW_none, errW_some] <;> rfl)) | (simp [*, errW_none, errW_some] <;> rfl), by repeat (first | (with_reducible first | exact HB.out | apply below_alloc | apply pw_below_drewN | apply below_drew1) | exact HB.out)⟩
   ·
    rw [if_neg c14] at H
    exact absurd H (by simp)
  ·
   rw [if_neg c13] at H
   exact absurd H (by simp)

end Go.Proofs.YtcdbnphhoihldaaDoor.X
-- printed by a program (xp.py, over the kit's print); Lean checks it
namespace Go.Proofs.YtcdbnphhoihldaaDoor.X
open Go.RowKit Go.Proofs.YtcdbnphhoihldaaDoorW.PrintWords Go.Proofs.YtcdbnphhoihldaaDoorW.PrintLast Go.Proofs.YtcdbnphhoihldaaDoorW.PrintMore
attribute [local go_sem] max2_int min2_int max_two min_two max_three min_three max_four min_four   -- for this text's walks alone
set_option linter.unusedVariables false
set_option linter.unusedSimpArgs false

/-! ### ambryref9_two: function 48 -/
def ambryref9_two.f (a0 : Int) : Option (ByteArray) := if 0 ≤ (Int.tmod (wrap64 (Int.tdiv a0 10)) 10) then (if (Int.tmod (wrap64 (Int.tdiv a0 10)) 10) ≤ (wrap64 ((Int.tmod (wrap64 (Int.tdiv a0 10)) 10) + 1)) then (if (wrap64 ((Int.tmod (wrap64 (Int.tdiv a0 10)) 10) + 1)) ≤ 10 then (if 0 ≤ (Int.tmod a0 10) then (if (Int.tmod a0 10) ≤ (wrap64 ((Int.tmod a0 10) + 1)) then (if (wrap64 ((Int.tmod a0 10) + 1)) ≤ 10 then (if ((⟨#[48, 49, 50, 51, 52, 53, 54, 55, 56, 57]⟩ : ByteArray).extract ((Int.tmod (wrap64 (Int.tdiv a0 10)) 10) : Int).toNat ((wrap64 ((Int.tmod (wrap64 (Int.tdiv a0 10)) 10) + 1)) : Int).toNat).size + ((⟨#[48, 49, 50, 51, 52, 53, 54, 55, 56, 57]⟩ : ByteArray).extract ((Int.tmod a0 10) : Int).toNat ((wrap64 ((Int.tmod a0 10) + 1)) : Int).toNat).size ≤ 9223372036854775807 then (some (((⟨#[48, 49, 50, 51, 52, 53, 54, 55, 56, 57]⟩ : ByteArray).extract ((Int.tmod (wrap64 (Int.tdiv a0 10)) 10) : Int).toNat ((wrap64 ((Int.tmod (wrap64 (Int.tdiv a0 10)) 10) + 1)) : Int).toNat) ++ ((⟨#[48, 49, 50, 51, 52, 53, 54, 55, 56, 57]⟩ : ByteArray).extract ((Int.tmod a0 10) : Int).toNat ((wrap64 ((Int.tmod a0 10) + 1)) : Int).toNat))) else (none)) else (none)) else (none)) else (none)) else (none)) else (none)) else (none)
set_option maxHeartbeats 8000000 in
set_option maxRecDepth 100000 in
theorem ambryref9_two.calls (a0 : Int) (r : ByteArray) (w : World) (h : ambryref9_two.f a0 = some r) :
  Calls Tryd.prog 48 #[.int .i64 a0] w fun e w' => e = .returned (.string r) ∧ Drawn0 w w' := by
 have H : (if 0 ≤ (Int.tmod (wrap64 (Int.tdiv a0 10)) 10) then (if (Int.tmod (wrap64 (Int.tdiv a0 10)) 10) ≤ (wrap64 ((Int.tmod (wrap64 (Int.tdiv a0 10)) 10) + 1)) then (if (wrap64 ((Int.tmod (wrap64 (Int.tdiv a0 10)) 10) + 1)) ≤ 10 then (if 0 ≤ (Int.tmod a0 10) then (if (Int.tmod a0 10) ≤ (wrap64 ((Int.tmod a0 10) + 1)) then (if (wrap64 ((Int.tmod a0 10) + 1)) ≤ 10 then (if ((⟨#[48, 49, 50, 51, 52, 53, 54, 55, 56, 57]⟩ : ByteArray).extract ((Int.tmod (wrap64 (Int.tdiv a0 10)) 10) : Int).toNat ((wrap64 ((Int.tmod (wrap64 (Int.tdiv a0 10)) 10) + 1)) : Int).toNat).size + ((⟨#[48, 49, 50, 51, 52, 53, 54, 55, 56, 57]⟩ : ByteArray).extract ((Int.tmod a0 10) : Int).toNat ((wrap64 ((Int.tmod a0 10) + 1)) : Int).toNat).size ≤ 9223372036854775807 then (some (((⟨#[48, 49, 50, 51, 52, 53, 54, 55, 56, 57]⟩ : ByteArray).extract ((Int.tmod (wrap64 (Int.tdiv a0 10)) 10) : Int).toNat ((wrap64 ((Int.tmod (wrap64 (Int.tdiv a0 10)) 10) + 1)) : Int).toNat) ++ ((⟨#[48, 49, 50, 51, 52, 53, 54, 55, 56, 57]⟩ : ByteArray).extract ((Int.tmod a0 10) : Int).toNat ((wrap64 ((Int.tmod a0 10) + 1)) : Int).toNat))) else (none)) else (none)) else (none)) else (none)) else (none)) else (none)) else (none)) = some r := h
 clear h
 obtain ⟨ji2, hji2⟩ : ∃ j_ : Int, (Int.tmod (wrap64 (Int.tdiv a0 10)) 10) = j_ := ⟨_, rfl⟩
 replace H : (if 0 ≤ (ji2) then (if (ji2) ≤ (wrap64 ((ji2) + 1)) then (if (wrap64 ((ji2) + 1)) ≤ 10 then (if 0 ≤ (Int.tmod a0 10) then (if (Int.tmod a0 10) ≤ (wrap64 ((Int.tmod a0 10) + 1)) then (if (wrap64 ((Int.tmod a0 10) + 1)) ≤ 10 then (if ((⟨#[48, 49, 50, 51, 52, 53, 54, 55, 56, 57]⟩ : ByteArray).extract ((ji2) : Int).toNat ((wrap64 ((ji2) + 1)) : Int).toNat).size + ((⟨#[48, 49, 50, 51, 52, 53, 54, 55, 56, 57]⟩ : ByteArray).extract ((Int.tmod a0 10) : Int).toNat ((wrap64 ((Int.tmod a0 10) + 1)) : Int).toNat).size ≤ 9223372036854775807 then (some (((⟨#[48, 49, 50, 51, 52, 53, 54, 55, 56, 57]⟩ : ByteArray).extract ((ji2) : Int).toNat ((wrap64 ((ji2) + 1)) : Int).toNat) ++ ((⟨#[48, 49, 50, 51, 52, 53, 54, 55, 56, 57]⟩ : ByteArray).extract ((Int.tmod a0 10) : Int).toNat ((wrap64 ((Int.tmod a0 10) + 1)) : Int).toNat))) else (none)) else (none)) else (none)) else (none)) else (none)) else (none)) else (none)) = some r := by first | (rw [hji2] at H; exact H) | (simp only [hji2] at H ⊢; exact H)
 by_cases c3 : 0 ≤ (ji2)
 ·
  rw [if_pos c3] at H
  have c3b0 := eq_true c3
  have c3b1 : decide (0 ≤ (ji2)) = true := decide_eq_true c3
  clear c3
  by_cases c4 : (ji2) ≤ (wrap64 ((ji2) + 1))
  ·
   rw [if_pos c4] at H
   have c4b0 := eq_true c4
   have c4b1 : decide ((ji2) ≤ (wrap64 ((ji2) + 1))) = true := decide_eq_true c4
   by_cases c5 : (wrap64 ((ji2) + 1)) ≤ 10
   ·
    rw [if_pos c5] at H
    have c5b0 := eq_true c5
    have c5b1 : decide ((wrap64 ((ji2) + 1)) ≤ 10) = true := decide_eq_true c5
    obtain ⟨ji6, hji6⟩ : ∃ j_ : Int, (Int.tmod a0 10) = j_ := ⟨_, rfl⟩
    replace H : (if 0 ≤ (ji6) then (if (ji6) ≤ (wrap64 ((ji6) + 1)) then (if (wrap64 ((ji6) + 1)) ≤ 10 then (if ((⟨#[48, 49, 50, 51, 52, 53, 54, 55, 56, 57]⟩ : ByteArray).extract ((ji2) : Int).toNat ((wrap64 ((ji2) + 1)) : Int).toNat).size + ((⟨#[48, 49, 50, 51, 52, 53, 54, 55, 56, 57]⟩ : ByteArray).extract ((ji6) : Int).toNat ((wrap64 ((ji6) + 1)) : Int).toNat).size ≤ 9223372036854775807 then (some (((⟨#[48, 49, 50, 51, 52, 53, 54, 55, 56, 57]⟩ : ByteArray).extract ((ji2) : Int).toNat ((wrap64 ((ji2) + 1)) : Int).toNat) ++ ((⟨#[48, 49, 50, 51, 52, 53, 54, 55, 56, 57]⟩ : ByteArray).extract ((ji6) : Int).toNat ((wrap64 ((ji6) + 1)) : Int).toNat))) else (none)) else (none)) else (none)) else (none)) = some r := by first | (rw [hji6] at H; exact H) | (simp only [hji6] at H ⊢; exact H)
    by_cases c7 : 0 ≤ (ji6)
    ·
     rw [if_pos c7] at H
     have c7b0 := eq_true c7
     have c7b1 : decide (0 ≤ (ji6)) = true := decide_eq_true c7
     clear c7
     by_cases c8 : (ji6) ≤ (wrap64 ((ji6) + 1))
     ·
      rw [if_pos c8] at H
      have c8b0 := eq_true c8
      have c8b1 : decide ((ji6) ≤ (wrap64 ((ji6) + 1))) = true := decide_eq_true c8
      by_cases c9 : (wrap64 ((ji6) + 1)) ≤ 10
      ·
       rw [if_pos c9] at H
       have c9b0 := eq_true c9
       have c9b1 : decide ((wrap64 ((ji6) + 1)) ≤ 10) = true := decide_eq_true c9
       by_cases c10 : ((⟨#[48, 49, 50, 51, 52, 53, 54, 55, 56, 57]⟩ : ByteArray).extract ((ji2) : Int).toNat ((wrap64 ((ji2) + 1)) : Int).toNat).size + ((⟨#[48, 49, 50, 51, 52, 53, 54, 55, 56, 57]⟩ : ByteArray).extract ((ji6) : Int).toNat ((wrap64 ((ji6) + 1)) : Int).toNat).size ≤ 9223372036854775807
       ·
        rw [if_pos c10] at H
        have c10b0 := eq_true c10
        have c10b1 : decide (((⟨#[48, 49, 50, 51, 52, 53, 54, 55, 56, 57]⟩ : ByteArray).extract ((ji2) : Int).toNat ((wrap64 ((ji2) + 1)) : Int).toNat).size + ((⟨#[48, 49, 50, 51, 52, 53, 54, 55, 56, 57]⟩ : ByteArray).extract ((ji6) : Int).toNat ((wrap64 ((ji6) + 1)) : Int).toNat).size ≤ 9223372036854775807) = true := decide_eq_true c10
        try (have c10b1s := c10b1; simp only [ByteArray.size_extract, Nat.min_self] at c10b1s)
        try (have c10b1t := of_decide_eq_true c10b1s)
        try have c10b2 : (9223372036854775807 < ((⟨#[48, 49, 50, 51, 52, 53, 54, 55, 56, 57]⟩ : ByteArray).extract ((ji2) : Int).toNat ((wrap64 ((ji2) + 1)) : Int).toNat).size + ((⟨#[48, 49, 50, 51, 52, 53, 54, 55, 56, 57]⟩ : ByteArray).extract ((ji6) : Int).toNat ((wrap64 ((ji6) + 1)) : Int).toNat).size) = False := eq_false (Nat.not_lt.2 c10)
        try (have c10b2s := c10b2; simp only [ByteArray.size_extract, Nat.min_self] at c10b2s)
        obtain rfl := Option.some.inj H
        go_enter Tryd.func48, Tryd.ntmps48
        go_wp2
        repeat (go_quiet (fail); try go_wp2)
        go_ret
        exact ⟨by first | rfl | (simp; done) | (simp only [← hji2, ← hji6] <;> (first | rfl | simp)) | (simp [*]; done), by repeat (first | exact Drawn0.refl _ | apply Drawn0.step)⟩
       ·
        rw [if_neg c10] at H
        exact absurd H (by simp)
      ·
       rw [if_neg c9] at H
       exact absurd H (by simp)
     ·
      rw [if_neg c8] at H
      exact absurd H (by simp)
    ·
     rw [if_neg c7] at H
     exact absurd H (by simp)
   ·
    rw [if_neg c5] at H
    exact absurd H (by simp)
  ·
   rw [if_neg c4] at H
   exact absurd H (by simp)
 ·
  rw [if_neg c3] at H
  exact absurd H (by simp)

end Go.Proofs.YtcdbnphhoihldaaDoor.X
/- Plain Lean: what the printed functions of dates come to, in the calendar's words. -/
namespace Go.Proofs.YtcdbnphhoihldaaDoor.Pure
open Go.RowKit Go.Proofs.YtcdbnphhoihldaaDoor.X Go.Proofs.YtcdbnphhoihldaaDoor.Cal Go.Proofs.YtcdbnphhoihldaaDoorW.PrintWords Go.Proofs.YtcdbnphhoihldaaDoorW.PrintLast Go.Proofs.YtcdbnphhoihldaaDoorW.PrintMore
set_option linter.unusedVariables false
set_option linter.unusedSimpArgs false

theorem tdiv_nn {a : Int} (b : Int) (h : 0 ≤ a) : Int.tdiv a b = a / b := Int.tdiv_eq_ediv_of_nonneg h
theorem tmod_nn {a : Int} (b : Int) (h : 0 ≤ a) : Int.tmod a b = a % b := Int.tmod_eq_emod_of_nonneg h

theorem days_f (y : Int) (h0 : 1970 ≤ y) (h1 : y ≤ 10000) : date_days.f y = some (dys y) := by
  unfold date_days.f
  have e : wrap64 (y - 1) = y - 1 := w64 (by omega) (by omega)
  rw [e, tdiv_nn 4 (by omega), tdiv_nn 100 (by omega), tdiv_nn 400 (by omega)]
  congr 1
  unfold dys wrap64
  omega
theorem length_f (y m : Int) (h0 : 0 ≤ y) : date_length.f y m = some (len y m) := by
  unfold date_length.f
  rw [tmod_nn 4 h0, tmod_nn 100 h0, tmod_nn 400 h0]
  unfold len lp
  by_cases c1 : m = 1
  · rw [if_pos c1, if_pos c1]
    by_cases a : y % 4 = 0 <;> by_cases b : y % 100 = 0 <;> by_cases c : y % 400 = 0 <;> simp [a, b, c]
  · rw [if_neg c1, if_neg c1]
    by_cases c3 : m = 3
    · simp [c3]
    by_cases c5 : m = 5
    · simp [c5]
    by_cases c8 : m = 8
    · simp [c8]
    by_cases c10 : m = 10
    · simp [c10]
    simp [c3, c5, c8, c10]
/-- The months' loop. -/
theorem of_l1 (n y h mi s : Int) (hy0 : 1970 ≤ y) (hy1 : y ≤ 9999) (hn : n < dys (y + 1)) (hn0 : 0 ≤ n) (hn1 : n ≤ 2932896) (c : Nat) : ∀ (m : Int), (c : Int) = 12 - m → 0 ≤ m → m < 12 → dys y + cum y m ≤ n →
    ∃ m' d, Ok y m' d ∧ num y m' d = n ∧ Ev (fun k => date_of.l1 k n (n - dys y - cum y m) y m 0 h mi s) (y, m', d, h, mi, s, (n + 4) % 7) := by
  induction c with
  | zero => intro m hc h0 h1; omega
  | succ c ih =>
    intro m hc h0 h1 hle
    have hs := cum_succ y m h0 h1
    have hl := len_lo y m
    have hh := len_hi y m
    have hb := cum_pos y m h0 (by omega)
    have hd0 : 0 ≤ dys y := by have := dys_le hy0; rw [dys_1970] at this; exact this
    by_cases hg : len y m ≤ n - dys y - cum y m
    · have hm : m + 1 < 12 := by
        by_cases e : m = 11
        · subst e
          have := cum_12 y
          have := dys_succ y
          have e12 : (11 : Int) + 1 = 12 := rfl
          rw [e12] at hs
          omega
        · omega
      obtain ⟨m', d, ho, hnum, hev⟩ := ih (m + 1) (by omega) (by omega) hm (by omega)
      refine ⟨m', d, ho, hnum, Ev.step (f := fun k => date_of.l1 k n (n - dys y - cum y (m + 1)) y (m + 1) 0 h mi s) (fun k => ?_) hev⟩
      simp only [date_of.l1, length_f y m (by omega), Option.bind_some]
      rw [if_pos hg, w64 (x := m + 1) (by omega) (by omega), w64 (by omega) (by omega), hs]
      congr 1
      omega
    · refine ⟨m, n - dys y - cum y m + 1, ⟨hy0, hy1, h0, h1, by omega, by omega⟩, by unfold num; omega, Ev.step (f := fun _ => some _) (fun k => ?_) (Ev.now _)⟩
      simp only [date_of.l1, length_f y m (by omega), Option.bind_some]
      rw [if_neg hg]
      simp only [date_weekday.f, Option.bind_some]
      rw [w64 (x := n + 4) (by omega) (by omega), tmod_nn 7 (by omega), w64 (by omega) (by omega)]
/-- The years' loop. -/
theorem of_l0 (n h mi s : Int) (hn0 : 0 ≤ n) (hn1 : n ≤ 2932896) (c : Nat) : ∀ (y : Int), (c : Int) = 10000 - y → 1970 ≤ y → y ≤ 9999 → dys y ≤ n →
    ∃ y' m' d, Ok y' m' d ∧ num y' m' d = n ∧ Ev (fun k => date_of.l0 k n y 0 0 h mi s) (y', m', d, h, mi, s, (n + 4) % 7) := by
  induction c with
  | zero => intro y hc h0 h1; omega
  | succ c ih =>
    intro y hc h0 h1 hle
    by_cases hg : dys (y + 1) ≤ n
    · have hm : y + 1 ≤ 9999 := by
        by_cases e : y = 9999
        · subst e
          have := dys_10000
          have e12 : (9999 : Int) + 1 = 10000 := rfl
          rw [e12] at hg
          omega
        · omega
      obtain ⟨y', m', d, ho, hnum, hev⟩ := ih (y + 1) (by omega) (by omega) hm hg
      refine ⟨y', m', d, ho, hnum, Ev.step (f := fun k => date_of.l0 k n (y + 1) 0 0 h mi s) (fun k => ?_) hev⟩
      simp only [date_of.l0]
      rw [w64 (x := y + 1) (by omega) (by omega), days_f (y + 1) (by omega) (by omega)]
      simp only [Option.bind_some]
      rw [if_pos hg]
    · obtain ⟨m', d, ho, hnum, hev⟩ := of_l1 n y h mi s h0 h1 (by omega) hn0 hn1 12 0 (by omega) (by omega) (by omega) (by rw [cum_0]; omega)
      refine ⟨y, m', d, ho, hnum, Ev.step (f := fun k => date_of.l1 k n (n - dys y - cum y 0) y 0 0 h mi s) (fun k => ?_) hev⟩
      simp only [date_of.l0]
      rw [w64 (x := y + 1) (by omega) (by omega), days_f (y + 1) (by omega) (by omega), days_f y h0 (by omega)]
      simp only [Option.bind_some]
      have hd0 : 0 ≤ dys y := by have := dys_le h0; rw [dys_1970] at this; exact this
      rw [if_neg hg, cum_0, w64 (by omega) (by omega)]
      congr 1
      omega
theorem guess (n : Int) (h0 : 0 ≤ n) : dys (1970 + n / 366) ≤ n := by unfold dys; omega
/-- 'of': a time's parts. -/
theorem of_ev (t : Int) (h0 : 0 ≤ t) (h1 : t ≤ 253402300799) :
    ∃ y m d, Ok y m d ∧ num y m d = t / 86400 ∧ Ev (fun k => date_of.f k t) (y, m, d, t % 86400 / 3600, t % 86400 / 60 % 60, t % 60, (t / 86400 + 4) % 7) := by
  obtain ⟨y, m, d, ho, hn, hev⟩ := of_l0 (t / 86400) (t % 86400 / 3600) (t % 86400 / 60 % 60) (t % 60) (by omega) (by omega) (10000 - (1970 + t / 86400 / 366)).toNat (1970 + t / 86400 / 366) (by omega) (by omega) (by omega) (guess _ (by omega))
  refine ⟨y, m, d, ho, hn, Ev.congr (fun k => ?_) hev⟩
  simp only [date_of.f]
  rw [tdiv_nn 86400 h0, tmod_nn 86400 h0, tmod_nn 60 h0, tdiv_nn 3600 (by omega), tdiv_nn 60 (a := t % 86400) (by omega), w64 (x := t / 86400) (by omega) (by omega), tdiv_nn 366 (by omega), w64 (x := t / 86400 / 366) (by omega) (by omega), w64 (by omega) (by omega), w64 (x := t % 86400 / 3600) (by omega) (by omega), w64 (x := t % 86400 / 60) (by omega) (by omega), tmod_nn 60 (by omega)]

/-- 'seconds'. -/
theorem sec_l0 (y mo d h mi s : Int) (hy0 : 1970 ≤ y) (hy1 : y ≤ 9999) (hm0 : 0 ≤ mo) (hm1 : mo < 12) (hh : 0 ≤ h ∧ h ≤ 23) (hmi : 0 ≤ mi ∧ mi ≤ 59) (hs : 0 ≤ s ∧ s ≤ 59) (a : Int) (ha0 : 0 ≤ a) (ha1 : a ≤ 4000000) (c : Nat) : ∀ i : Int, (c : Int) = mo - i → 0 ≤ i → i ≤ mo →
    Ev (fun k => date_moment_seconds.l0 k (a + cum y i) mo i y mo d h mi s) ((a + cum y mo) * 86400 + h * 3600 + mi * 60 + s) := by
  induction c with
  | zero =>
    intro i hc h0 h1
    obtain rfl : i = mo := by omega
    refine Ev.step (f := fun _ => some _) (fun k => ?_) (Ev.now _)
    simp only [date_moment_seconds.l0]
    have hb := cum_pos y i h0 (by omega)
    rw [if_neg (by omega), w64 (x := (a + cum y i) * 86400) (by omega) (by omega), w64 (x := h * 3600) (by omega) (by omega), w64 (x := mi * 60) (by omega) (by omega), w64 (x := h * 3600 + mi * 60) (by omega) (by omega), w64 (x := h * 3600 + mi * 60 + s) (by omega) (by omega), w64 (by omega) (by omega)]
    congr 1
    omega
  | succ c ih =>
    intro i hc h0 h1
    have hb := cum_pos y i h0 (by omega)
    have hs := cum_succ y i h0 (by omega)
    have hh := len_hi y i
    have hl := len_lo y i
    refine Ev.step (f := fun k => date_moment_seconds.l0 k (a + cum y (i + 1)) mo (i + 1) y mo d h mi s) (fun k => ?_) (ih (i + 1) (by omega) (by omega) (by omega))
    simp only [date_moment_seconds.l0]
    rw [if_pos (by omega), length_f y i (by omega)]
    simp only [Option.bind_some]
    rw [w64 (x := i + 1) (by omega) (by omega), w64 (by omega) (by omega), hs]
    congr 1
    omega
theorem sec_ev (y mo d h mi s : Int) (ho : Ok y mo d) (hh : 0 ≤ h ∧ h ≤ 23) (hmi : 0 ≤ mi ∧ mi ≤ 59) (hs : 0 ≤ s ∧ s ≤ 59) :
    Ev (fun k => date_moment_seconds.f k y mo d h mi s) (num y mo d * 86400 + h * 3600 + mi * 60 + s) := by
  have hd0 : 0 ≤ dys y := by have := dys_le ho.y0; rw [dys_1970] at this; exact this
  have hd1 : dys y ≤ 2932897 := by have := dys_le (show y ≤ 10000 by have := ho.y1; omega); rw [dys_10000] at this; exact this
  have hl := len_hi y mo
  have hev := sec_l0 y mo d h mi s ho.y0 ho.y1 ho.m0 ho.m1 hh hmi hs (dys y + d - 1) (by have := ho.d0; omega) (by have := ho.d1; omega) mo.toNat 0 (by have := ho.m0; omega) (by omega) ho.m0
  have e : dys y + d - 1 + cum y mo = num y mo d := by unfold num; omega
  rw [e] at hev
  refine Ev.congr (fun k => ?_) hev
  simp only [date_moment_seconds.f, days_f y ho.y0 (by have := ho.y1; omega), Option.bind_some]
  have := ho.d0; have := ho.d1
  rw [w64 (x := dys y + d) (by omega) (by omega), w64 (by omega) (by omega), cum_0]
  congr 1
  omega
end Go.Proofs.YtcdbnphhoihldaaDoor.Pure
/- Plain Lean: the three forms of a time's text, as lists of bytes; what the printed functions write. -/
namespace Go.Proofs.YtcdbnphhoihldaaDoor.Pure
open Go.RowKit Go.Proofs.YtcdbnphhoihldaaDoor.X Go.Proofs.YtcdbnphhoihldaaDoor.Cal Go.Proofs.YtcdbnphhoihldaaDoorW.PrintWords Go.Proofs.YtcdbnphhoihldaaDoorW.PrintLast Go.Proofs.YtcdbnphhoihldaaDoorW.PrintMore
set_option linter.unusedVariables false
set_option linter.unusedSimpArgs false

theorem bytes_append (a b : List UInt8) : X.bytes a ++ X.bytes b = X.bytes (a ++ b) := by
  apply ByteArray.ext
  simp [X.bytes]
theorem bytes_size (a : List UInt8) : (X.bytes a).size = a.length := rfl
theorem eq_bytes (s : ByteArray) : s = X.bytes s.data.toList := by
  apply ByteArray.ext
  simp [X.bytes]
theorem bytes_list (l : List UInt8) : (X.bytes l).data.toList = l := by simp [X.bytes]
theorem bytes_toList (l : List UInt8) : (X.bytes l).toList = l := by rw [ByteArray.toList_eq, bytes_list]
theorem bt_bytes (l : List UInt8) (i : Nat) (h : i < l.length) : bt (X.bytes l) i = ((l[i]).toNat : Int) := by
  have h' : i < (X.bytes l).size := h
  rw [← bt_at (X.bytes l) (i : Int) (by simpa using h')]
  rfl
theorem extract_bytes (l : List UInt8) (a b : Nat) : (X.bytes l).extract a b = X.bytes ((l.drop a).take (b - a)) := by
  apply ByteArray.ext
  simp [X.bytes, ByteArray.data_extract]

/-- A digit's byte. -/
def dg (n : Int) : UInt8 := UInt8.ofNat (48 + n.toNat)
theorem dg_nat {n : Int} (h0 : 0 ≤ n) (h9 : n ≤ 9) : ((dg n).toNat : Int) = 48 + n := by
  unfold dg
  rw [UInt8.toNat_ofNat']
  omega
/-- Two digits. -/
def tw (n : Int) : List UInt8 := [dg (n / 10 % 10), dg (n % 10)]
theorem itoa_f (n : Int) (h0 : 0 ≤ n) (h9 : n < 10) : strconv_Itoa.f n = some (X.bytes [dg n]) := by
  unfold strconv_Itoa.f
  rw [if_pos (by omega)]
  unfold Lib.decDigits
  rw [dif_pos (by omega)]
  rfl
theorem two_f (n : Int) (h0 : 0 ≤ n) (h1 : n ≤ 1000000) : date_two.f n = some (X.bytes (tw n)) := by
  unfold date_two.f
  rw [tdiv_nn 10 h0, w64 (x := n / 10) (by omega) (by omega), tmod_nn 10 (by omega), tmod_nn 10 h0, itoa_f _ (by omega) (by omega), itoa_f _ (by omega) (by omega)]
  simp only [Option.bind_some]
  rw [if_pos (by simp [bytes_size]), bytes_append]
  rfl
/-- A time of day. -/
def ck (h mi s : Int) : List UInt8 := tw h ++ [58] ++ tw mi ++ [58] ++ tw s
theorem lit_bytes (l : List UInt8) : (⟨l.toArray⟩ : ByteArray) = X.bytes l := rfl
theorem clock_f (y mo d h mi s : Int) (hh : 0 ≤ h ∧ h ≤ 23) (hmi : 0 ≤ mi ∧ mi ≤ 59) (hs : 0 ≤ s ∧ s ≤ 59) : date_moment_clock.f y mo d h mi s = some (X.bytes (ck h mi s)) := by
  unfold date_moment_clock.f
  rw [two_f h hh.1 (by omega), two_f mi hmi.1 (by omega), two_f s hs.1 (by omega)]
  simp only [Option.bind_some, lit_bytes, bytes_append]
  rw [if_pos (by simp [bytes_size, tw]), if_pos (by simp [bytes_size, tw]), if_pos (by simp [bytes_size, tw]), if_pos (by simp [bytes_size, tw])]
  rfl
/-- Names. -/
def ld (w : Int) : List UInt8 := (longDay w).data.toList
def sd (w : Int) : List UInt8 := (ld w).take 3
def m3 (m : Int) : List UInt8 := (shortMonth m).data.toList
theorem ld_f (w : Int) : longDay w = X.bytes (ld w) := eq_bytes _
theorem sd_f (w : Int) : (longDay w).extract 0 3 = X.bytes (sd w) := by rw [ld_f, extract_bytes]; rfl
theorem m3_f (m : Int) : shortMonth m = X.bytes (m3 m) := eq_bytes _
/-- A day's number, a blank ahead of one digit. -/
def dl (d : Int) : List UInt8 := if d < 10 then [32, dg d] else tw d
/-- The three forms. -/
def T1 (y mo d h mi s w : Int) : List UInt8 := sd w ++ [44, 32] ++ tw d ++ [32] ++ m3 mo ++ [32] ++ tw (y / 100) ++ tw y ++ [32] ++ ck h mi s ++ [32, 71, 77, 84]
def T2 (y mo d h mi s w : Int) : List UInt8 := ld w ++ [44, 32] ++ tw d ++ [45] ++ m3 mo ++ [45] ++ tw y ++ [32] ++ ck h mi s ++ [32, 71, 77, 84]
def T3 (y mo d h mi s w : Int) : List UInt8 := sd w ++ [32] ++ m3 mo ++ [32] ++ dl d ++ [32] ++ ck h mi s ++ [32] ++ tw (y / 100) ++ tw y
/-- A time's parts that may be. -/
structure Tm (y mo d h mi s : Int) : Prop where
  ok : Ok y mo d
  h0 : 0 ≤ h
  h1 : h ≤ 23
  mi0 : 0 ≤ mi
  mi1 : mi ≤ 59
  s0 : 0 ≤ s
  s1 : s ≤ 59
/-- Its seconds, its day of the week. -/
def sec (y mo d h mi s : Int) : Int := num y mo d * 86400 + h * 3600 + mi * 60 + s
def wk (y mo d : Int) : Int := (num y mo d + 4) % 7
theorem wk0 (y mo d : Int) : 0 ≤ wk y mo d ∧ wk y mo d < 7 := by unfold wk; omega
theorem Tm.d {y mo d h mi s : Int} (t : Tm y mo d h mi s) : 1 ≤ d ∧ d ≤ 31 := ⟨t.ok.d0, Int.le_trans t.ok.d1 (len_hi _ _)⟩
theorem text1_f {y mo d h mi s : Int} (t : Tm y mo d h mi s) (w : Int) (hw : 0 ≤ w ∧ w < 7) : text1 y mo d h mi s w = some (X.bytes (T1 y mo d h mi s w)) := by
  have := t.ok.y0; have := t.ok.y1; have hd := t.d
  unfold text1
  rw [if_pos ⟨hw.1, hw.2, t.ok.m0, t.ok.m1⟩, tdiv_nn 100 (by omega), w64 (x := y / 100) (by omega) (by omega), two_f d (by omega) (by omega), two_f (y / 100) (by omega) (by omega), two_f y (by omega) (by omega), clock_f y mo d h mi s ⟨t.h0, t.h1⟩ ⟨t.mi0, t.mi1⟩ ⟨t.s0, t.s1⟩]
  simp only [Option.bind_some, sd_f, m3_f, bytes_append]
  rfl
theorem late_f {y mo d h mi s : Int} (t : Tm y mo d h mi s) (w : Int) (hw : 0 ≤ w ∧ w < 7) : date_late.f y mo d h mi s w = some (X.bytes (T2 y mo d h mi s w)) := by
  have := t.ok.y0; have := t.ok.y1; have hd := t.d
  unfold date_late.f
  rw [if_pos ⟨hw.1, hw.2, t.ok.m0, t.ok.m1⟩, two_f d (by omega) (by omega), two_f y (by omega) (by omega), clock_f y mo d h mi s ⟨t.h0, t.h1⟩ ⟨t.mi0, t.mi1⟩ ⟨t.s0, t.s1⟩]
  simp only [Option.bind_some, ld_f, m3_f, bytes_append]
  rfl
theorem dayOf_f (d : Int) (h0 : 1 ≤ d) (h1 : d ≤ 31) : dayOf d (X.bytes (tw d)) = X.bytes (dl d) := by
  unfold dayOf dl
  split
  · rw [extract_bytes, bytes_append]
    have e : d % 10 = d := by omega
    simp [tw, e]
  · rfl
theorem plain_f {y mo d h mi s : Int} (t : Tm y mo d h mi s) (w : Int) (hw : 0 ≤ w ∧ w < 7) : date_plain.f y mo d h mi s w = some (X.bytes (T3 y mo d h mi s w)) := by
  have := t.ok.y0; have := t.ok.y1; have hd := t.d
  unfold date_plain.f
  rw [if_pos ⟨hw.1, hw.2, t.ok.m0, t.ok.m1⟩, tdiv_nn 100 (by omega), w64 (x := y / 100) (by omega) (by omega), two_f d (by omega) (by omega), two_f (y / 100) (by omega) (by omega), two_f y (by omega) (by omega), clock_f y mo d h mi s ⟨t.h0, t.h1⟩ ⟨t.mi0, t.mi1⟩ ⟨t.s0, t.s1⟩]
  simp only [Option.bind_some, sd_f, m3_f, bytes_append, dayOf_f d hd.1 hd.2]
  rfl
/-- A time within the limits. -/
def cl (t : Int) : Int := mn (mx t 0) 253402300799
theorem cl_id {t : Int} (h0 : 0 ≤ t) (h1 : t ≤ 253402300799) : cl t = t := by unfold cl mn mx; split <;> split <;> omega
/-- Every time within the limits has its parts. -/
theorem parts (t : Int) (h0 : 0 ≤ t) (h1 : t ≤ 253402300799) :
    ∃ y mo d, Tm y mo d (t % 86400 / 3600) (t % 86400 / 60 % 60) (t % 60) ∧ sec y mo d (t % 86400 / 3600) (t % 86400 / 60 % 60) (t % 60) = t ∧ num y mo d = t / 86400 ∧
      Ev (fun k => date_of.f k t) (y, mo, d, t % 86400 / 3600, t % 86400 / 60 % 60, t % 60, wk y mo d) := by
  obtain ⟨y, mo, d, ho, hn, hev⟩ := of_ev t h0 h1
  refine ⟨y, mo, d, ⟨ho, by omega, by omega, by omega, by omega, by omega, by omega⟩, by unfold sec; rw [hn]; omega, hn, ?_⟩
  unfold wk
  rw [hn]
  exact hev
/-- What 'of' makes of a time's seconds. -/
theorem of_sec {y mo d h mi s : Int} (t : Tm y mo d h mi s) : 0 ≤ sec y mo d h mi s ∧ sec y mo d h mi s ≤ 253402300799 ∧ Ev (fun k => date_of.f k (sec y mo d h mi s)) (y, mo, d, h, mi, s, wk y mo d) := by
  have hb := t.ok.bound
  have := t.h0; have := t.h1; have := t.mi0; have := t.mi1; have := t.s0; have := t.s1
  have hs0 : 0 ≤ sec y mo d h mi s := by unfold sec; omega
  have hs1 : sec y mo d h mi s ≤ 253402300799 := by unfold sec; omega
  refine ⟨hs0, hs1, ?_⟩
  obtain ⟨y', mo', d', t', hs', hn', hev⟩ := parts _ hs0 hs1
  have hn : num y' mo' d' = num y mo d := by rw [hn']; unfold sec; omega
  obtain ⟨rfl, rfl, rfl⟩ := num_inj t'.ok t.ok hn
  have e1 : sec y' mo' d' h mi s % 86400 / 3600 = h := by unfold sec; omega
  have e2 : sec y' mo' d' h mi s % 86400 / 60 % 60 = mi := by unfold sec; omega
  have e3 : sec y' mo' d' h mi s % 60 = s := by unfold sec; omega
  rw [e1, e2, e3] at hev
  exact hev
/-- 'Text' of a time. -/
theorem text_ev {y mo d h mi s : Int} (t : Tm y mo d h mi s) {x : Int} (hx : cl x = sec y mo d h mi s) : Ev (fun k => date_Text.f k x) (X.bytes (T1 y mo d h mi s (wk y mo d))) := by
  obtain ⟨h0, h1, hev⟩ := of_sec t
  refine Ev.congr (fun k => ?_) (Ev.bind hev (f := fun k z => text1 z.1 z.2.1 z.2.2.1 z.2.2.2.1 z.2.2.2.2.1 z.2.2.2.2.2.1 z.2.2.2.2.2.2) (Ev.congr (fun k => text1_f t _ (wk0 y mo d)) (Ev.now _)))
  simp only [date_Text.f]
  rw [show mn (mx x 0) 253402300799 = sec y mo d h mi s from hx]
end Go.Proofs.YtcdbnphhoihldaaDoor.Pure
-- printed by a program (xp.py, over the kit's print); Lean checks it
namespace Go.Proofs.YtcdbnphhoihldaaDoor.X
open Go.RowKit Go.Proofs.YtcdbnphhoihldaaDoorW.PrintWords Go.Proofs.YtcdbnphhoihldaaDoorW.PrintLast Go.Proofs.YtcdbnphhoihldaaDoorW.PrintMore
attribute [local go_sem] max2_int min2_int max_two min_two max_three min_three max_four min_four   -- for this text's walks alone
set_option linter.unusedVariables false
set_option linter.unusedSimpArgs false

/-! ### line_odd: function 33 -/
def line_odd.f (a0 : Int) : Option (Bool) := if a0 < 32 then (some true) else (some (decide (a0 ≥ 127)))
set_option maxHeartbeats 8000000 in
set_option maxRecDepth 100000 in
theorem line_odd.calls (a0 : Int) (r : Bool) (w : World) (h : line_odd.f a0 = some r) :
    Calls Tryd.prog 33 #[.int .u8 a0] w fun e w' => e = .returned (.bool r) ∧ Drawn0 w w' := by
  have H : (if a0 < 32 then (some true) else (some (decide (a0 ≥ 127)))) = some r := h
  clear h
  by_cases c2 : a0 < 32
  · rw [if_pos c2] at H
    have c2b0 : decide (a0 < 32) = true := decide_eq_true c2
    clear c2
    obtain rfl := Option.some.inj H
    go_enter Tryd.func33, Tryd.ntmps33
    go_wp2
    go_ret
    exact ⟨by first | rfl | (simp; done) | (simp [*]; done), by repeat (first | exact Drawn0.refl _ | apply Drawn0.step)⟩
  · rw [if_neg c2] at H
    have c2b0 : decide (a0 < 32) = false := decide_eq_false c2
    clear c2
    obtain rfl := Option.some.inj H
    go_enter Tryd.func33, Tryd.ntmps33
    go_wp2
    go_ret
    exact ⟨by first | rfl | (simp; done) | (simp [*]; done), by repeat (first | exact Drawn0.refl _ | apply Drawn0.step)⟩

end Go.Proofs.YtcdbnphhoihldaaDoor.X
-- printed by a program (xp.py, over the kit's print); Lean checks it
namespace Go.Proofs.YtcdbnphhoihldaaDoor.X
open Go.RowKit Go.Proofs.YtcdbnphhoihldaaDoorW.PrintWords Go.Proofs.YtcdbnphhoihldaaDoorW.PrintLast Go.Proofs.YtcdbnphhoihldaaDoorW.PrintMore
attribute [local go_sem] max2_int min2_int max_two min_two max_three min_three max_four min_four   -- for this text's walks alone
set_option linter.unusedVariables false
set_option linter.unusedSimpArgs false

/-! ### line_Quote: function 15 -/
mutual
def line_Quote.l0 : Nat → ByteArray → List Int → Int → Int → Option (ByteArray)
 | 0, _, _, _, _ => none
 | k + 1, x0, x3, x8, x9 => if x9 < x8 then (if 0 ≤ x9 then (if x9 < (x0.size : Int) then (if (bt x0 x9) = 34 then (line_Quote.j1 k x0 x3 (bt x0 x9) x8 x9 true) else (line_Quote.j1 k x0 x3 (bt x0 x9) x8 x9 ((bt x0 x9) == 92))) else (none)) else (none)) else (if x3.length < 140737488355328 then (some (strOfNums (x3 ++ [34]))) else (none))
def line_Quote.j1 : Nat → ByteArray → List Int → Int → Int → Int → Bool → Option (ByteArray)
 | 0, _, _, _, _, _, _ => none
 | k + 1, x0, x3, x5, x8, x9, x19 => if x19 = true then ((some (([92, x5] : List Int) : List Int)).bind fun y181 => (if x3.length + y181.length < 140737488355328 then (line_Quote.l0 k x0 (x3 ++ y181) x8 (wrap64 (x9 + 1))) else (none))) else ((line_odd.f x5).bind fun t187 => (if t187 = true then (if 0 ≤ (x5 / 16) then (if (x5 / 16) < 16 then (if 0 ≤ (Go.bits .and .u8 x5 15) then (if (Go.bits .and .u8 x5 15) < 16 then ((some (([92, 120, bt (⟨#[48, 49, 50, 51, 52, 53, 54, 55, 56, 57, 97, 98, 99, 100, 101, 102]⟩ : ByteArray) (x5 / 16), bt (⟨#[48, 49, 50, 51, 52, 53, 54, 55, 56, 57, 97, 98, 99, 100, 101, 102]⟩ : ByteArray) (Go.bits .and .u8 x5 15)] : List Int) : List Int)).bind fun y188 => (if x3.length + y188.length < 140737488355328 then (line_Quote.l0 k x0 (x3 ++ y188) x8 (wrap64 (x9 + 1))) else (none))) else (none)) else (none)) else (none)) else (none)) else (if x3.length < 140737488355328 then (line_Quote.l0 k x0 (x3 ++ [x5]) x8 (wrap64 (x9 + 1))) else (none))))
end
def line_Quote.f (k : Nat) (a0 : ByteArray) : Option (ByteArray) := line_Quote.l0 k a0 (([34] : List Int)) (a0.size : Int) 0
theorem line_Quote.mono_l : ∀ k, (∀ y0 y1 y2 y3, LeO (line_Quote.l0 k y0 y1 y2 y3) (line_Quote.l0 (k + 1) y0 y1 y2 y3)) ∧ (∀ y0 y1 y2 y3 y4 y5, LeO (line_Quote.j1 k y0 y1 y2 y3 y4 y5) (line_Quote.j1 (k + 1) y0 y1 y2 y3 y4 y5))
 | 0 => ⟨fun _ _ _ _ r h => by simp [line_Quote.l0] at h, fun _ _ _ _ _ _ r h => by simp [line_Quote.j1] at h⟩
 | k + 1 => by
  obtain ⟨ih0, ih1⟩ := line_Quote.mono_l k
  refine ⟨?_, ?_⟩
  ·
   intro y0 y1 y2 y3
   unfold line_Quote.l0
   repeat' first
   | (with_reducible exact ih0 _ _ _ _)
   | (with_reducible exact ih1 _ _ _ _ _ _)
   | (with_reducible exact LeO.refl _)
   | (with_reducible exact LeO.none _)
   | (with_reducible refine LeO.ite ?_ ?_)
   | (with_reducible refine LeO.bind ?_ (fun _ => ?_))
   | exact ih0 _ _ _ _
   | exact ih1 _ _ _ _ _ _
   | exact LeO.none _
   | refine LeO.ite ?_ ?_
   | refine LeO.bind ?_ (fun _ => ?_)
  ·
   intro y0 y1 y2 y3 y4 y5
   unfold line_Quote.j1
   repeat' first
   | (with_reducible exact ih0 _ _ _ _)
   | (with_reducible exact ih1 _ _ _ _ _ _)
   | (with_reducible exact LeO.refl _)
   | (with_reducible exact LeO.none _)
   | (with_reducible refine LeO.ite ?_ ?_)
   | (with_reducible refine LeO.bind ?_ (fun _ => ?_))
   | exact ih0 _ _ _ _
   | exact ih1 _ _ _ _ _ _
   | exact LeO.none _
   | refine LeO.ite ?_ ?_
   | refine LeO.bind ?_ (fun _ => ?_)
theorem line_Quote.mono : ∀ a0 k, LeO (line_Quote.f k a0) (line_Quote.f (k + 1) a0) := by
 intro a0 k
 obtain ⟨ih0, ih1⟩ := line_Quote.mono_l k
 unfold line_Quote.f
 repeat' first
   | (with_reducible exact ih0 _ _ _ _)
   | (with_reducible exact ih1 _ _ _ _ _ _)
   | (with_reducible exact LeO.refl _)
   | (with_reducible exact LeO.none _)
   | (with_reducible refine LeO.ite ?_ ?_)
   | (with_reducible refine LeO.bind ?_ (fun _ => ?_))
   | exact ih0 _ _ _ _
   | exact ih1 _ _ _ _ _ _
   | exact LeO.none _
   | refine LeO.ite ?_ ?_
   | refine LeO.bind ?_ (fun _ => ?_)
def line_Quote.T10 : Bool × List (List Nat × List Nat) := (true, [([], []), ([], []), ([1], [1]), ([2], [2]), ([], []), ([4], [4]), ([5], [5]), ([3, 6], [3, 6]), ([0, 7], [0, 7]), ([8, 8, 0, 1, 2, 3, 4, 5, 6, 7, 8], [0, 8])])
def line_Quote.B10 : List Nat := [0, 0, 2, 6, 0, 16, 48, 126, 255, 511]
theorem line_Quote.tab10 : rtab .any (opsOf Tryd.f15 10) = line_Quote.T10 := by kernel_rfl
theorem line_Quote.bits10 : waitsOk line_Quote.T10.2 line_Quote.B10 = true := by kernel_rfl
set_option maxHeartbeats 8000000 in
set_option maxRecDepth 100000 in
theorem line_Quote.calls (k : Nat) (a0 : ByteArray) (r : ByteArray) (w : World) (h : line_Quote.f k a0 = some r) :
  Calls Tryd.prog 15 #[.string a0] w fun e w' => e = .returned (.string r) ∧ Below w.heap.size w w' := by
 have HB := Aside0.mk (Below.refl w.heap.size w)
 have H : (line_Quote.l0 k a0 (([34] : List Int)) (a0.size : Int) 0) = some r := h
 clear h
 obtain ⟨y175, hy175⟩ : ∃ y_ : List Int, y_ = (([34] : List Int)) := ⟨_, rfl⟩
 replace H : (line_Quote.l0 k a0 y175 (a0.size : Int) 0) = some r := by first | (rw [hy175]; with_reducible exact H) | (have H2_ := (Option.bind_some _ _).symm.trans H; rw [hy175]; with_reducible exact H2_) | (have H2_ := (Option.bind_some _ _).symm.trans H; with_reducible exact H2_) | with_reducible exact H | (rw [hy175]; exact H) | exact H
 have Ny175 := Aside0.mk hy175
 clear hy175
 have H' := Aside0.mk H
 clear H
 go_enter Tryd.func15, Tryd.ntmps15
 go_wp2_with (first | ((with_reducible refine gate_dst (N := 6) rfl ?_); refine Kd.R_lit (Kd.int .u8) _ 5 ?hg (N := 6) ?hd (xs := ([34] : List Int)) (inner := [.int .u8 34]) (ok := fun _ => True) (okp := fun _ => True) ?hr ?hp (fun _ hk => hk) trivial (Below.refl _ _) (Nat.le_refl _) (by simp) ?_; (case hd => rfl); (case hg => rfl); (case hr => first | (go_simp; done) | (go_simp; rfl)); (case hp => exact (Reps.one (show Kd.M (Kd.int .u8) _ _ _ 34 [.int .u8 34] from rfl) (Reps.none _ _))); intro v176 w2 ho3 hb hg_ hnew_; clear hg_ hnew_; (first | rw [← Ny175.out] at ho3 | (simp only [Int.reduceToNat] at ho3; rw [← Ny175.out] at ho3)); have n0_ := Aside0.mk (Kd.R_lower ho3 (below_size (by repeat (first | (with_reducible first | exact HB.out | apply below_alloc | apply pw_below_drewN | apply below_drew1) | exact HB.out)))); have n1_ := Aside0.mk (below_step (by repeat (first | (with_reducible first | exact HB.out | apply below_alloc | apply pw_below_drewN | apply below_drew1) | exact HB.out)) hb); clear HB; have HO177 := n0_; have HB := n1_; clear n0_ n1_; clear hb ho3))
 go_loopg [3, 9] k (fun kq v3 v9 w' => ∃ (x3_1 : List Int) (x9_1 : Int), v9 = .int .i64 x9_1 ∧ Aside0 (line_Quote.l0 kq a0 x3_1 (a0.size : Int) x9_1 = some r) ∧ Aside0 (kq ≤ k) ∧ Aside0 (Kd.R (Kd.int .u8) 5 w' w.heap.size (fun _ => True) v3 x3_1) ∧ Aside0 (Below w.heap.size w w'))
 case atStart => exact ⟨(y175), (0), (by first | rfl | (simp; done) | (simp [*]; done)), H', ⟨Nat.le_refl _⟩, ⟨by (with_reducible repeat (first | apply Kd.R_alloc | apply Kd.R_drewN | apply Kd.R_drew)); exact HO177.out⟩, ⟨by repeat (first | (with_reducible first | exact HB.out | apply below_alloc | apply pw_below_drewN | apply below_drew1) | exact HB.out)⟩⟩
 case round =>
  clear H'
  try clear c1
  try clear p2
  obtain ⟨x3_1, x9_1, rfl, HA, HK1, HO_3, HB⟩ := hrel
  cases gk with
  | zero => exact absurd HA.out (by simp [line_Quote.l0])
  | succ k1 =>
   have H := HA.out
   clear HA
   simp only [line_Quote.l0] at H
   by_cases c4 : x9_1 < (a0.size : Int)
   ·
    rw [if_pos c4] at H
    have c4b0 : decide (x9_1 < (a0.size : Int)) = true := decide_eq_true c4
    clear c4
    by_cases c5 : 0 ≤ x9_1
    ·
     rw [if_pos c5] at H
     have c5b0 : decide (0 ≤ x9_1) = true := decide_eq_true c5
     clear c5
     by_cases c6 : x9_1 < (a0.size : Int)
     ·
      rw [if_pos c6] at H
      have c6b0 : decide (x9_1 < (a0.size : Int)) = true := decide_eq_true c6
      clear c6
      have HC8 := Aside0.mk H
      clear H
      have p7 : 0 ≤ (x9_1 : Int) := of_decide_eq_true (by first | (with_reducible assumption) | assumption)
      have q7 : x9_1 < (a0.size : Int) := of_decide_eq_true (by first | (with_reducible assumption) | assumption)
      have hx7 := bt_at a0 x9_1
      replace p7 := eq_true p7
      replace q7 := eq_true q7
      go_upto_region 7 with (fail)
      go_cut [19] (fun v19 wc => ∃ (kq : Nat) (x19_7 : Bool), v19 = .bool x19_7 ∧ Aside0 (line_Quote.j1 kq a0 x3_1 (bt a0 x9_1) (a0.size : Int) x9_1 x19_7 = some r) ∧ Aside0 (kq ≤ k1) ∧ Aside0 (Kd.R (Kd.int .u8) 5 wc w.heap.size (fun _ => True) u3 x3_1) ∧ Aside0 (Below w.heap.size w wc))
      case first =>
       have H := HC8.out
       clear HC8
       by_cases c9 : (bt a0 x9_1) = 34
       ·
        rw [if_pos c9] at H
        have c9b0 : ((bt a0 x9_1) == 34) = true := beq_iff_eq.mpr c9
        have c9b1 : ((bt a0 x9_1) != 34) = false := bne_eq_false_iff_eq.mpr c9
        clear c9
        (first | rw [c9b0] | (simp only [i64_w, i32_w]; rw [c9b0]) | skip)
        have H' := Aside0.mk H
        clear H
        go_wp2
        go_meet
        case rel => exact ⟨_, (true), (by first | rfl | (simp; done) | (simp [*]; done)), H', ⟨by have := HK1.out; first | omega | exact Nat.le_refl _⟩, ⟨by (with_reducible repeat (first | apply Kd.R_alloc | apply Kd.R_drewN | apply Kd.R_drew)); exact HO_3.out⟩, ⟨by repeat (first | (with_reducible first | exact HB.out | apply below_alloc | apply pw_below_drewN | apply below_drew1) | exact HB.out)⟩⟩
       ·
        rw [if_neg c9] at H
        have c9b0 : ((bt a0 x9_1) == 34) = false := beq_eq_false_iff_ne.mpr c9
        have c9b1 : ((bt a0 x9_1) != 34) = true := bne_iff_ne.mpr c9
        (first | rw [c9b0] | (simp only [i64_w, i32_w]; rw [c9b0]) | skip)
        have H' := Aside0.mk H
        clear H
        go_wp2
        go_meet
        case rel => exact ⟨_, (((bt a0 x9_1) == 92)), (by first | rfl | (simp; done) | (simp [*]; done)), H', ⟨by have := HK1.out; first | omega | exact Nat.le_refl _⟩, ⟨by (with_reducible repeat (first | apply Kd.R_alloc | apply Kd.R_drewN | apply Kd.R_drew)); exact HO_3.out⟩, ⟨by repeat (first | (with_reducible first | exact HB.out | apply below_alloc | apply pw_below_drewN | apply below_drew1) | exact HB.out)⟩⟩
      case rest =>
       clear HC8
       try clear c1
       try clear p2
       try clear c4
       try clear c4b0
       try clear c5
       try clear c5b0
       try clear c6
       try clear c6b0
       try clear p7
       try clear q7
       try clear hx7
       try clear c9
       try clear c9b0
       try clear c9b1
       try clear p2
       try clear p7
       try clear q7
       obtain ⟨kq, x19_7, rfl, HA, HJ7, HO_3, HB⟩ := hcut
       cases kq with
       | zero => exact absurd HA.out (by simp [line_Quote.j1])
       | succ kj7 =>
        have H := HA.out
        clear HA
        simp only [line_Quote.j1] at H
        by_cases c10 : x19_7 = true
        ·
         subst c10
         have H1 : ((some (([92, (bt a0 x9_1)] : List Int) : List Int)).bind fun y181 => (if x3_1.length + y181.length < 140737488355328 then (line_Quote.l0 kj7 a0 (x3_1 ++ y181) (a0.size : Int) (wrap64 (x9_1 + 1))) else (none))) = some r := by rw [if_pos rfl] at H; exact H
         clear H
         have H := H1
         clear H1
         obtain ⟨y181, hy181⟩ : ∃ y_ : List Int, y_ = (([92, (bt a0 x9_1)] : List Int)) := ⟨_, rfl⟩
         replace H : (if x3_1.length + y181.length < 140737488355328 then (line_Quote.l0 kj7 a0 (x3_1 ++ y181) (a0.size : Int) (wrap64 (x9_1 + 1))) else (none)) = some r := by first | (rw [hy181]; with_reducible exact H) | (have H2_ := (Option.bind_some _ _).symm.trans H; rw [hy181]; with_reducible exact H2_) | (have H2_ := (Option.bind_some _ _).symm.trans H; with_reducible exact H2_) | with_reducible exact H | (rw [hy181]; exact H) | exact H
         have Ny181 := Aside0.mk hy181
         clear hy181
         by_cases c11 : x3_1.length + y181.length < 140737488355328
         ·
          rw [if_pos c11] at H
          have LMc11 := Aside0.mk c11
          clear c11
          obtain ⟨y184, hy184⟩ : ∃ y_ : List Int, y_ = (x3_1 ++ y181) := ⟨_, rfl⟩
          replace H : (line_Quote.l0 kj7 a0 y184 (a0.size : Int) (wrap64 (x9_1 + 1))) = some r := by first | (rw [hy184]; with_reducible exact H) | (have H2_ := (Option.bind_some _ _).symm.trans H; rw [hy184]; with_reducible exact H2_) | (have H2_ := (Option.bind_some _ _).symm.trans H; with_reducible exact H2_) | with_reducible exact H | (rw [hy184]; exact H) | exact H
          have Ny184 := Aside0.mk hy184
          clear hy184
          have H' := Aside0.mk H
          clear H
          go_wp2_with (first | ((with_reducible refine gate_dst (N := 28) rfl ?_); refine Kd.R_lit (Kd.int .u8) _ 5 ?hg (N := 28) ?hd (xs := ([92, (bt a0 x9_1)] : List Int)) (inner := [.int .u8 92, .int .u8 (bt a0 x9_1)]) (ok := fun _ => True) (okp := fun _ => True) ?hr ?hp (fun _ hk => hk) trivial (Below.refl _ _) (Nat.le_refl _) (by simp) ?_; (case hd => rfl); (case hg => rfl); (case hr => first | (go_simp; done) | (go_simp; rfl)); (case hp => exact (Reps.one (show Kd.M (Kd.int .u8) _ _ _ 92 [.int .u8 92] from rfl) (Reps.one (show Kd.M (Kd.int .u8) _ _ _ (bt a0 x9_1) [.int .u8 (bt a0 x9_1)] from rfl) (Reps.none _ _)))); intro v182 w12 ho13 hb hg_ hnew_; clear hg_ hnew_; (first | rw [← Ny181.out] at ho13 | (simp only [Int.reduceToNat] at ho13; rw [← Ny181.out] at ho13)); have n0_ := Aside0.mk (Kd.R_elder' (by (with_reducible repeat (first | apply Kd.R_alloc | apply Kd.R_drewN | apply Kd.R_drew)); exact HO_3.out) (Kd.R_base ho13) hb); have n1_ := Aside0.mk (Kd.R_lower (Kd.R_new' ho13 (Kd.R_lt (by (with_reducible repeat (first | apply Kd.R_alloc | apply Kd.R_drewN | apply Kd.R_drew)); exact HO_3.out))) (below_size (by repeat (first | (with_reducible first | exact HB.out | apply below_alloc | apply pw_below_drewN | apply below_drew1) | exact HB.out)))); have n2_ := Aside0.mk (below_step (by repeat (first | (with_reducible first | exact HB.out | apply below_alloc | apply pw_below_drewN | apply below_drew1) | exact HB.out)) hb); clear HO_3; clear HB; have HO_3 := n0_; have HO183 := n1_; have HB := n2_; clear n0_ n1_ n2_; clear hb ho13; obtain ⟨Ao15, co15, eo15⟩ := Kd.R_slice HO183.out; subst eo15) | ((with_reducible refine gate_builtin (b := .append) (xs := #[.tmp 26, .tmp 28]) rfl ?_); at_builtin; refine Kd.R_append_rows (Kd.int .u8) (w0 := w) w.heap.size rfl (.tmp 26) (.tmp 28) 60 5 (.int .u8 0) 1 rfl Tryd.underlying60 info5 rfl (by decide) (by omega) u3 x3_1 y181 _ _ _ (fun k_ => some k_ ≠ (.slice Ao15 y181.length co15 : Value).ownBlock) (fun _ => False) rfl rfl ?aO ?aR (fun _ _ h => h) (fun _ h => h.elim) ?aF ?aB ?aS ?aL ?_; (case aR => repeat (first | exact (Kd.R_reads' HO183.out).2.2 | (with_reducible refine Kd.C_alloc ?_ _) | (with_reducible refine Kd.C_drewN ?_ _) | (with_reducible refine Kd.C_drew ?_))); (case aB => exact (by repeat (first | (with_reducible first | exact HB.out | apply below_alloc | apply pw_below_drewN | apply below_drew1) | exact HB.out))); (case aF => exact (fun k_ hk => Kd.fresh' (Kd.R_lt (by (with_reducible repeat (first | apply Kd.R_alloc | apply Kd.R_drewN | apply Kd.R_drew)); exact HO183.out)) k_ hk)); (case aO => exact (by (with_reducible repeat (first | apply Kd.R_alloc | apply Kd.R_drewN | apply Kd.R_drew)); exact Kd.R_mono HO_3.out (fun _ hk => hk.2))); (case aS => exact (below_size (by repeat (first | (with_reducible first | exact HB.out | apply below_alloc | apply pw_below_drewN | apply below_drew1) | exact HB.out)))); (case aL => have := LMc11.out; omega); intro v185 w14 ho hb hg hat; rw [← Ny184.out] at ho; have n0_ := Aside0.mk (Kd.R_after (ok := (fun _ => True)) (by (with_reducible repeat (first | apply Kd.R_alloc | apply Kd.R_drewN | apply Kd.R_drew)); exact HO183.out) hg hat); have n1_ := Aside0.mk (hb); have n2_ := Aside0.mk (ho); clear HO183; clear HB; clear HO_3; have HO183 := n0_; have HB := n1_; have HO186 := n2_; clear n0_ n1_ n2_; clear ho hb hg hat))
          go_roundg kj7
          case measure => have := HK1.out; have := HJ7.out; omega
          case rel => exact ⟨(y184), (wrap64 (x9_1 + 1)), (by first | rfl | (simp; done) | (simp [*]; done)), H', ⟨by have := HK1.out; have := HJ7.out; omega⟩, ⟨by (with_reducible repeat (first | apply Kd.R_alloc | apply Kd.R_drewN | apply Kd.R_drew)); exact Kd.R_mono HO186.out (fun _ hk => trivial)⟩, ⟨by repeat (first | (with_reducible first | exact HB.out | apply below_alloc | apply pw_below_drewN | apply below_drew1) | exact HB.out)⟩⟩
         ·
          rw [if_neg c11] at H
          exact absurd H (by simp)
        ·
         replace c10 := Bool.eq_false_iff.mpr c10
         subst c10
         have H1 : ((line_odd.f (bt a0 x9_1)).bind fun t187 => (if t187 = true then (if 0 ≤ ((bt a0 x9_1) / 16) then (if ((bt a0 x9_1) / 16) < 16 then (if 0 ≤ (Go.bits .and .u8 (bt a0 x9_1) 15) then (if (Go.bits .and .u8 (bt a0 x9_1) 15) < 16 then ((some (([92, 120, bt (⟨#[48, 49, 50, 51, 52, 53, 54, 55, 56, 57, 97, 98, 99, 100, 101, 102]⟩ : ByteArray) ((bt a0 x9_1) / 16), bt (⟨#[48, 49, 50, 51, 52, 53, 54, 55, 56, 57, 97, 98, 99, 100, 101, 102]⟩ : ByteArray) (Go.bits .and .u8 (bt a0 x9_1) 15)] : List Int) : List Int)).bind fun y188 => (if x3_1.length + y188.length < 140737488355328 then (line_Quote.l0 kj7 a0 (x3_1 ++ y188) (a0.size : Int) (wrap64 (x9_1 + 1))) else (none))) else (none)) else (none)) else (none)) else (none)) else (if x3_1.length < 140737488355328 then (line_Quote.l0 kj7 a0 (x3_1 ++ [(bt a0 x9_1)]) (a0.size : Int) (wrap64 (x9_1 + 1))) else (none)))) = some r := by rw [if_neg (show ¬ (false = true) by decide)] at H; exact H
         clear H
         have H := H1
         clear H1
         replace H := Option.bind_eq_some_iff.mp H
         obtain ⟨t187, A160, H⟩ := H
         replace H : (if t187 = true then (if 0 ≤ ((bt a0 x9_1) / 16) then (if ((bt a0 x9_1) / 16) < 16 then (if 0 ≤ (Go.bits .and .u8 (bt a0 x9_1) 15) then (if (Go.bits .and .u8 (bt a0 x9_1) 15) < 16 then ((some (([92, 120, bt (⟨#[48, 49, 50, 51, 52, 53, 54, 55, 56, 57, 97, 98, 99, 100, 101, 102]⟩ : ByteArray) ((bt a0 x9_1) / 16), bt (⟨#[48, 49, 50, 51, 52, 53, 54, 55, 56, 57, 97, 98, 99, 100, 101, 102]⟩ : ByteArray) (Go.bits .and .u8 (bt a0 x9_1) 15)] : List Int) : List Int)).bind fun y188 => (if x3_1.length + y188.length < 140737488355328 then (line_Quote.l0 kj7 a0 (x3_1 ++ y188) (a0.size : Int) (wrap64 (x9_1 + 1))) else (none))) else (none)) else (none)) else (none)) else (none)) else (if x3_1.length < 140737488355328 then (line_Quote.l0 kj7 a0 (x3_1 ++ [(bt a0 x9_1)]) (a0.size : Int) (wrap64 (x9_1 + 1))) else (none))) = some r := H
         have A16 := Aside0.mk A160
         clear A160
         by_cases c17 : t187 = true
         ·
          subst c17
          have H1 : (if 0 ≤ ((bt a0 x9_1) / 16) then (if ((bt a0 x9_1) / 16) < 16 then (if 0 ≤ (Go.bits .and .u8 (bt a0 x9_1) 15) then (if (Go.bits .and .u8 (bt a0 x9_1) 15) < 16 then ((some (([92, 120, bt (⟨#[48, 49, 50, 51, 52, 53, 54, 55, 56, 57, 97, 98, 99, 100, 101, 102]⟩ : ByteArray) ((bt a0 x9_1) / 16), bt (⟨#[48, 49, 50, 51, 52, 53, 54, 55, 56, 57, 97, 98, 99, 100, 101, 102]⟩ : ByteArray) (Go.bits .and .u8 (bt a0 x9_1) 15)] : List Int) : List Int)).bind fun y188 => (if x3_1.length + y188.length < 140737488355328 then (line_Quote.l0 kj7 a0 (x3_1 ++ y188) (a0.size : Int) (wrap64 (x9_1 + 1))) else (none))) else (none)) else (none)) else (none)) else (none)) = some r := by rw [if_pos rfl] at H; exact H
          clear H
          have H := H1
          clear H1
          obtain ⟨ji18, hji18⟩ : ∃ j_ : Int, ((bt a0 x9_1) / 16) = j_ := ⟨_, rfl⟩
          replace H : (if 0 ≤ (ji18) then (if (ji18) < 16 then (if 0 ≤ (Go.bits .and .u8 (bt a0 x9_1) 15) then (if (Go.bits .and .u8 (bt a0 x9_1) 15) < 16 then ((some (([92, 120, bt (⟨#[48, 49, 50, 51, 52, 53, 54, 55, 56, 57, 97, 98, 99, 100, 101, 102]⟩ : ByteArray) (ji18), bt (⟨#[48, 49, 50, 51, 52, 53, 54, 55, 56, 57, 97, 98, 99, 100, 101, 102]⟩ : ByteArray) (Go.bits .and .u8 (bt a0 x9_1) 15)] : List Int) : List Int)).bind fun y188 => (if x3_1.length + y188.length < 140737488355328 then (line_Quote.l0 kj7 a0 (x3_1 ++ y188) (a0.size : Int) (wrap64 (x9_1 + 1))) else (none))) else (none)) else (none)) else (none)) else (none)) = some r := by first | (rw [hji18] at H; exact H) | (simp only [hji18] at H ⊢; exact H)
          (try rw [hji18] at A16)
          by_cases c19 : 0 ≤ (ji18)
          ·
           rw [if_pos c19] at H
           have c19b0 : decide (0 ≤ (ji18)) = true := decide_eq_true c19
           clear c19
           by_cases c20 : (ji18) < 16
           ·
            rw [if_pos c20] at H
            have c20b0 : decide ((ji18) < 16) = true := decide_eq_true c20
            clear c20
            by_cases c22 : 0 ≤ (Go.bits .and .u8 (bt a0 x9_1) 15)
            ·
             rw [if_pos c22] at H
             have c22b0 : decide (0 ≤ (Go.bits .and .u8 (bt a0 x9_1) 15)) = true := decide_eq_true c22
             clear c22
             by_cases c23 : (Go.bits .and .u8 (bt a0 x9_1) 15) < 16
             ·
              rw [if_pos c23] at H
              have c23b0 : decide ((Go.bits .and .u8 (bt a0 x9_1) 15) < 16) = true := decide_eq_true c23
              clear c23
              obtain ⟨y188, hy188⟩ : ∃ y_ : List Int, y_ = (([92, 120, bt (⟨#[48, 49, 50, 51, 52, 53, 54, 55, 56, 57, 97, 98, 99, 100, 101, 102]⟩ : ByteArray) (ji18), bt (⟨#[48, 49, 50, 51, 52, 53, 54, 55, 56, 57, 97, 98, 99, 100, 101, 102]⟩ : ByteArray) (Go.bits .and .u8 (bt a0 x9_1) 15)] : List Int)) := ⟨_, rfl⟩
              replace H : (if x3_1.length + y188.length < 140737488355328 then (line_Quote.l0 kj7 a0 (x3_1 ++ y188) (a0.size : Int) (wrap64 (x9_1 + 1))) else (none)) = some r := by first | (rw [hy188]; with_reducible exact H) | (have H2_ := (Option.bind_some _ _).symm.trans H; rw [hy188]; with_reducible exact H2_) | (have H2_ := (Option.bind_some _ _).symm.trans H; with_reducible exact H2_) | with_reducible exact H | (rw [hy188]; exact H) | exact H
              have Ny188 := Aside0.mk hy188
              clear hy188
              by_cases c25 : x3_1.length + y188.length < 140737488355328
              ·
               rw [if_pos c25] at H
               have LMc25 := Aside0.mk c25
               clear c25
               obtain ⟨y191, hy191⟩ : ∃ y_ : List Int, y_ = (x3_1 ++ y188) := ⟨_, rfl⟩
               replace H : (line_Quote.l0 kj7 a0 y191 (a0.size : Int) (wrap64 (x9_1 + 1))) = some r := by first | (rw [hy191]; with_reducible exact H) | (have H2_ := (Option.bind_some _ _).symm.trans H; rw [hy191]; with_reducible exact H2_) | (have H2_ := (Option.bind_some _ _).symm.trans H; with_reducible exact H2_) | with_reducible exact H | (rw [hy191]; exact H) | exact H
               have Ny191 := Aside0.mk hy191
               clear hy191
               have H' := Aside0.mk H
               clear H
               try go_wp2_with (first | ((with_reducible refine gate_callee (f := 33) rfl ?_); refine goesL_ (some 32) rfl rfl Tryd.func33 (by kernel_rfl) rfl #[.int .u8 (bt a0 x9_1)] rfl (by (try simp only [List.map_toArray, List.map_cons, List.map_nil]); first | done | rfl | (simp only [List.length_drop, List.length_take]; rfl)) ?_; (with_reducible refine (line_odd.calls (bt a0 x9_1) true _ A16.out).mono ?_); rintro e w' ⟨rfl, ⟨nd, rfl⟩⟩; refine ⟨_, rfl, ?_⟩))
               (try (rw [drewN_self wc]; generalize hq_ : World.drewN wc _ = wc; have n0_ : Aside0 (Kd.R (Kd.int .u8) 5 wc w.heap.size (fun _ => True) u3 x3_1) := ⟨by rw [← hq_]; exact (by (with_reducible repeat (first | apply Kd.R_alloc | apply Kd.R_drewN | apply Kd.R_drew)); exact HO_3.out)⟩; have n1_ : Aside0 (Below w.heap.size w wc) := ⟨by rw [← hq_]; exact (by repeat (first | (with_reducible first | exact HB.out | apply below_alloc | apply pw_below_drewN | apply below_drew1) | exact HB.out))⟩; clear HO_3 HB hq_; have HO_3 := n0_; have HB := n1_; clear n0_ n1_))
               have n0_ := Aside0.mk (Kd.R_drew HO_3.out)
               have n1_ := Aside0.mk (below_drew1 HB.out)
               clear HO_3
               clear HB
               have HO_3 := n0_
               have HB := n1_
               clear n0_ n1_
               have p21 : 0 ≤ ((ji18) : Int) := of_decide_eq_true (by first | (with_reducible assumption) | assumption)
               have q21 : (ji18) < (16 : Int) := of_decide_eq_true (by first | (with_reducible assumption) | assumption)
               have hx21 := bt_at (⟨#[48, 49, 50, 51, 52, 53, 54, 55, 56, 57, 97, 98, 99, 100, 101, 102]⟩ : ByteArray) (ji18)
               replace p21 := eq_true p21
               replace q21 := eq_true q21
               have p24 : 0 ≤ ((Go.bits .and .u8 (bt a0 x9_1) 15) : Int) := of_decide_eq_true (by first | (with_reducible assumption) | assumption)
               have q24 : (Go.bits .and .u8 (bt a0 x9_1) 15) < (16 : Int) := of_decide_eq_true (by first | (with_reducible assumption) | assumption)
               have hx24 := bt_at (⟨#[48, 49, 50, 51, 52, 53, 54, 55, 56, 57, 97, 98, 99, 100, 101, 102]⟩ : ByteArray) (Go.bits .and .u8 (bt a0 x9_1) 15)
               replace p24 := eq_true p24
               replace q24 := eq_true q24
               refine start_ (n := 10) (S := fun w' => True) (ds := []) #[O,O,O,O,O,O,O,O,O,O] (by kernel_rfl) rfl rfl trivial (fun hHeld => ?_); refine with_tabW line_Quote.tab10 line_Quote.bits10 (fun HT_ HW_ => ?_)
               generalize wc.drew = w26 at HO_3 HB hHeld ⊢
               refine pure_ (i := 0) (N := some 33) (v := ?_) (a' := ?_) #[I,O,O,O,O,O,O,O,O,O] rfl rfl (any_of HT_.out (by kernel_rfl)) (fun _ _ _ h => h) (Or.inl ⟨by rfl, ?_⟩) ?_ ?_
               rotate_left
               ·
                intro w'
                go_simp
                with_reducible rfl
               rotate_left
               ·
                simp only [Act.put, List.setIfInBounds_toArray, List.set_cons_zero, List.set_cons_succ, i64_w, i32_w]
                rfl
               refine pure_ (i := 1) (N := some 34) (v := ?_) (a' := ?_) #[I,I,O,O,O,O,O,O,O,O] rfl rfl (any_of HT_.out (by kernel_rfl)) (fun _ _ _ h => h) (Or.inl ⟨by rfl, ?_⟩) ?_ ?_
               rotate_left
               ·
                intro w'
                go_simp
                with_reducible rfl
               rotate_left
               ·
                simp only [Act.put, List.setIfInBounds_toArray, List.set_cons_zero, List.set_cons_succ, i64_w, i32_w]
                rfl
               refine pure_ (i := 2) (N := some 35) (v := ?_) (a' := ?_) #[I,I,I,O,O,O,O,O,O,O] rfl rfl (any_of HT_.out (by kernel_rfl)) (fun _ _ _ h => h) (Or.inl ⟨by rfl, ?_⟩) ?_ ?_
               rotate_left
               ·
                intro w'
                go_simp
                with_reducible rfl
               rotate_left
               ·
                simp only [Act.put, List.setIfInBounds_toArray, List.set_cons_zero, List.set_cons_succ, i64_w, i32_w]
                rfl
               refine pure_ (i := 4) (N := some 37) (v := ?_) (a' := ?_) #[I,I,I,O,I,O,O,O,O,O] rfl rfl (any_of HT_.out (by kernel_rfl)) (fun _ _ _ h => h) (Or.inl ⟨by rfl, ?_⟩) ?_ ?_
               rotate_left
               ·
                intro w'
                go_simp
                with_reducible rfl
               rotate_left
               ·
                simp only [Act.put, List.setIfInBounds_toArray, List.set_cons_zero, List.set_cons_succ, i64_w, i32_w]
                rfl
               refine pure_ (i := 5) (N := some 38) (v := ?_) (a' := ?_) #[I,I,I,O,I,I,O,O,O,O] rfl rfl (any_of HT_.out (by kernel_rfl)) (fun _ _ _ h => h) (Or.inl ⟨by rfl, ?_⟩) ?_ ?_
               rotate_left
               ·
                intro w'
                go_simp
                with_reducible rfl
               rotate_left
               ·
                simp only [Act.put, List.setIfInBounds_toArray, List.set_cons_zero, List.set_cons_succ, i64_w, i32_w]
                rfl
               refine take_ (i := 3) (N := some 36) (v := ?_) (a' := ?_) #[I,I,I,I,I,I,O,O,O,O] rfl rfl (take_ofW HT_.out HW_.out (by kernel_rfl)) (fun _ _ _ h => h) (Or.inl ⟨by rfl, ?_⟩) hHeld ?_ ?_
               rotate_left
               ·
                intro w' _
                go_simp
                with_reducible rfl
               rotate_left
               ·
                simp only [Act.put, List.setIfInBounds_toArray, List.set_cons_zero, List.set_cons_succ, i64_w, i32_w]
                rfl
               refine take_ (i := 6) (N := some 39) (v := ?_) (a' := ?_) #[I,I,I,I,I,I,I,O,O,O] rfl rfl (take_ofW HT_.out HW_.out (by kernel_rfl)) (fun _ _ _ h => h) (Or.inl ⟨by rfl, ?_⟩) hHeld ?_ ?_
               rotate_left
               ·
                intro w' _
                go_simp
                with_reducible rfl
               rotate_left
               ·
                simp only [Act.put, List.setIfInBounds_toArray, List.set_cons_zero, List.set_cons_succ, i64_w, i32_w]
                rfl
               refine one_ (i := 7) (N := some 40) #[I,I,I,I,I,I,I,I,O,O] rfl rfl (one_of HT_.out (by kernel_rfl)) (by decide) (fun K hK => ?_)
               refine Kd.R_lit_step (Kd.int .u8) _ 5 ?hg (N := 40) ?hd (xs := ([92, 120, bt (⟨#[48, 49, 50, 51, 52, 53, 54, 55, 56, 57, 97, 98, 99, 100, 101, 102]⟩ : ByteArray) (ji18), bt (⟨#[48, 49, 50, 51, 52, 53, 54, 55, 56, 57, 97, 98, 99, 100, 101, 102]⟩ : ByteArray) (Go.bits .and .u8 (bt a0 x9_1) 15)] : List Int)) (inner := [.int .u8 92, .int .u8 120, .int .u8 (bt (⟨#[48, 49, 50, 51, 52, 53, 54, 55, 56, 57, 97, 98, 99, 100, 101, 102]⟩ : ByteArray) (ji18)), .int .u8 (bt (⟨#[48, 49, 50, 51, 52, 53, 54, 55, 56, 57, 97, 98, 99, 100, 101, 102]⟩ : ByteArray) (Go.bits .and .u8 (bt a0 x9_1) 15))]) (ok := fun _ => True) (okp := fun _ => True) ?hr ?hp (fun _ hk => hk) trivial (Below.refl _ _) (Nat.le_refl _) (by simp) ?_; (case hd => rfl); (case hg => rfl); (case hr => first | (go_simp; done) | (go_simp; rfl)); (case hp => exact (Reps.one (show Kd.M (Kd.int .u8) _ _ _ 92 [.int .u8 92] from rfl) (Reps.one (show Kd.M (Kd.int .u8) _ _ _ 120 [.int .u8 120] from rfl) (Reps.one (show Kd.M (Kd.int .u8) _ _ _ (bt (⟨#[48, 49, 50, 51, 52, 53, 54, 55, 56, 57, 97, 98, 99, 100, 101, 102]⟩ : ByteArray) (ji18)) [.int .u8 (bt (⟨#[48, 49, 50, 51, 52, 53, 54, 55, 56, 57, 97, 98, 99, 100, 101, 102]⟩ : ByteArray) (ji18))] from rfl) (Reps.one (show Kd.M (Kd.int .u8) _ _ _ (bt (⟨#[48, 49, 50, 51, 52, 53, 54, 55, 56, 57, 97, 98, 99, 100, 101, 102]⟩ : ByteArray) (Go.bits .and .u8 (bt a0 x9_1) 15)) [.int .u8 (bt (⟨#[48, 49, 50, 51, 52, 53, 54, 55, 56, 57, 97, 98, 99, 100, 101, 102]⟩ : ByteArray) (Go.bits .and .u8 (bt a0 x9_1) 15))] from rfl) (Reps.none _ _))))))
               intro v189 w27 ho28 hb hg_ hnew_
               clear hg_ hnew_
               (first | rw [← Ny188.out] at ho28 | (simp only [Int.reduceToNat] at ho28; rw [← Ny188.out] at ho28))
               have n0_ := Aside0.mk (Kd.R_elder' (by (with_reducible repeat (first | apply Kd.R_alloc | apply Kd.R_drewN | apply Kd.R_drew)); exact HO_3.out) (Kd.R_base ho28) hb)
               have n1_ := Aside0.mk (Kd.R_lower (Kd.R_new' ho28 (Kd.R_lt (by (with_reducible repeat (first | apply Kd.R_alloc | apply Kd.R_drewN | apply Kd.R_drew)); exact HO_3.out))) (below_size (by repeat (first | (with_reducible first | exact HB.out | apply below_alloc | apply pw_below_drewN | apply below_drew1) | exact HB.out))))
               have n2_ := Aside0.mk (below_step (by repeat (first | (with_reducible first | exact HB.out | apply below_alloc | apply pw_below_drewN | apply below_drew1) | exact HB.out)) hb)
               clear HO_3
               clear HB
               have HO_3 := n0_
               have HO190 := n1_
               have HB := n2_
               clear n0_ n1_ n2_
               clear hb ho28
               obtain ⟨Ao30, co30, eo30⟩ := Kd.R_slice HO190.out
               (first | subst eo30 | (injection eo30 with f1_ f2_ f3_; have f4_ := f1_.symm; have f5_ := f3_.symm; clear f1_ f2_ f3_; subst f4_; subst f5_))
               refine hK.out _ _ trivial (fun hHeld => ?_)
               clear hK K
               refine norm_ (a' := ?_) ?_ ?_
               rotate_left
               ·
                show Act.put _ (some 40) _ = _
                simp only [Act.put, List.setIfInBounds_toArray, List.set_cons_zero, List.set_cons_succ, i64_w, i32_w]
                rfl
               refine one_ (i := 8) (N := some 41) #[I,I,I,I,I,I,I,I,I,O] rfl rfl (one_of HT_.out (by kernel_rfl)) (by decide) (fun K hK => ?_)
               refine Kd.R_append_rows_step (Kd.int .u8) (w0 := w) w.heap.size (by rfl) (.tmp 33) (.tmp 40) 60 5 (.int .u8 0) 1 rfl Tryd.underlying60 info5 rfl (by decide) (by omega) u3 x3_1 y188 _ _ _ (fun k_ => some k_ ≠ (.slice Ao30 y188.length co30 : Value).ownBlock) (fun _ => False) rfl rfl ?aO ?aR (fun _ _ h => h) (fun _ h => h.elim) ?aF ?aB ?aS ?aL ?_
               (case aR => repeat (first | exact (Kd.R_reads' HO190.out).2.2 | (with_reducible refine Kd.C_alloc ?_ _) | (with_reducible refine Kd.C_drewN ?_ _) | (with_reducible refine Kd.C_drew ?_)))
               (case aB => exact (by repeat (first | (with_reducible first | exact HB.out | apply below_alloc | apply pw_below_drewN | apply below_drew1) | exact HB.out)))
               (case aF => exact (fun k_ hk => Kd.fresh' (Kd.R_lt (by (with_reducible repeat (first | apply Kd.R_alloc | apply Kd.R_drewN | apply Kd.R_drew)); exact HO190.out)) k_ hk))
               (case aO => exact (by (with_reducible repeat (first | apply Kd.R_alloc | apply Kd.R_drewN | apply Kd.R_drew)); exact Kd.R_mono HO_3.out (fun _ hk => hk.2)))
               (case aS => exact (below_size (by repeat (first | (with_reducible first | exact HB.out | apply below_alloc | apply pw_below_drewN | apply below_drew1) | exact HB.out))))
               (case aL => have := LMc25.out; omega)
               intro v192 w29 ho hb hg hat
               rw [← Ny191.out] at ho
               have n0_ := Aside0.mk (Kd.R_after (ok := (fun _ => True)) (by (with_reducible repeat (first | apply Kd.R_alloc | apply Kd.R_drewN | apply Kd.R_drew)); exact HO190.out) hg hat)
               have n1_ := Aside0.mk (hb)
               have n2_ := Aside0.mk (ho)
               clear HO190
               clear HB
               clear HO_3
               have HO190 := n0_
               have HB := n1_
               have HO193 := n2_
               clear n0_ n1_ n2_
               clear ho hb hg hat
               refine hK.out _ _ trivial (fun hHeld => ?_)
               clear hK K
               refine norm_ (a' := ?_) ?_ ?_
               rotate_left
               ·
                show Act.put _ (some 41) _ = _
                simp only [Act.put, List.setIfInBounds_toArray, List.set_cons_zero, List.set_cons_succ, i64_w, i32_w]
                rfl
               refine pure_ (i := 9) (N := some 3) (v := ?_) (a' := ?_) #[I,I,I,I,I,I,I,I,I,I] rfl rfl (any_of HT_.out (by kernel_rfl)) (fun _ _ _ h => h) (Or.inl ⟨by rfl, ?_⟩) ?_ ?_
               rotate_left
               ·
                intro w'
                go_simp
                with_reducible rfl
               rotate_left
               ·
                simp only [Act.put, List.setIfInBounds_toArray, List.set_cons_zero, List.set_cons_succ, i64_w, i32_w]
                rfl
               refine done_ (done_of HT_.out (by kernel_rfl)) ?_
               try go_wp2
               go_roundg kj7
               case measure => have := HK1.out; have := HJ7.out; omega
               case rel => exact ⟨(y191), (wrap64 (x9_1 + 1)), (by first | rfl | (simp; done) | (simp [*]; done)), H', ⟨by have := HK1.out; have := HJ7.out; omega⟩, ⟨by (with_reducible repeat (first | apply Kd.R_alloc | apply Kd.R_drewN | apply Kd.R_drew)); exact Kd.R_mono HO193.out (fun _ hk => trivial)⟩, ⟨by repeat (first | (with_reducible first | exact HB.out | apply below_alloc | apply pw_below_drewN | apply below_drew1) | exact HB.out)⟩⟩
              ·
               rw [if_neg c25] at H
               exact absurd H (by simp)
             ·
              rw [if_neg c23] at H
              exact absurd H (by simp)
            ·
             rw [if_neg c22] at H
             exact absurd H (by simp)
           ·
            rw [if_neg c20] at H
            exact absurd H (by simp)
          ·
           rw [if_neg c19] at H
           exact absurd H (by simp)
         ·
          replace c17 := Bool.eq_false_iff.mpr c17
          subst c17
          have H1 : (if x3_1.length < 140737488355328 then (line_Quote.l0 kj7 a0 (x3_1 ++ [(bt a0 x9_1)]) (a0.size : Int) (wrap64 (x9_1 + 1))) else (none)) = some r := by rw [if_neg (show ¬ (false = true) by decide)] at H; exact H
          clear H
          have H := H1
          clear H1
          by_cases c31 : x3_1.length < 140737488355328
          ·
           rw [if_pos c31] at H
           have LMc31 := Aside0.mk c31
           clear c31
           obtain ⟨y194, hy194⟩ : ∃ y_ : List Int, y_ = (x3_1 ++ [(bt a0 x9_1)]) := ⟨_, rfl⟩
           replace H : (line_Quote.l0 kj7 a0 y194 (a0.size : Int) (wrap64 (x9_1 + 1))) = some r := by first | (rw [hy194]; with_reducible exact H) | (have H2_ := (Option.bind_some _ _).symm.trans H; rw [hy194]; with_reducible exact H2_) | (have H2_ := (Option.bind_some _ _).symm.trans H; with_reducible exact H2_) | with_reducible exact H | (rw [hy194]; exact H) | exact H
           have Ny194 := Aside0.mk hy194
           clear hy194
           have H' := Aside0.mk H
           clear H
           go_wp2_with (first | ((with_reducible refine gate_callee (f := 33) rfl ?_); refine goesL_ (some 32) rfl rfl Tryd.func33 (by kernel_rfl) rfl #[.int .u8 (bt a0 x9_1)] rfl (by (try simp only [List.map_toArray, List.map_cons, List.map_nil]); first | done | rfl | (simp only [List.length_drop, List.length_take]; rfl)) ?_; (with_reducible refine (line_odd.calls (bt a0 x9_1) false _ A16.out).mono ?_); rintro e w' ⟨rfl, ⟨nd, rfl⟩⟩; refine ⟨_, rfl, ?_⟩) | ((with_reducible refine gate_builtin (b := .append) (xs := #[.tmp 15, .tmp 17]) rfl ?_); at_builtin; refine Kd.R_append (Kd.int .u8) (w0 := w) w.heap.size rfl (.tmp 15) (.tmp 17) 60 5 (.int .u8 0) 1 rfl Tryd.underlying60 info5 rfl (by decide) (by omega) u3 x3_1 (bt a0 x9_1) [.int .u8 (bt a0 x9_1)] (fun _ => True) (fun _ => False) rfl rfl ?aP (fun _ hk => hk.elim) ?aF ?aO ?aB ?aS ?aL ?_; (case aP => exact rfl); (case aB => exact (by repeat (first | (with_reducible first | exact HB.out | apply below_alloc | apply pw_below_drewN | apply below_drew1) | exact HB.out))); (case aF => exact (fun _ _ => trivial)); (case aO => exact (by (with_reducible repeat (first | apply Kd.R_alloc | apply Kd.R_drewN | apply Kd.R_drew)); exact HO_3.out)); (case aS => exact (below_size (by repeat (first | (with_reducible first | exact HB.out | apply below_alloc | apply pw_below_drewN | apply below_drew1) | exact HB.out)))); (case aL => have := LMc31.out; omega); intro v195 w32 ho hb hg hat; rw [← Ny194.out] at ho; have n0_ := Aside0.mk (hb); have n1_ := Aside0.mk (ho); clear HB; clear HO_3; have HB := n0_; have HO196 := n1_; clear n0_ n1_; clear ho hb hg hat))
           go_roundg kj7
           case measure => have := HK1.out; have := HJ7.out; omega
           case rel => exact ⟨(y194), (wrap64 (x9_1 + 1)), (by first | rfl | (simp; done) | (simp [*]; done)), H', ⟨by have := HK1.out; have := HJ7.out; omega⟩, ⟨by (with_reducible repeat (first | apply Kd.R_alloc | apply Kd.R_drewN | apply Kd.R_drew)); exact HO196.out⟩, ⟨by repeat (first | (with_reducible first | exact HB.out | apply below_alloc | apply pw_below_drewN | apply below_drew1) | exact HB.out)⟩⟩
          ·
           rw [if_neg c31] at H
           exact absurd H (by simp)
     ·
      rw [if_neg c6] at H
      exact absurd H (by simp)
    ·
     rw [if_neg c5] at H
     exact absurd H (by simp)
   ·
    rw [if_neg c4] at H
    have c4b0 : decide (x9_1 < (a0.size : Int)) = false := decide_eq_false c4
    clear c4
    by_cases c33 : x3_1.length < 140737488355328
    ·
     rw [if_pos c33] at H
     have LMc33 := Aside0.mk c33
     clear c33
     obtain ⟨y178, hy178⟩ : ∃ y_ : List Int, y_ = (x3_1 ++ [34]) := ⟨_, rfl⟩
     replace H : (some (strOfNums y178)) = some r := by first | (rw [hy178]; with_reducible exact H) | (have H2_ := (Option.bind_some _ _).symm.trans H; rw [hy178]; with_reducible exact H2_) | (have H2_ := (Option.bind_some _ _).symm.trans H; with_reducible exact H2_) | with_reducible exact H | (rw [hy178]; exact H) | exact H
     have Ny178 := Aside0.mk hy178
     clear hy178
     obtain rfl := Option.some.inj H
     go_wp2_with (first | ((with_reducible refine gate_builtin (b := .append) (xs := #[.tmp 43, .tmp 44]) rfl ?_); at_builtin; refine Kd.R_append (Kd.int .u8) (w0 := w) w.heap.size rfl (.tmp 43) (.tmp 44) 60 5 (.int .u8 0) 1 rfl Tryd.underlying60 info5 rfl (by decide) (by omega) u3 x3_1 34 [.int .u8 34] (fun _ => True) (fun _ => False) rfl rfl ?aP (fun _ hk => hk.elim) ?aF ?aO ?aB ?aS ?aL ?_; (case aP => exact rfl); (case aB => exact (by repeat (first | (with_reducible first | exact HB.out | apply below_alloc | apply pw_below_drewN | apply below_drew1) | exact HB.out))); (case aF => exact (fun _ _ => trivial)); (case aO => exact (by (with_reducible repeat (first | apply Kd.R_alloc | apply Kd.R_drewN | apply Kd.R_drew)); exact HO_3.out)); (case aS => exact (below_size (by repeat (first | (with_reducible first | exact HB.out | apply below_alloc | apply pw_below_drewN | apply below_drew1) | exact HB.out)))); (case aL => have := LMc33.out; omega); intro v179 w34 ho hb hg hat; rw [← Ny178.out] at ho; have n0_ := Aside0.mk (hb); have n1_ := Aside0.mk (ho); clear HB; clear HO_3; have HB := n0_; have HO180 := n1_; clear n0_ n1_; clear ho hb hg hat; have hcv35 := own_string (P := Tryd.prog) Tryd.underlying60 Tryd.underlying5 Tryd.underlying9 (Kd.own_of_R HO180.out)))
     go_ret
     exact ⟨by first | rfl | (simp [errW_none, errW_some] <;> rfl) | (simp [*, errW_none, errW_some] <;> rfl), by repeat (first | (with_reducible first | exact HB.out | apply below_alloc | apply pw_below_drewN | apply below_drew1) | exact HB.out)⟩
    ·
     rw [if_neg c33] at H
     exact absurd H (by simp)

end Go.Proofs.YtcdbnphhoihldaaDoor.X
/- Plain Lean: what the printed function line.Quote comes to. -/
namespace Go.Proofs.YtcdbnphhoihldaaDoor.Quo
open Go.RowKit Go.Proofs.YtcdbnphhoihldaaDoor.X Go.Proofs.YtcdbnphhoihldaaDoor.Cal Go.Proofs.YtcdbnphhoihldaaDoor.Pure Go.Proofs.YtcdbnphhoihldaaDoorW.PrintWords Go.Proofs.YtcdbnphhoihldaaDoorW.PrintLast Go.Proofs.YtcdbnphhoihldaaDoorW.PrintMore
set_option linter.unusedVariables false
set_option linter.unusedSimpArgs false

def nums (l : List UInt8) : List Int := l.map fun b => (b.toNat : Int)
theorem str_nums (l : List UInt8) : strOfNums (nums l) = X.bytes l := by simp [strOfNums, nums, X.bytes, Function.comp_def]
theorem nums_app (a b : List UInt8) : nums (a ++ b) = nums a ++ nums b := by simp [nums]
theorem nums_len (a : List UInt8) : (nums a).length = a.length := by simp [nums]
theorem u8_eq {b : UInt8} {n : Nat} (hn : n < 256) : ((b.toNat : Int) = n) ↔ b = UInt8.ofNat n := by
  constructor
  · intro h
    have h : b.toNat = n := by omega
    subst h
    simp
  · rintro rfl
    rw [UInt8.toNat_ofNat', Nat.mod_eq_of_lt hn]
def lit16 : ByteArray := ⟨#[48, 49, 50, 51, 52, 53, 54, 55, 56, 57, 97, 98, 99, 100, 101, 102]⟩
theorem lit16_at (c : UInt8) : bt lit16 ((c.toNat : Int) / 16) = ((hexd (c / 16)).toNat : Int) ∧ bt lit16 ((c.toNat : Int) % 16) = ((hexd (c % 16)).toNat : Int) :=
  all_u8 (p := fun c => bt lit16 ((c.toNat : Int) / 16) = ((hexd (c / 16)).toNat : Int) ∧ bt lit16 ((c.toNat : Int) % 16) = ((hexd (c % 16)).toNat : Int)) (by decide +kernel) c
theorem odd_iff (c : UInt8) : odd c = true ↔ ((c.toNat : Int) < 32 ∨ (c.toNat : Int) ≥ 127) :=
  all_u8 (p := fun c => odd c = true ↔ ((c.toNat : Int) < 32 ∨ (c.toNat : Int) ≥ 127)) (by decide +kernel) c
theorem and15 (c : UInt8) : Go.bits .and .u8 (c.toNat : Int) 15 = (c.toNat : Int) % 16 := u8_and15 _ (by omega) (by have := c.toNat_lt; omega)
theorem enc_len (c : UInt8) : (enc c).length ≤ 4 := by
  unfold enc
  split
  · simp
  · split <;> simp
theorem enc_q {c : UInt8} (h : c = 34 ∨ c = 92) : nums (enc c) = [92, (c.toNat : Int)] := by
  unfold enc
  rw [if_pos h]
  rfl
theorem enc_o {c : UInt8} (h : ¬ (c = 34 ∨ c = 92)) (ho : odd c = true) : nums (enc c) = [92, 120, bt lit16 ((c.toNat : Int) / 16), bt lit16 ((c.toNat : Int) % 16)] := by
  unfold enc
  rw [if_neg h, if_pos ho, (lit16_at c).1, (lit16_at c).2]
  rfl
theorem enc_p {c : UInt8} (h : ¬ (c = 34 ∨ c = 92)) (ho : ¬ odd c = true) : nums (enc c) = [(c.toNat : Int)] := by
  unfold enc
  rw [if_neg h, if_neg ho]
  rfl
theorem lineQuote_l0 (s : List UInt8) (hs : s.length ≤ 1000000) (c : Nat) : ∀ (i : Nat) (acc : List UInt8), i + c = s.length → acc.length + 4 * c + 10 < 140737488355328 →
    Ev (fun k => line_Quote.l0 k (X.bytes s) (nums acc) (s.length : Int) (i : Int)) (X.bytes (acc ++ (s.drop i).flatMap enc ++ [34])) := by
  induction c with
  | zero =>
    intro i acc hi ha
    have e : s.drop i = [] := List.drop_eq_nil_of_le (by omega)
    rw [e, List.flatMap_nil, List.append_nil]
    refine Ev.step (f := fun _ => some _) (fun k => ?_) (Ev.now _)
    simp only [line_Quote.l0]
    rw [if_neg (by omega), if_pos (by rw [nums_len]; omega), ← str_nums, nums_app]
    rfl
  | succ c ih =>
    intro i acc hi ha
    have hlt : i < s.length := by omega
    have hd : s.drop i = s[i] :: s.drop (i + 1) := List.drop_eq_getElem_cons hlt
    have hbt : bt (X.bytes s) (i : Int) = ((s[i]).toNat : Int) := bt_bytes s i hlt
    rw [hd, List.flatMap_cons]
    generalize s[i] = b at hbt
    have hb := b.toNat_lt
    have hw : wrap64 ((i : Int) + 1) = ((i + 1 : Nat) : Int) := by rw [w64 (x := (i : Int) + 1) (by omega) (by omega)]; rfl
    have hel := enc_len b
    have ih' := ih (i + 1) (acc ++ enc b) (by omega) (by rw [List.length_append]; omega)
    rw [nums_app] at ih'
    have hsz : (((X.bytes s).size : Nat) : Int) = (s.length : Int) := rfl
    have key : Ev (fun k => line_Quote.j1 k (X.bytes s) (nums acc) (b.toNat : Int) (s.length : Int) (i : Int) (decide (b = 34 ∨ b = 92))) (X.bytes (acc ++ (enc b ++ (s.drop (i + 1)).flatMap enc) ++ [34])) := by
      rw [show acc ++ (enc b ++ (s.drop (i + 1)).flatMap enc) ++ [34] = acc ++ enc b ++ (s.drop (i + 1)).flatMap enc ++ [34] by simp]
      refine Ev.step (fun k => ?_) ih'
      simp only [line_Quote.j1]
      by_cases hq : b = 34 ∨ b = 92
      · rw [if_pos (decide_eq_true hq)]
        simp only [Option.bind_some]
        rw [if_pos (by rw [nums_len]; simp only [List.length_cons, List.length_nil]; omega), hw, enc_q hq]
      · rw [if_neg (by simpa using hq)]
        by_cases ho : odd b = true
        · have e : line_odd.f (b.toNat : Int) = some true := by
            unfold line_odd.f
            rcases (odd_iff b).1 ho with h | h
            · rw [if_pos h]
            · rw [if_neg (by omega), decide_eq_true h]
          rw [e]
          simp only [Option.bind_some, if_true]
          rw [if_pos (by omega), if_pos (by omega), and15, if_pos (by omega), if_pos (by omega)]
          rw [if_pos (by rw [nums_len]; simp only [List.length_cons, List.length_nil]; omega), hw, enc_o hq ho]
          rfl
        · have e : line_odd.f (b.toNat : Int) = some false := by
            unfold line_odd.f
            have := fun z => ho ((odd_iff b).2 z)
            rw [if_neg (fun z => this (.inl z)), decide_eq_false (fun z => this (.inr z))]
          rw [e]
          simp only [Option.bind_some, Bool.false_eq_true, if_false]
          rw [if_pos (by rw [nums_len]; omega), hw, enc_p hq ho]
    refine Ev.step (fun k => ?_) key
    simp only [line_Quote.l0, hbt, hsz]
    rw [if_pos (by omega), if_pos (by omega), if_pos (by omega)]
    by_cases h34 : b = 34
    · rw [if_pos (by rw [h34]; decide), decide_eq_true (.inl h34)]
    · rw [if_neg (show ¬ ((b.toNat : Int) = 34) from fun z => h34 ((u8_eq (n := 34) (by decide)).1 z))]
      congr 1
      rw [Bool.eq_iff_iff]
      simp only [beq_iff_eq, decide_eq_true_eq, h34, false_or]
      exact u8_eq (n := 92) (by decide)
theorem lineQuote_ev (s : List UInt8) (hs : s.length ≤ 1000000) : Ev (fun k => line_Quote.f k (X.bytes s)) (X.bytes (quote s)) := by
  have := lineQuote_l0 s hs s.length 0 [34] (by omega) (by simp; omega)
  rw [List.drop_zero] at this
  exact this
end Go.Proofs.YtcdbnphhoihldaaDoor.Quo
-- printed by a program (xp.py, over the kit's print); Lean checks it
namespace Go.Proofs.YtcdbnphhoihldaaDoor.X
open Go.RowKit Go.Proofs.YtcdbnphhoihldaaDoorW.PrintWords Go.Proofs.YtcdbnphhoihldaaDoorW.PrintLast Go.Proofs.YtcdbnphhoihldaaDoorW.PrintMore
attribute [local go_sem] max2_int min2_int max_two min_two max_three min_three max_four min_four   -- for this text's walks alone
set_option linter.unusedVariables false
set_option linter.unusedSimpArgs false

/-! ### line_value: function 57 -/
def line_value.f (a0 : Int) : Option (Int) := if a0 ≥ 65 then (if a0 ≤ 70 then ((strings_IndexByte.f (⟨#[48, 49, 50, 51, 52, 53, 54, 55, 56, 57, 97, 98, 99, 100, 101, 102]⟩ : ByteArray) ((a0 + 32) % 256)).bind fun t197 => (some t197)) else ((strings_IndexByte.f (⟨#[48, 49, 50, 51, 52, 53, 54, 55, 56, 57, 97, 98, 99, 100, 101, 102]⟩ : ByteArray) a0).bind fun t198 => (some t198))) else ((strings_IndexByte.f (⟨#[48, 49, 50, 51, 52, 53, 54, 55, 56, 57, 97, 98, 99, 100, 101, 102]⟩ : ByteArray) a0).bind fun t199 => (some t199))
set_option maxHeartbeats 8000000 in
set_option maxRecDepth 100000 in
theorem line_value.calls (a0 : Int) (r : Int) (w : World) (h : line_value.f a0 = some r) :
    Calls Tryd.prog 57 #[.int .u8 a0] w fun e w' => e = .returned (.int .i64 r) ∧ Drawn0 w w' := by
  have H : (if a0 ≥ 65 then (if a0 ≤ 70 then ((strings_IndexByte.f (⟨#[48, 49, 50, 51, 52, 53, 54, 55, 56, 57, 97, 98, 99, 100, 101, 102]⟩ : ByteArray) ((a0 + 32) % 256)).bind fun t197 => (some t197)) else ((strings_IndexByte.f (⟨#[48, 49, 50, 51, 52, 53, 54, 55, 56, 57, 97, 98, 99, 100, 101, 102]⟩ : ByteArray) a0).bind fun t198 => (some t198))) else ((strings_IndexByte.f (⟨#[48, 49, 50, 51, 52, 53, 54, 55, 56, 57, 97, 98, 99, 100, 101, 102]⟩ : ByteArray) a0).bind fun t199 => (some t199))) = some r := h
  clear h
  by_cases c2 : a0 ≥ 65
  · rw [if_pos c2] at H
    have c2b0 : decide (65 ≤ a0) = true := decide_eq_true c2
    clear c2
    by_cases c3 : a0 ≤ 70
    · rw [if_pos c3] at H
      have c3b0 : decide (a0 ≤ 70) = true := decide_eq_true c3
      clear c3
      replace H := Option.bind_eq_some_iff.mp H
      obtain ⟨t197, A40, H⟩ := H
      replace H : (some t197) = some r := H
      have A4 := Aside0.mk A40
      clear A40
      obtain rfl := Option.some.inj H
      go_enter Tryd.func57, Tryd.ntmps57
      go_wp2_with (first | ((with_reducible refine gate_callee (f := 67) rfl ?_); refine goesL_ (some 12) rfl rfl Tryd.func67 (by kernel_rfl) rfl #[.string (⟨#[48, 49, 50, 51, 52, 53, 54, 55, 56, 57, 97, 98, 99, 100, 101, 102]⟩ : ByteArray), .int .u8 ((a0 + 32) % 256)] rfl (by (try simp only [List.map_toArray, List.map_cons, List.map_nil]); first | done | rfl | (simp only [List.length_drop, List.length_take]; rfl)) ?_; (with_reducible refine (strings_IndexByte.calls (⟨#[48, 49, 50, 51, 52, 53, 54, 55, 56, 57, 97, 98, 99, 100, 101, 102]⟩ : ByteArray) ((a0 + 32) % 256) t197 _ A4.out).mono ?_); rintro e w' ⟨rfl, ⟨nd, rfl⟩⟩; refine ⟨_, rfl, ?_⟩))
      go_ret
      exact ⟨by first | rfl | (simp; done) | (simp [*]; done), by repeat (first | exact Drawn0.refl _ | apply Drawn0.step)⟩
    · rw [if_neg c3] at H
      have c3b0 : decide (a0 ≤ 70) = false := decide_eq_false c3
      clear c3
      replace H := Option.bind_eq_some_iff.mp H
      obtain ⟨t198, A50, H⟩ := H
      replace H : (some t198) = some r := H
      have A5 := Aside0.mk A50
      clear A50
      obtain rfl := Option.some.inj H
      go_enter Tryd.func57, Tryd.ntmps57
      go_wp2_with (first | ((with_reducible refine gate_callee (f := 67) rfl ?_); refine goesL_ (some 12) rfl rfl Tryd.func67 (by kernel_rfl) rfl #[.string (⟨#[48, 49, 50, 51, 52, 53, 54, 55, 56, 57, 97, 98, 99, 100, 101, 102]⟩ : ByteArray), .int .u8 a0] rfl (by (try simp only [List.map_toArray, List.map_cons, List.map_nil]); first | done | rfl | (simp only [List.length_drop, List.length_take]; rfl)) ?_; (with_reducible refine (strings_IndexByte.calls (⟨#[48, 49, 50, 51, 52, 53, 54, 55, 56, 57, 97, 98, 99, 100, 101, 102]⟩ : ByteArray) a0 t198 _ A5.out).mono ?_); rintro e w' ⟨rfl, ⟨nd, rfl⟩⟩; refine ⟨_, rfl, ?_⟩))
      go_ret
      exact ⟨by first | rfl | (simp; done) | (simp [*]; done), by repeat (first | exact Drawn0.refl _ | apply Drawn0.step)⟩
  · rw [if_neg c2] at H
    have c2b0 : decide (65 ≤ a0) = false := decide_eq_false c2
    clear c2
    replace H := Option.bind_eq_some_iff.mp H
    obtain ⟨t199, A60, H⟩ := H
    replace H : (some t199) = some r := H
    have A6 := Aside0.mk A60
    clear A60
    obtain rfl := Option.some.inj H
    go_enter Tryd.func57, Tryd.ntmps57
    go_wp2_with (first | ((with_reducible refine gate_callee (f := 67) rfl ?_); refine goesL_ (some 12) rfl rfl Tryd.func67 (by kernel_rfl) rfl #[.string (⟨#[48, 49, 50, 51, 52, 53, 54, 55, 56, 57, 97, 98, 99, 100, 101, 102]⟩ : ByteArray), .int .u8 a0] rfl (by (try simp only [List.map_toArray, List.map_cons, List.map_nil]); first | done | rfl | (simp only [List.length_drop, List.length_take]; rfl)) ?_; (with_reducible refine (strings_IndexByte.calls (⟨#[48, 49, 50, 51, 52, 53, 54, 55, 56, 57, 97, 98, 99, 100, 101, 102]⟩ : ByteArray) a0 t199 _ A6.out).mono ?_); rintro e w' ⟨rfl, ⟨nd, rfl⟩⟩; refine ⟨_, rfl, ?_⟩))
    go_ret
    exact ⟨by first | rfl | (simp; done) | (simp [*]; done), by repeat (first | exact Drawn0.refl _ | apply Drawn0.step)⟩

end Go.Proofs.YtcdbnphhoihldaaDoor.X
