-- printed by a program (xp.py, over the kit's print); Lean checks it
import Derived.Test.YtcdbnphhoihldaaDoorG22
import Derived.Test.YtcdbnphhoihldaaDoorG29
namespace Go.Proofs.YtcdbnphhoihldaaDoor.X
open Go.RowKit Go.Proofs.YtcdbnphhoihldaaDoorW.PrintWords Go.Proofs.YtcdbnphhoihldaaDoorW.PrintLast Go.Proofs.YtcdbnphhoihldaaDoorW.PrintMore
attribute [local go_sem] max2_int min2_int max_two min_two max_three min_three max_four min_four   -- for this text's walks alone
set_option linter.unusedVariables false
set_option linter.unusedSimpArgs false

/-! ### ambryref23_quoted: function 35 -/
mutual
def ambryref23_quoted.j0 : Nat → ByteArray → Int → Bool → Option (ByteArray × Int)
 | 0, _, _, _ => none
 | k + 1, x0, x1, x19 => if x19 = true then (some ((⟨#[]⟩ : ByteArray), (-1))) else (ambryref23_quoted.l0 k x0 ([] : List Int) (wrap64 (x1 + 1)))
def ambryref23_quoted.l0 : Nat → ByteArray → List Int → Int → Option (ByteArray × Int)
 | 0, _, _, _ => none
 | k + 1, x0, x6, x7 => if x7 < (x0.size : Int) then (if 0 ≤ x7 then (if (bt x0 x7) = 34 then (some (strOfNums x6, wrap64 (x7 + 1))) else (if (bt x0 x7) = 92 then (if (wrap64 (x7 + 1)) < (x0.size : Int) then (if 0 ≤ (wrap64 (x7 + 1)) then (if (bt x0 (wrap64 (x7 + 1))) = 34 then (ambryref23_quoted.j2 k x0 x6 x7 (bt x0 x7) true) else (ambryref23_quoted.j2 k x0 x6 x7 (bt x0 x7) ((bt x0 (wrap64 (x7 + 1))) == 92))) else (none)) else (ambryref23_quoted.j2 k x0 x6 x7 (bt x0 x7) false)) else (ambryref23_quoted.j2 k x0 x6 x7 (bt x0 x7) false))) else (none)) else (some ((⟨#[]⟩ : ByteArray), (-1)))
def ambryref23_quoted.j2 : Nat → ByteArray → List Int → Int → Int → Bool → Option (ByteArray × Int)
 | 0, _, _, _, _, _ => none
 | k + 1, x0, x6, x7, x8, x42 => if x42 = true then (if 0 ≤ (wrap64 (x7 + 1)) then (if (wrap64 (x7 + 1)) < (x0.size : Int) then (if x6.length < 140737488355328 then (ambryref23_quoted.l0 k x0 (x6 ++ [bt x0 (wrap64 (x7 + 1))]) (wrap64 ((wrap64 (x7 + 1)) + 1))) else (none)) else (none)) else (none)) else (if x8 = 92 then (if (wrap64 (x7 + 3)) ≥ (x0.size : Int) then (ambryref23_quoted.j3 k x0 x6 x7 true) else (if 0 ≤ (wrap64 (x7 + 1)) then (if (wrap64 (x7 + 1)) < (x0.size : Int) then (if (bt x0 (wrap64 (x7 + 1))) = 120 then (if 0 ≤ (wrap64 (x7 + 2)) then (if (wrap64 (x7 + 2)) < (x0.size : Int) then ((ambryref23_hex.f k (bt x0 (wrap64 (x7 + 2)))).bind fun t283 => (if t283 < 0 then (ambryref23_quoted.j3 k x0 x6 x7 true) else (if 0 ≤ (wrap64 (x7 + 3)) then (if (wrap64 (x7 + 3)) < (x0.size : Int) then ((ambryref23_hex.f k (bt x0 (wrap64 (x7 + 3)))).bind fun t284 => (ambryref23_quoted.j3 k x0 x6 x7 (decide (t284 < 0)))) else (none)) else (none)))) else (none)) else (none)) else (ambryref23_quoted.j3 k x0 x6 x7 true)) else (none)) else (none))) else (if x8 < 32 then (some ((⟨#[]⟩ : ByteArray), (-1))) else (if x8 ≥ 127 then (some ((⟨#[]⟩ : ByteArray), (-1))) else (if x6.length < 140737488355328 then (ambryref23_quoted.l0 k x0 (x6 ++ [x8]) (wrap64 (x7 + 1))) else (none)))))
def ambryref23_quoted.j3 : Nat → ByteArray → List Int → Int → Bool → Option (ByteArray × Int)
 | 0, _, _, _, _ => none
 | k + 1, x0, x6, x7, x105 => if x105 = true then (some ((⟨#[]⟩ : ByteArray), (-1))) else (if 0 ≤ (wrap64 (x7 + 2)) then (if (wrap64 (x7 + 2)) < (x0.size : Int) then ((ambryref23_hex.f k (bt x0 (wrap64 (x7 + 2)))).bind fun t285 => (if 0 ≤ (wrap64 (x7 + 3)) then (if (wrap64 (x7 + 3)) < (x0.size : Int) then ((ambryref23_hex.f k (bt x0 (wrap64 (x7 + 3)))).bind fun t286 => (if ((wrap64 ((wrap64 (16 * t285)) + t286)) % 256) ≥ 32 then (if ((wrap64 ((wrap64 (16 * t285)) + t286)) % 256) < 127 then (some ((⟨#[]⟩ : ByteArray), (-1))) else (if x6.length < 140737488355328 then (ambryref23_quoted.l0 k x0 (x6 ++ [(wrap64 ((wrap64 (16 * t285)) + t286)) % 256]) (wrap64 ((wrap64 (x7 + 3)) + 1))) else (none))) else (if x6.length < 140737488355328 then (ambryref23_quoted.l0 k x0 (x6 ++ [(wrap64 ((wrap64 (16 * t285)) + t286)) % 256]) (wrap64 ((wrap64 (x7 + 3)) + 1))) else (none)))) else (none)) else (none))) else (none)) else (none))
end
def ambryref23_quoted.f (k : Nat) (a0 : ByteArray) (a1 : Int) : Option (ByteArray × Int) := if a1 ≥ (a0.size : Int) then (ambryref23_quoted.j0 k a0 a1 true) else (if 0 ≤ a1 then (if a1 < (a0.size : Int) then (ambryref23_quoted.j0 k a0 a1 ((bt a0 a1) != 34)) else (none)) else (none))
theorem ambryref23_quoted.mono_l : ∀ k, (∀ y0 y1 y2, LeO (ambryref23_quoted.j0 k y0 y1 y2) (ambryref23_quoted.j0 (k + 1) y0 y1 y2)) ∧ (∀ y0 y1 y2, LeO (ambryref23_quoted.l0 k y0 y1 y2) (ambryref23_quoted.l0 (k + 1) y0 y1 y2)) ∧ (∀ y0 y1 y2 y3 y4, LeO (ambryref23_quoted.j2 k y0 y1 y2 y3 y4) (ambryref23_quoted.j2 (k + 1) y0 y1 y2 y3 y4)) ∧ (∀ y0 y1 y2 y3, LeO (ambryref23_quoted.j3 k y0 y1 y2 y3) (ambryref23_quoted.j3 (k + 1) y0 y1 y2 y3))
 | 0 => ⟨fun _ _ _ r h => by simp [ambryref23_quoted.j0] at h, fun _ _ _ r h => by simp [ambryref23_quoted.l0] at h, fun _ _ _ _ _ r h => by simp [ambryref23_quoted.j2] at h, fun _ _ _ _ r h => by simp [ambryref23_quoted.j3] at h⟩
 | k + 1 => by
  obtain ⟨ih0, ih1, ih2, ih3⟩ := ambryref23_quoted.mono_l k
  refine ⟨?_, ?_, ?_, ?_⟩
  ·
   intro y0 y1 y2
   unfold ambryref23_quoted.j0
   repeat' first
   | (with_reducible exact ih0 _ _ _)
   | (with_reducible exact ih1 _ _ _)
   | (with_reducible exact ih2 _ _ _ _ _)
   | (with_reducible exact ih3 _ _ _ _)
   | (with_reducible exact ambryref23_hex.mono _ _)
   | (with_reducible exact LeO.refl _)
   | (with_reducible exact LeO.none _)
   | (with_reducible refine LeO.ite ?_ ?_)
   | (with_reducible refine LeO.bind ?_ (fun _ => ?_))
   | exact ih0 _ _ _
   | exact ih1 _ _ _
   | exact ih2 _ _ _ _ _
   | exact ih3 _ _ _ _
   | exact ambryref23_hex.mono _ _
   | exact LeO.none _
   | refine LeO.ite ?_ ?_
   | refine LeO.bind ?_ (fun _ => ?_)
  ·
   intro y0 y1 y2
   unfold ambryref23_quoted.l0
   repeat' first
   | (with_reducible exact ih0 _ _ _)
   | (with_reducible exact ih1 _ _ _)
   | (with_reducible exact ih2 _ _ _ _ _)
   | (with_reducible exact ih3 _ _ _ _)
   | (with_reducible exact ambryref23_hex.mono _ _)
   | (with_reducible exact LeO.refl _)
   | (with_reducible exact LeO.none _)
   | (with_reducible refine LeO.ite ?_ ?_)
   | (with_reducible refine LeO.bind ?_ (fun _ => ?_))
   | exact ih0 _ _ _
   | exact ih1 _ _ _
   | exact ih2 _ _ _ _ _
   | exact ih3 _ _ _ _
   | exact ambryref23_hex.mono _ _
   | exact LeO.none _
   | refine LeO.ite ?_ ?_
   | refine LeO.bind ?_ (fun _ => ?_)
  ·
   intro y0 y1 y2 y3 y4
   unfold ambryref23_quoted.j2
   repeat' first
   | (with_reducible exact ih0 _ _ _)
   | (with_reducible exact ih1 _ _ _)
   | (with_reducible exact ih2 _ _ _ _ _)
   | (with_reducible exact ih3 _ _ _ _)
   | (with_reducible exact ambryref23_hex.mono _ _)
   | (with_reducible exact LeO.refl _)
   | (with_reducible exact LeO.none _)
   | (with_reducible refine LeO.ite ?_ ?_)
   | (with_reducible refine LeO.bind ?_ (fun _ => ?_))
   | exact ih0 _ _ _
   | exact ih1 _ _ _
   | exact ih2 _ _ _ _ _
   | exact ih3 _ _ _ _
   | exact ambryref23_hex.mono _ _
   | exact LeO.none _
   | refine LeO.ite ?_ ?_
   | refine LeO.bind ?_ (fun _ => ?_)
  ·
   intro y0 y1 y2 y3
   unfold ambryref23_quoted.j3
   repeat' first
   | (with_reducible exact ih0 _ _ _)
   | (with_reducible exact ih1 _ _ _)
   | (with_reducible exact ih2 _ _ _ _ _)
   | (with_reducible exact ih3 _ _ _ _)
   | (with_reducible exact ambryref23_hex.mono _ _)
   | (with_reducible exact LeO.refl _)
   | (with_reducible exact LeO.none _)
   | (with_reducible refine LeO.ite ?_ ?_)
   | (with_reducible refine LeO.bind ?_ (fun _ => ?_))
   | exact ih0 _ _ _
   | exact ih1 _ _ _
   | exact ih2 _ _ _ _ _
   | exact ih3 _ _ _ _
   | exact ambryref23_hex.mono _ _
   | exact LeO.none _
   | refine LeO.ite ?_ ?_
   | refine LeO.bind ?_ (fun _ => ?_)
theorem ambryref23_quoted.mono : ∀ a0 a1 k, LeO (ambryref23_quoted.f k a0 a1) (ambryref23_quoted.f (k + 1) a0 a1) := by
 intro a0 a1 k
 obtain ⟨ih0, ih1, ih2, ih3⟩ := ambryref23_quoted.mono_l k
 unfold ambryref23_quoted.f
 repeat' first
   | (with_reducible exact ih0 _ _ _)
   | (with_reducible exact ih1 _ _ _)
   | (with_reducible exact ih2 _ _ _ _ _)
   | (with_reducible exact ih3 _ _ _ _)
   | (with_reducible exact ambryref23_hex.mono _ _)
   | (with_reducible exact LeO.refl _)
   | (with_reducible exact LeO.none _)
   | (with_reducible refine LeO.ite ?_ ?_)
   | (with_reducible refine LeO.bind ?_ (fun _ => ?_))
   | exact ih0 _ _ _
   | exact ih1 _ _ _
   | exact ih2 _ _ _ _ _
   | exact ih3 _ _ _ _
   | exact ambryref23_hex.mono _ _
   | exact LeO.none _
   | refine LeO.ite ?_ ?_
   | refine LeO.bind ?_ (fun _ => ?_)
set_option maxHeartbeats 8000000 in
set_option maxRecDepth 100000 in
theorem ambryref23_quoted.calls (k : Nat) (a0 : ByteArray) (a1 : Int) (r1 : ByteArray) (r2 : Int) (w : World) (h : ambryref23_quoted.f k a0 a1 = some (r1, r2)) :
  Calls Tryd.prog 35 #[.string a0, .int .i64 a1] w fun e w' => e = .returned (.tuple #[.string r1, .int .i64 r2]) ∧ Below w.heap.size w w' := by
 have HB := Aside0.mk (Below.refl w.heap.size w)
 have H : (if a1 ≥ (a0.size : Int) then (ambryref23_quoted.j0 k a0 a1 true) else (if 0 ≤ a1 then (if a1 < (a0.size : Int) then (ambryref23_quoted.j0 k a0 a1 ((bt a0 a1) != 34)) else (none)) else (none))) = some (r1, r2) := h
 clear h
 have HC3 := Aside0.mk H
 clear H
 go_enter Tryd.func35, Tryd.ntmps35
 go_upto_region 1 with (fail)
 repeat (go_quiet (fail); go_upto_region 1 with (fail))
 go_cut [19] (fun v19 wc => ∃ (kq : Nat) (x19_2 : Bool), v19 = .bool x19_2 ∧ Aside0 (ambryref23_quoted.j0 kq a0 a1 x19_2 = some (r1, r2)) ∧ Aside0 (kq ≤ k) ∧ Aside0 (Below w.heap.size w wc))
 case first => as_aux_lemma =>
  have H := HC3.out
  clear HC3
  by_cases c4 : a1 ≥ (a0.size : Int)
  ·
   rw [if_pos c4] at H
   have c4b0 : decide ((a0.size : Int) ≤ a1) = true := decide_eq_true c4
   clear c4
   (first | rw [c4b0] | (simp only [i64_w, i32_w]; rw [c4b0]) | skip)
   have H' := Aside0.mk H
   clear H
   go_wp2
   repeat (go_quiet (fail); try go_wp2)
   go_meet
   case rel => exact ⟨_, (true), (by first | rfl | (simp; done) | (simp [*]; done)), H', ⟨by first | omega | exact Nat.le_refl _⟩, ⟨by repeat (first | (with_reducible first | exact HB.out | apply below_alloc | apply pw_below_drewN | apply below_drew1) | exact HB.out)⟩⟩
  ·
   rw [if_neg c4] at H
   have c4b0 : decide ((a0.size : Int) ≤ a1) = false := decide_eq_false c4
   clear c4
   (first | rw [c4b0] | (simp only [i64_w, i32_w]; rw [c4b0]) | skip)
   by_cases c5 : 0 ≤ a1
   ·
    rw [if_pos c5] at H
    have c5b0 : decide (0 ≤ a1) = true := decide_eq_true c5
    clear c5
    by_cases c6 : a1 < (a0.size : Int)
    ·
     rw [if_pos c6] at H
     have c6b0 : decide (a1 < (a0.size : Int)) = true := decide_eq_true c6
     clear c6
     have H' := Aside0.mk H
     clear H
     have p7 : 0 ≤ (a1 : Int) := of_decide_eq_true (by first | (with_reducible assumption) | assumption)
     have q7 : a1 < (a0.size : Int) := of_decide_eq_true (by first | (with_reducible assumption) | assumption)
     have hx7 := bt_at a0 a1
     replace p7 := eq_true p7
     replace q7 := eq_true q7
     go_wp2
     repeat (go_quiet (fail); try go_wp2)
     go_meet
     case rel => exact ⟨_, (((bt a0 a1) != 34)), (by first | rfl | (simp; done) | (simp [*]; done)), H', ⟨by first | omega | exact Nat.le_refl _⟩, ⟨by repeat (first | (with_reducible first | exact HB.out | apply below_alloc | apply pw_below_drewN | apply below_drew1) | exact HB.out)⟩⟩
    ·
     rw [if_neg c6] at H
     exact absurd H (by simp)
   ·
    rw [if_neg c5] at H
    exact absurd H (by simp)
 case rest => as_aux_lemma =>
  clear HC3
  try clear p2
  try clear c3
  try clear c4
  try clear c4b0
  try clear c5
  try clear c5b0
  try clear c6
  try clear c6b0
  try clear p7
  try clear q7
  try clear hx7
  try clear p7
  try clear q7
  obtain ⟨kq, x19_2, rfl, HA, HJ2, HB⟩ := hcut
  cases kq with
  | zero => exact absurd HA.out (by simp [ambryref23_quoted.j0])
  | succ kj2 =>
   have H := HA.out
   clear HA
   simp only [ambryref23_quoted.j0] at H
   by_cases c8 : x19_2 = true
   ·
    subst c8
    have H1 : (some ((⟨#[]⟩ : ByteArray), (-1))) = some (r1, r2) := by rw [if_pos rfl] at H; exact H
    clear H
    have H := H1
    clear H1
    simp only [Option.some.injEq, Prod.mk.injEq] at H
    obtain ⟨rfl, rfl⟩ := H
    go_wp2
    repeat (go_quiet (fail); try go_wp2)
    go_ret2
    exact ⟨by first | rfl | (simp [errW_none, errW_some] <;> rfl) | (simp [*, errW_none, errW_some] <;> rfl), by repeat (first | (with_reducible first | exact HB.out | apply below_alloc | apply pw_below_drewN | apply below_drew1) | exact HB.out)⟩
   ·
    replace c8 := Bool.eq_false_iff.mpr c8
    subst c8
    have H1 : (ambryref23_quoted.l0 kj2 a0 ([] : List Int) (wrap64 (a1 + 1))) = some (r1, r2) := by rw [if_neg (show ¬ (false = true) by decide)] at H; exact H
    clear H
    have H := H1
    clear H1
    have H' := Aside0.mk H
    clear H
    go_wp2
    repeat (go_quiet (fail); try go_wp2)
    go_loopg [6, 7] kj2 (fun kq v6 v7 w' => ∃ (x6_2 : List Int) (x7_2 : Int), v7 = .int .i64 x7_2 ∧ Aside0 (ambryref23_quoted.l0 kq a0 x6_2 x7_2 = some (r1, r2)) ∧ Aside0 (kq ≤ kj2) ∧ Aside0 (Kd.R (Kd.int .u8) 5 w' w.heap.size (fun _ => True) v6 x6_2) ∧ Aside0 (Below w.heap.size w w'))
    case atStart => exact ⟨(([] : List Int)), (wrap64 (a1 + 1)), (by first | rfl | (simp; done) | (simp [*]; done)), H', ⟨Nat.le_refl _⟩, ⟨by first | exact Kd.R_nil _ _ _ _ _ | exact Kd.N_nil _ _ _ _ _ | exact Kd.V_nil _ _ _ _ _ | exact Kd.Q_nil _ _ _ _ _ | exact Kd.S_nil _ _ _ _ _⟩, ⟨by repeat (first | (with_reducible first | exact HB.out | apply below_alloc | apply pw_below_drewN | apply below_drew1) | exact HB.out)⟩⟩
    case round => as_aux_lemma =>
     clear H'
     try clear p2
     try clear c3
     try clear c4
     try clear c4b0
     try clear c5
     try clear c5b0
     try clear c6
     try clear c6b0
     try clear p6
     try clear p7
     try clear q7
     try clear hx7
     try clear c8
     try clear p2
     try clear p7
     try clear q7
     obtain ⟨x6_2, x7_2, rfl, HA, HK2, HO_6, HB⟩ := hrel
     cases gk with
     | zero => exact absurd HA.out (by simp [ambryref23_quoted.l0])
     | succ k2 =>
      have H := HA.out
      clear HA
      simp only [ambryref23_quoted.l0] at H
      by_cases c9 : x7_2 < (a0.size : Int)
      ·
       rw [if_pos c9] at H
       have c9b0 : decide (x7_2 < (a0.size : Int)) = true := decide_eq_true c9
       clear c9
       by_cases c10 : 0 ≤ x7_2
       ·
        rw [if_pos c10] at H
        have c10b0 : decide (0 ≤ x7_2) = true := decide_eq_true c10
        clear c10
        by_cases c12 : (bt a0 x7_2) = 34
        ·
         rw [if_pos c12] at H
         have c12b0 : ((bt a0 x7_2) == 34) = true := beq_iff_eq.mpr c12
         have c12b1 : ((bt a0 x7_2) != 34) = false := bne_eq_false_iff_eq.mpr c12
         clear c12
         simp only [Option.some.injEq, Prod.mk.injEq] at H
         obtain ⟨rfl, rfl⟩ := H
         have p11 : 0 ≤ (x7_2 : Int) := of_decide_eq_true (by first | (with_reducible assumption) | assumption)
         have q11 : x7_2 < (a0.size : Int) := of_decide_eq_true (by first | (with_reducible assumption) | assumption)
         have hx11 := bt_at a0 x7_2
         replace p11 := eq_true p11
         replace q11 := eq_true q11
         have hcv13 := own_string (P := Tryd.prog) Tryd.underlying60 Tryd.underlying5 Tryd.underlying9 (Kd.own_of_R HO_6.out)
         go_wp2
         repeat (go_quiet (fail); try go_wp2)
         go_ret2
         exact ⟨by first | rfl | (simp [errW_none, errW_some] <;> rfl) | (simp [*, errW_none, errW_some] <;> rfl), by repeat (first | (with_reducible first | exact HB.out | apply below_alloc | apply pw_below_drewN | apply below_drew1) | exact HB.out)⟩
        ·
         rw [if_neg c12] at H
         have c12b0 : ((bt a0 x7_2) == 34) = false := beq_eq_false_iff_ne.mpr c12
         have c12b1 : ((bt a0 x7_2) != 34) = true := bne_iff_ne.mpr c12
         have HC14 := Aside0.mk H
         clear H
         have p11 : 0 ≤ (x7_2 : Int) := of_decide_eq_true (by first | (with_reducible assumption) | assumption)
         have q11 : x7_2 < (a0.size : Int) := of_decide_eq_true (by first | (with_reducible assumption) | assumption)
         have hx11 := bt_at a0 x7_2
         replace p11 := eq_true p11
         replace q11 := eq_true q11
         go_upto_region 11 with (fail)
         repeat (go_quiet (fail); go_upto_region 11 with (fail))
         go_cut [42] (fun v42 wc => ∃ (kq : Nat) (x42_13 : Bool), v42 = .bool x42_13 ∧ Aside0 (ambryref23_quoted.j2 kq a0 x6_2 x7_2 (bt a0 x7_2) x42_13 = some (r1, r2)) ∧ Aside0 (kq ≤ k2) ∧ Aside0 (Kd.R (Kd.int .u8) 5 wc w.heap.size (fun _ => True) u6 x6_2) ∧ Aside0 (Below w.heap.size w wc))
         case first => as_aux_lemma =>
          have H := HC14.out
          clear HC14
          by_cases c15 : (bt a0 x7_2) = 92
          ·
           rw [if_pos c15] at H
           have c15b0 : ((bt a0 x7_2) == 92) = true := beq_iff_eq.mpr c15
           have c15b1 : ((bt a0 x7_2) != 92) = false := bne_eq_false_iff_eq.mpr c15
           clear c15
           (first | rw [c15b0] | (simp only [i64_w, i32_w]; rw [c15b0]) | skip)
           by_cases c16 : (wrap64 (x7_2 + 1)) < (a0.size : Int)
           ·
            rw [if_pos c16] at H
            have c16b0 : decide ((wrap64 (x7_2 + 1)) < (a0.size : Int)) = true := decide_eq_true c16
            clear c16
            obtain ⟨ji17, hji17⟩ : ∃ j_ : Int, (wrap64 (x7_2 + 1)) = j_ := ⟨_, rfl⟩
            replace H : (if 0 ≤ (ji17) then (if (bt a0 (ji17)) = 34 then (ambryref23_quoted.j2 k2 a0 x6_2 x7_2 (bt a0 x7_2) true) else (ambryref23_quoted.j2 k2 a0 x6_2 x7_2 (bt a0 x7_2) ((bt a0 (ji17)) == 92))) else (none)) = some (r1, r2) := by first | (rw [hji17] at H; exact H) | (simp only [hji17] at H ⊢; exact H)
            (try rw [hji17] at c16b0)
            have hji17w : (IntKind.i64.wrap (x7_2 + 1)) = ji17 := (i64_w _).trans hji17
            by_cases c18 : 0 ≤ (ji17)
            ·
             rw [if_pos c18] at H
             have c18b0 : decide (0 ≤ (ji17)) = true := decide_eq_true c18
             clear c18
             by_cases c20 : (bt a0 (ji17)) = 34
             ·
              rw [if_pos c20] at H
              have c20b0 : ((bt a0 (ji17)) == 34) = true := beq_iff_eq.mpr c20
              have c20b1 : ((bt a0 (ji17)) != 34) = false := bne_eq_false_iff_eq.mpr c20
              clear c20
              have H' := Aside0.mk H
              clear H
              have p19 : 0 ≤ ((ji17) : Int) := of_decide_eq_true (by first | (with_reducible assumption) | assumption)
              have q19 : (ji17) < (a0.size : Int) := of_decide_eq_true (by first | (with_reducible assumption) | assumption)
              have hx19 := bt_at a0 (ji17)
              replace p19 := eq_true p19
              replace q19 := eq_true q19
              go_wp2
              repeat (go_quiet (fail); try go_wp2)
              go_meet
              case rel => exact ⟨_, (true), (by first | rfl | (simp; done) | (simp [*]; done)), H', ⟨by have := HJ2.out; have := HK2.out; first | omega | exact Nat.le_refl _⟩, ⟨by (with_reducible repeat (first | apply Kd.R_alloc | apply Kd.R_drewN | apply Kd.R_drew)); exact HO_6.out⟩, ⟨by repeat (first | (with_reducible first | exact HB.out | apply below_alloc | apply pw_below_drewN | apply below_drew1) | exact HB.out)⟩⟩
             ·
              rw [if_neg c20] at H
              have c20b0 : ((bt a0 (ji17)) == 34) = false := beq_eq_false_iff_ne.mpr c20
              have c20b1 : ((bt a0 (ji17)) != 34) = true := bne_iff_ne.mpr c20
              have H' := Aside0.mk H
              clear H
              have p19 : 0 ≤ ((ji17) : Int) := of_decide_eq_true (by first | (with_reducible assumption) | assumption)
              have q19 : (ji17) < (a0.size : Int) := of_decide_eq_true (by first | (with_reducible assumption) | assumption)
              have hx19 := bt_at a0 (ji17)
              replace p19 := eq_true p19
              replace q19 := eq_true q19
              have p21 : 0 ≤ ((ji17) : Int) := of_decide_eq_true (by first | (with_reducible assumption) | assumption)
              have q21 : (ji17) < (a0.size : Int) := of_decide_eq_true (by first | (with_reducible assumption) | assumption)
              have hx21 := bt_at a0 (ji17)
              replace p21 := eq_true p21
              replace q21 := eq_true q21
              go_wp2
              repeat (go_quiet (fail); try go_wp2)
              go_meet
              case rel => exact ⟨_, (((bt a0 (ji17)) == 92)), (by first | rfl | (simp; done) | (simp only [← hji17] <;> (first | rfl | simp)) | (simp [*]; done)), H', ⟨by have := HJ2.out; have := HK2.out; first | omega | exact Nat.le_refl _⟩, ⟨by (with_reducible repeat (first | apply Kd.R_alloc | apply Kd.R_drewN | apply Kd.R_drew)); exact HO_6.out⟩, ⟨by repeat (first | (with_reducible first | exact HB.out | apply below_alloc | apply pw_below_drewN | apply below_drew1) | exact HB.out)⟩⟩
            ·
             rw [if_neg c18] at H
             exact absurd H (by simp)
           ·
            rw [if_neg c16] at H
            have c16b0 : decide ((wrap64 (x7_2 + 1)) < (a0.size : Int)) = false := decide_eq_false c16
            clear c16
            have H' := Aside0.mk H
            clear H
            go_wp2
            repeat (go_quiet (fail); try go_wp2)
            go_meet
            case rel => exact ⟨_, (false), (by first | rfl | (simp; done) | (simp [*]; done)), H', ⟨by have := HJ2.out; have := HK2.out; first | omega | exact Nat.le_refl _⟩, ⟨by (with_reducible repeat (first | apply Kd.R_alloc | apply Kd.R_drewN | apply Kd.R_drew)); exact HO_6.out⟩, ⟨by repeat (first | (with_reducible first | exact HB.out | apply below_alloc | apply pw_below_drewN | apply below_drew1) | exact HB.out)⟩⟩
          ·
           rw [if_neg c15] at H
           have c15b0 : ((bt a0 x7_2) == 92) = false := beq_eq_false_iff_ne.mpr c15
           have c15b1 : ((bt a0 x7_2) != 92) = true := bne_iff_ne.mpr c15
           (first | rw [c15b0] | (simp only [i64_w, i32_w]; rw [c15b0]) | skip)
           have H' := Aside0.mk H
           clear H
           go_wp2
           repeat (go_quiet (fail); try go_wp2)
           go_meet
           case rel => exact ⟨_, (false), (by first | rfl | (simp; done) | (simp [*]; done)), H', ⟨by have := HJ2.out; have := HK2.out; first | omega | exact Nat.le_refl _⟩, ⟨by (with_reducible repeat (first | apply Kd.R_alloc | apply Kd.R_drewN | apply Kd.R_drew)); exact HO_6.out⟩, ⟨by repeat (first | (with_reducible first | exact HB.out | apply below_alloc | apply pw_below_drewN | apply below_drew1) | exact HB.out)⟩⟩
         case rest => as_aux_lemma =>
          clear HC14
          try clear c1
          try clear p1
          try clear q1
          try clear hx1
          try clear hcv1
          try clear c2
          try clear p2
          try clear q2
          try clear hx2
          try clear c3
          try clear c4
          try clear c4b0
          try clear c5
          try clear c5b0
          try clear c6
          try clear c6b0
          try clear p6
          try clear p7
          try clear q7
          try clear hx7
          try clear c8
          try clear c9
          try clear c9b0
          try clear c10
          try clear c10b0
          try clear p11
          try clear q11
          try clear hx11
          try clear c12
          try clear c12b0
          try clear c12b1
          try clear hcv13
          try clear c15
          try clear c15b0
          try clear c15b1
          try clear c16
          try clear c16b0
          try clear c18
          try clear c18b0
          try clear p19
          try clear q19
          try clear hx19
          try clear c20
          try clear c20b0
          try clear c20b1
          try clear p21
          try clear q21
          try clear hx21
          try clear p11
          try clear p19
          try clear p2
          try clear p21
          try clear p6
          try clear p7
          try clear q11
          try clear q19
          try clear q21
          try clear q7
          obtain ⟨kq, x42_13, rfl, HA, HJ13, HO_6, HB⟩ := hcut
          cases kq with
          | zero => exact absurd HA.out (by simp [ambryref23_quoted.j2])
          | succ kj13 =>
           have H := HA.out
           clear HA
           simp only [ambryref23_quoted.j2] at H
           by_cases c22 : x42_13 = true
           ·
            subst c22
            have H1 : (if 0 ≤ (wrap64 (x7_2 + 1)) then (if (wrap64 (x7_2 + 1)) < (a0.size : Int) then (if x6_2.length < 140737488355328 then (ambryref23_quoted.l0 kj13 a0 (x6_2 ++ [bt a0 (wrap64 (x7_2 + 1))]) (wrap64 ((wrap64 (x7_2 + 1)) + 1))) else (none)) else (none)) else (none)) = some (r1, r2) := by rw [if_pos rfl] at H; exact H
            clear H
            have H := H1
            clear H1
            obtain ⟨ji23, hji23⟩ : ∃ j_ : Int, (wrap64 (x7_2 + 1)) = j_ := ⟨_, rfl⟩
            replace H : (if 0 ≤ (ji23) then (if (ji23) < (a0.size : Int) then (if x6_2.length < 140737488355328 then (ambryref23_quoted.l0 kj13 a0 (x6_2 ++ [bt a0 (ji23)]) (wrap64 ((ji23) + 1))) else (none)) else (none)) else (none)) = some (r1, r2) := by first | (rw [hji23] at H; exact H) | (simp only [hji23] at H ⊢; exact H)
            have hji23w : (IntKind.i64.wrap (x7_2 + 1)) = ji23 := (i64_w _).trans hji23
            by_cases c24 : 0 ≤ (ji23)
            ·
             rw [if_pos c24] at H
             have c24b0 : decide (0 ≤ (ji23)) = true := decide_eq_true c24
             clear c24
             by_cases c25 : (ji23) < (a0.size : Int)
             ·
              rw [if_pos c25] at H
              have c25b0 : decide ((ji23) < (a0.size : Int)) = true := decide_eq_true c25
              clear c25
              by_cases c27 : x6_2.length < 140737488355328
              ·
               rw [if_pos c27] at H
               have LMc27 := Aside0.mk c27
               clear c27
               obtain ⟨y280, hy280⟩ : ∃ y_ : List Int, y_ = (x6_2 ++ [bt a0 (ji23)]) := ⟨_, rfl⟩
               replace H : (ambryref23_quoted.l0 kj13 a0 y280 (wrap64 ((ji23) + 1))) = some (r1, r2) := by first | (rw [hy280]; with_reducible exact H) | (have H2_ := (Option.bind_some _ _).symm.trans H; rw [hy280]; with_reducible exact H2_) | (have H2_ := (Option.bind_some _ _).symm.trans H; with_reducible exact H2_) | with_reducible exact H | (rw [hy280]; exact H) | exact H
               have Ny280 := Aside0.mk hy280
               clear hy280
               have H' := Aside0.mk H
               clear H
               have p26 : 0 ≤ ((ji23) : Int) := of_decide_eq_true (by first | (with_reducible assumption) | assumption)
               have q26 : (ji23) < (a0.size : Int) := of_decide_eq_true (by first | (with_reducible assumption) | assumption)
               have hx26 := bt_at a0 (ji23)
               replace p26 := eq_true p26
               replace q26 := eq_true q26
               go_wp2_with (first | ((with_reducible refine gate_builtin (b := .append) (xs := #[.tmp 66, .tmp 71]) rfl ?_); (try (refine gate_guard (by rfl) ?_; dsimp only)); at_builtin; refine Kd.R_append (Kd.int .u8) (w0 := w) w.heap.size rfl (.tmp 66) (.tmp 71) 60 5 (.int .u8 0) 1 rfl Tryd.underlying60 info5 rfl (by decide) (by omega) u6 x6_2 (bt a0 (ji23)) [.int .u8 (bt a0 (ji23))] (fun _ => True) (fun _ => False) rfl rfl ?aP (fun _ hk => hk.elim) ?aF ?aO ?aB ?aS ?aL ?_; (case aP => exact rfl); (case aB => exact (by repeat (first | (with_reducible first | exact HB.out | apply below_alloc | apply pw_below_drewN | apply below_drew1) | exact HB.out))); (case aF => exact (fun _ _ => trivial)); (case aO => exact (by (with_reducible repeat (first | apply Kd.R_alloc | apply Kd.R_drewN | apply Kd.R_drew)); exact HO_6.out)); (case aS => exact (below_size (by repeat (first | (with_reducible first | exact HB.out | apply below_alloc | apply pw_below_drewN | apply below_drew1) | exact HB.out)))); (case aL => have := LMc27.out; omega); intro v281 w28 ho hb hg hat; rw [← Ny280.out] at ho; have n0_ := Aside0.mk (hb); have n1_ := Aside0.mk (ho); clear HB; clear HO_6; have HB := n0_; have HO282 := n1_; clear n0_ n1_; clear ho hb hg hat))
               repeat (go_quiet (first | ((with_reducible refine gate_builtin (b := .append) (xs := #[.tmp 66, .tmp 71]) rfl ?_); (try (refine gate_guard (by rfl) ?_; dsimp only)); at_builtin; refine Kd.R_append (Kd.int .u8) (w0 := w) w.heap.size rfl (.tmp 66) (.tmp 71) 60 5 (.int .u8 0) 1 rfl Tryd.underlying60 info5 rfl (by decide) (by omega) u6 x6_2 (bt a0 (ji23)) [.int .u8 (bt a0 (ji23))] (fun _ => True) (fun _ => False) rfl rfl ?aP (fun _ hk => hk.elim) ?aF ?aO ?aB ?aS ?aL ?_; (case aP => exact rfl); (case aB => exact (by repeat (first | (with_reducible first | exact HB.out | apply below_alloc | apply pw_below_drewN | apply below_drew1) | exact HB.out))); (case aF => exact (fun _ _ => trivial)); (case aO => exact (by (with_reducible repeat (first | apply Kd.R_alloc | apply Kd.R_drewN | apply Kd.R_drew)); exact HO_6.out)); (case aS => exact (below_size (by repeat (first | (with_reducible first | exact HB.out | apply below_alloc | apply pw_below_drewN | apply below_drew1) | exact HB.out)))); (case aL => have := LMc27.out; omega); intro v281 w28 ho hb hg hat; rw [← Ny280.out] at ho; have n0_ := Aside0.mk (hb); have n1_ := Aside0.mk (ho); clear HB; clear HO_6; have HB := n0_; have HO282 := n1_; clear n0_ n1_; clear ho hb hg hat)); try go_wp2_with (first | ((with_reducible refine gate_builtin (b := .append) (xs := #[.tmp 66, .tmp 71]) rfl ?_); (try (refine gate_guard (by rfl) ?_; dsimp only)); at_builtin; refine Kd.R_append (Kd.int .u8) (w0 := w) w.heap.size rfl (.tmp 66) (.tmp 71) 60 5 (.int .u8 0) 1 rfl Tryd.underlying60 info5 rfl (by decide) (by omega) u6 x6_2 (bt a0 (ji23)) [.int .u8 (bt a0 (ji23))] (fun _ => True) (fun _ => False) rfl rfl ?aP (fun _ hk => hk.elim) ?aF ?aO ?aB ?aS ?aL ?_; (case aP => exact rfl); (case aB => exact (by repeat (first | (with_reducible first | exact HB.out | apply below_alloc | apply pw_below_drewN | apply below_drew1) | exact HB.out))); (case aF => exact (fun _ _ => trivial)); (case aO => exact (by (with_reducible repeat (first | apply Kd.R_alloc | apply Kd.R_drewN | apply Kd.R_drew)); exact HO_6.out)); (case aS => exact (below_size (by repeat (first | (with_reducible first | exact HB.out | apply below_alloc | apply pw_below_drewN | apply below_drew1) | exact HB.out)))); (case aL => have := LMc27.out; omega); intro v281 w28 ho hb hg hat; rw [← Ny280.out] at ho; have n0_ := Aside0.mk (hb); have n1_ := Aside0.mk (ho); clear HB; clear HO_6; have HB := n0_; have HO282 := n1_; clear n0_ n1_; clear ho hb hg hat)))
               go_roundg kj13
               case measure => have := HJ2.out; have := HK2.out; have := HJ13.out; omega
               case rel => exact ⟨(y280), (wrap64 ((ji23) + 1)), (by first | rfl | (simp; done) | (simp only [← hji23] <;> (first | rfl | simp)) | (simp [*]; done)), H', ⟨by have := HJ2.out; have := HK2.out; have := HJ13.out; omega⟩, ⟨by (with_reducible repeat (first | apply Kd.R_alloc | apply Kd.R_drewN | apply Kd.R_drew)); exact HO282.out⟩, ⟨by repeat (first | (with_reducible first | exact HB.out | apply below_alloc | apply pw_below_drewN | apply below_drew1) | exact HB.out)⟩⟩
              ·
               rw [if_neg c27] at H
               exact absurd H (by simp)
             ·
              rw [if_neg c25] at H
              exact absurd H (by simp)
            ·
             rw [if_neg c24] at H
             exact absurd H (by simp)
           ·
            replace c22 := Bool.eq_false_iff.mpr c22
            subst c22
            have H1 : (if (bt a0 x7_2) = 92 then (if (wrap64 (x7_2 + 3)) ≥ (a0.size : Int) then (ambryref23_quoted.j3 kj13 a0 x6_2 x7_2 true) else (if 0 ≤ (wrap64 (x7_2 + 1)) then (if (wrap64 (x7_2 + 1)) < (a0.size : Int) then (if (bt a0 (wrap64 (x7_2 + 1))) = 120 then (if 0 ≤ (wrap64 (x7_2 + 2)) then (if (wrap64 (x7_2 + 2)) < (a0.size : Int) then ((ambryref23_hex.f kj13 (bt a0 (wrap64 (x7_2 + 2)))).bind fun t283 => (if t283 < 0 then (ambryref23_quoted.j3 kj13 a0 x6_2 x7_2 true) else (if 0 ≤ (wrap64 (x7_2 + 3)) then (if (wrap64 (x7_2 + 3)) < (a0.size : Int) then ((ambryref23_hex.f kj13 (bt a0 (wrap64 (x7_2 + 3)))).bind fun t284 => (ambryref23_quoted.j3 kj13 a0 x6_2 x7_2 (decide (t284 < 0)))) else (none)) else (none)))) else (none)) else (none)) else (ambryref23_quoted.j3 kj13 a0 x6_2 x7_2 true)) else (none)) else (none))) else (if (bt a0 x7_2) < 32 then (some ((⟨#[]⟩ : ByteArray), (-1))) else (if (bt a0 x7_2) ≥ 127 then (some ((⟨#[]⟩ : ByteArray), (-1))) else (if x6_2.length < 140737488355328 then (ambryref23_quoted.l0 kj13 a0 (x6_2 ++ [(bt a0 x7_2)]) (wrap64 (x7_2 + 1))) else (none))))) = some (r1, r2) := by rw [if_neg (show ¬ (false = true) by decide)] at H; exact H
            clear H
            have H := H1
            clear H1
            by_cases c29 : (bt a0 x7_2) = 92
            ·
             rw [if_pos c29] at H
             have c29b0 : ((bt a0 x7_2) == 92) = true := beq_iff_eq.mpr c29
             have c29b1 : ((bt a0 x7_2) != 92) = false := bne_eq_false_iff_eq.mpr c29
             clear c29
             have HC30 := Aside0.mk H
             clear H
             go_upto_region 15 with (fail)
             repeat (go_quiet (fail); go_upto_region 15 with (fail))
             go_cut [105] (fun v105 wc => ∃ (kq : Nat) (x105_29 : Bool), v105 = .bool x105_29 ∧ Aside0 (ambryref23_quoted.j3 kq a0 x6_2 x7_2 x105_29 = some (r1, r2)) ∧ Aside0 (kq ≤ kj13) ∧ Aside0 (Kd.R (Kd.int .u8) 5 wc w.heap.size (fun _ => True) u6 x6_2) ∧ Aside0 (Below w.heap.size w wc))
             case first => as_aux_lemma =>
              have H := HC30.out
              clear HC30
              by_cases c31 : (wrap64 (x7_2 + 3)) ≥ (a0.size : Int)
              ·
               rw [if_pos c31] at H
               have c31b0 : decide ((a0.size : Int) ≤ (wrap64 (x7_2 + 3))) = true := decide_eq_true c31
               clear c31
               (first | rw [c31b0] | (simp only [i64_w, i32_w]; rw [c31b0]) | skip)
               have H' := Aside0.mk H
               clear H
               go_wp2
               repeat (go_quiet (fail); try go_wp2)
               go_meet
               case rel => exact ⟨_, (true), (by first | rfl | (simp; done) | (simp [*]; done)), H', ⟨by have := HJ2.out; have := HK2.out; have := HJ13.out; first | omega | exact Nat.le_refl _⟩, ⟨by (with_reducible repeat (first | apply Kd.R_alloc | apply Kd.R_drewN | apply Kd.R_drew)); exact HO_6.out⟩, ⟨by repeat (first | (with_reducible first | exact HB.out | apply below_alloc | apply pw_below_drewN | apply below_drew1) | exact HB.out)⟩⟩
              ·
               rw [if_neg c31] at H
               have c31b0 : decide ((a0.size : Int) ≤ (wrap64 (x7_2 + 3))) = false := decide_eq_false c31
               clear c31
               (first | rw [c31b0] | (simp only [i64_w, i32_w]; rw [c31b0]) | skip)
               obtain ⟨ji32, hji32⟩ : ∃ j_ : Int, (wrap64 (x7_2 + 1)) = j_ := ⟨_, rfl⟩
               replace H : (if 0 ≤ (ji32) then (if (ji32) < (a0.size : Int) then (if (bt a0 (ji32)) = 120 then (if 0 ≤ (wrap64 (x7_2 + 2)) then (if (wrap64 (x7_2 + 2)) < (a0.size : Int) then ((ambryref23_hex.f kj13 (bt a0 (wrap64 (x7_2 + 2)))).bind fun t283 => (if t283 < 0 then (ambryref23_quoted.j3 kj13 a0 x6_2 x7_2 true) else (if 0 ≤ (wrap64 (x7_2 + 3)) then (if (wrap64 (x7_2 + 3)) < (a0.size : Int) then ((ambryref23_hex.f kj13 (bt a0 (wrap64 (x7_2 + 3)))).bind fun t284 => (ambryref23_quoted.j3 kj13 a0 x6_2 x7_2 (decide (t284 < 0)))) else (none)) else (none)))) else (none)) else (none)) else (ambryref23_quoted.j3 kj13 a0 x6_2 x7_2 true)) else (none)) else (none)) = some (r1, r2) := by first | (rw [hji32] at H; exact H) | (simp only [hji32] at H ⊢; exact H)
               have hji32w : (IntKind.i64.wrap (x7_2 + 1)) = ji32 := (i64_w _).trans hji32
               by_cases c33 : 0 ≤ (ji32)
               ·
                rw [if_pos c33] at H
                have c33b0 : decide (0 ≤ (ji32)) = true := decide_eq_true c33
                clear c33
                by_cases c34 : (ji32) < (a0.size : Int)
                ·
                 rw [if_pos c34] at H
                 have c34b0 : decide ((ji32) < (a0.size : Int)) = true := decide_eq_true c34
                 clear c34
                 by_cases c36 : (bt a0 (ji32)) = 120
                 ·
                  rw [if_pos c36] at H
                  have c36b0 : ((bt a0 (ji32)) == 120) = true := beq_iff_eq.mpr c36
                  have c36b1 : ((bt a0 (ji32)) != 120) = false := bne_eq_false_iff_eq.mpr c36
                  clear c36
                  obtain ⟨ji37, hji37⟩ : ∃ j_ : Int, (wrap64 (x7_2 + 2)) = j_ := ⟨_, rfl⟩
                  replace H : (if 0 ≤ (ji37) then (if (ji37) < (a0.size : Int) then ((ambryref23_hex.f kj13 (bt a0 (ji37))).bind fun t283 => (if t283 < 0 then (ambryref23_quoted.j3 kj13 a0 x6_2 x7_2 true) else (if 0 ≤ (wrap64 (x7_2 + 3)) then (if (wrap64 (x7_2 + 3)) < (a0.size : Int) then ((ambryref23_hex.f kj13 (bt a0 (wrap64 (x7_2 + 3)))).bind fun t284 => (ambryref23_quoted.j3 kj13 a0 x6_2 x7_2 (decide (t284 < 0)))) else (none)) else (none)))) else (none)) else (none)) = some (r1, r2) := by first | (rw [hji37] at H; exact H) | (simp only [hji37] at H ⊢; exact H)
                  have hji37w : (IntKind.i64.wrap (x7_2 + 2)) = ji37 := (i64_w _).trans hji37
                  by_cases c38 : 0 ≤ (ji37)
                  ·
                   rw [if_pos c38] at H
                   have c38b0 : decide (0 ≤ (ji37)) = true := decide_eq_true c38
                   clear c38
                   by_cases c39 : (ji37) < (a0.size : Int)
                   ·
                    rw [if_pos c39] at H
                    have c39b0 : decide ((ji37) < (a0.size : Int)) = true := decide_eq_true c39
                    clear c39
                    replace H := Option.bind_eq_some_iff.mp H
                    obtain ⟨t283, A410, H⟩ := H
                    replace H : (if t283 < 0 then (ambryref23_quoted.j3 kj13 a0 x6_2 x7_2 true) else (if 0 ≤ (wrap64 (x7_2 + 3)) then (if (wrap64 (x7_2 + 3)) < (a0.size : Int) then ((ambryref23_hex.f kj13 (bt a0 (wrap64 (x7_2 + 3)))).bind fun t284 => (ambryref23_quoted.j3 kj13 a0 x6_2 x7_2 (decide (t284 < 0)))) else (none)) else (none))) = some (r1, r2) := H
                    have A41 := Aside0.mk A410
                    clear A410
                    by_cases c42 : t283 < 0
                    ·
                     rw [if_pos c42] at H
                     have c42b0 : decide (t283 < 0) = true := decide_eq_true c42
                     clear c42
                     have H' := Aside0.mk H
                     clear H
                     have p35 : 0 ≤ ((ji32) : Int) := of_decide_eq_true (by first | (with_reducible assumption) | assumption)
                     have q35 : (ji32) < (a0.size : Int) := of_decide_eq_true (by first | (with_reducible assumption) | assumption)
                     have hx35 := bt_at a0 (ji32)
                     replace p35 := eq_true p35
                     replace q35 := eq_true q35
                     have p40 : 0 ≤ ((ji37) : Int) := of_decide_eq_true (by first | (with_reducible assumption) | assumption)
                     have q40 : (ji37) < (a0.size : Int) := of_decide_eq_true (by first | (with_reducible assumption) | assumption)
                     have hx40 := bt_at a0 (ji37)
                     replace p40 := eq_true p40
                     replace q40 := eq_true q40
                     go_wp2_with (first | (go_at_call 58; (with_reducible refine (ambryref23_hex.calls kj13 (bt a0 (ji37)) t283 _ A41.out).mono ?_); rintro e w' ⟨rfl, ⟨nd, rfl⟩⟩; (try first | exact ⟨rfl, _, World.drewN_drewN _ _ _⟩ | exact ⟨rfl, _, Eq.trans (World.drewN_drewN _ _ _) (congrArg (World.drewN _) (Nat.add_assoc _ _ _))⟩)))
                     repeat (go_quiet (first | (go_at_call 58; (with_reducible refine (ambryref23_hex.calls kj13 (bt a0 (ji37)) t283 _ A41.out).mono ?_); rintro e w' ⟨rfl, ⟨nd, rfl⟩⟩; (try first | exact ⟨rfl, _, World.drewN_drewN _ _ _⟩ | exact ⟨rfl, _, Eq.trans (World.drewN_drewN _ _ _) (congrArg (World.drewN _) (Nat.add_assoc _ _ _))⟩))); try go_wp2_with (first | (go_at_call 58; (with_reducible refine (ambryref23_hex.calls kj13 (bt a0 (ji37)) t283 _ A41.out).mono ?_); rintro e w' ⟨rfl, ⟨nd, rfl⟩⟩; (try first | exact ⟨rfl, _, World.drewN_drewN _ _ _⟩ | exact ⟨rfl, _, Eq.trans (World.drewN_drewN _ _ _) (congrArg (World.drewN _) (Nat.add_assoc _ _ _))⟩))))
                     go_meet
                     case rel => exact ⟨_, (true), (by first | rfl | (simp; done) | (simp [*]; done)), H', ⟨by have := HJ2.out; have := HK2.out; have := HJ13.out; first | omega | exact Nat.le_refl _⟩, ⟨by (with_reducible repeat (first | apply Kd.R_alloc | apply Kd.R_drewN | apply Kd.R_drew)); exact HO_6.out⟩, ⟨by repeat (first | (with_reducible first | exact HB.out | apply below_alloc | apply pw_below_drewN | apply below_drew1) | exact HB.out)⟩⟩
                    ·
                     rw [if_neg c42] at H
                     have c42b0 : decide (t283 < 0) = false := decide_eq_false c42
                     clear c42
                     obtain ⟨ji43, hji43⟩ : ∃ j_ : Int, (wrap64 (x7_2 + 3)) = j_ := ⟨_, rfl⟩
                     replace H : (if 0 ≤ (ji43) then (if (ji43) < (a0.size : Int) then ((ambryref23_hex.f kj13 (bt a0 (ji43))).bind fun t284 => (ambryref23_quoted.j3 kj13 a0 x6_2 x7_2 (decide (t284 < 0)))) else (none)) else (none)) = some (r1, r2) := by first | (rw [hji43] at H; exact H) | (simp only [hji43] at H ⊢; exact H)
                     (try rw [hji43] at c31b0)
                     (try rw [hji43] at A41)
                     have hji43w : (IntKind.i64.wrap (x7_2 + 3)) = ji43 := (i64_w _).trans hji43
                     by_cases c44 : 0 ≤ (ji43)
                     ·
                      rw [if_pos c44] at H
                      have c44b0 : decide (0 ≤ (ji43)) = true := decide_eq_true c44
                      clear c44
                      by_cases c45 : (ji43) < (a0.size : Int)
                      ·
                       rw [if_pos c45] at H
                       have c45b0 : decide ((ji43) < (a0.size : Int)) = true := decide_eq_true c45
                       clear c45
                       replace H := Option.bind_eq_some_iff.mp H
                       obtain ⟨t284, A470, H⟩ := H
                       replace H : (ambryref23_quoted.j3 kj13 a0 x6_2 x7_2 (decide (t284 < 0))) = some (r1, r2) := H
                       have A47 := Aside0.mk A470
                       clear A470
                       have H' := Aside0.mk H
                       clear H
                       have p35 : 0 ≤ ((ji32) : Int) := of_decide_eq_true (by first | (with_reducible assumption) | assumption)
                       have q35 : (ji32) < (a0.size : Int) := of_decide_eq_true (by first | (with_reducible assumption) | assumption)
                       have hx35 := bt_at a0 (ji32)
                       replace p35 := eq_true p35
                       replace q35 := eq_true q35
                       have p40 : 0 ≤ ((ji37) : Int) := of_decide_eq_true (by first | (with_reducible assumption) | assumption)
                       have q40 : (ji37) < (a0.size : Int) := of_decide_eq_true (by first | (with_reducible assumption) | assumption)
                       have hx40 := bt_at a0 (ji37)
                       replace p40 := eq_true p40
                       replace q40 := eq_true q40
                       go_wp2_with (first | (go_at_call 58; (with_reducible refine (ambryref23_hex.calls kj13 (bt a0 (ji37)) t283 _ A41.out).mono ?_); rintro e w' ⟨rfl, ⟨nd, rfl⟩⟩; (try first | exact ⟨rfl, _, World.drewN_drewN _ _ _⟩ | exact ⟨rfl, _, Eq.trans (World.drewN_drewN _ _ _) (congrArg (World.drewN _) (Nat.add_assoc _ _ _))⟩); have p46 : 0 ≤ ((ji43) : Int) := of_decide_eq_true (by first | (with_reducible assumption) | assumption); have q46 : (ji43) < (a0.size : Int) := of_decide_eq_true (by first | (with_reducible assumption) | assumption); have hx46 := bt_at a0 (ji43); replace p46 := eq_true p46; replace q46 := eq_true q46) | (go_at_call 58; (with_reducible refine (ambryref23_hex.calls kj13 (bt a0 (ji43)) t284 _ A47.out).mono ?_); rintro e w' ⟨rfl, ⟨nd, rfl⟩⟩; (try first | exact ⟨rfl, _, World.drewN_drewN _ _ _⟩ | exact ⟨rfl, _, Eq.trans (World.drewN_drewN _ _ _) (congrArg (World.drewN _) (Nat.add_assoc _ _ _))⟩)))
                       repeat (go_quiet (first | (go_at_call 58; (with_reducible refine (ambryref23_hex.calls kj13 (bt a0 (ji37)) t283 _ A41.out).mono ?_); rintro e w' ⟨rfl, ⟨nd, rfl⟩⟩; (try first | exact ⟨rfl, _, World.drewN_drewN _ _ _⟩ | exact ⟨rfl, _, Eq.trans (World.drewN_drewN _ _ _) (congrArg (World.drewN _) (Nat.add_assoc _ _ _))⟩); have p46 : 0 ≤ ((ji43) : Int) := of_decide_eq_true (by first | (with_reducible assumption) | assumption); have q46 : (ji43) < (a0.size : Int) := of_decide_eq_true (by first | (with_reducible assumption) | assumption); have hx46 := bt_at a0 (ji43); replace p46 := eq_true p46; replace q46 := eq_true q46) | (go_at_call 58; (with_reducible refine (ambryref23_hex.calls kj13 (bt a0 (ji43)) t284 _ A47.out).mono ?_); rintro e w' ⟨rfl, ⟨nd, rfl⟩⟩; (try first | exact ⟨rfl, _, World.drewN_drewN _ _ _⟩ | exact ⟨rfl, _, Eq.trans (World.drewN_drewN _ _ _) (congrArg (World.drewN _) (Nat.add_assoc _ _ _))⟩))); try go_wp2_with (first | (go_at_call 58; (with_reducible refine (ambryref23_hex.calls kj13 (bt a0 (ji37)) t283 _ A41.out).mono ?_); rintro e w' ⟨rfl, ⟨nd, rfl⟩⟩; (try first | exact ⟨rfl, _, World.drewN_drewN _ _ _⟩ | exact ⟨rfl, _, Eq.trans (World.drewN_drewN _ _ _) (congrArg (World.drewN _) (Nat.add_assoc _ _ _))⟩); have p46 : 0 ≤ ((ji43) : Int) := of_decide_eq_true (by first | (with_reducible assumption) | assumption); have q46 : (ji43) < (a0.size : Int) := of_decide_eq_true (by first | (with_reducible assumption) | assumption); have hx46 := bt_at a0 (ji43); replace p46 := eq_true p46; replace q46 := eq_true q46) | (go_at_call 58; (with_reducible refine (ambryref23_hex.calls kj13 (bt a0 (ji43)) t284 _ A47.out).mono ?_); rintro e w' ⟨rfl, ⟨nd, rfl⟩⟩; (try first | exact ⟨rfl, _, World.drewN_drewN _ _ _⟩ | exact ⟨rfl, _, Eq.trans (World.drewN_drewN _ _ _) (congrArg (World.drewN _) (Nat.add_assoc _ _ _))⟩))))
                       go_meet
                       case rel => exact ⟨_, (decide (t284 < 0)), (by first | rfl | (simp; done) | (simp [*]; done)), H', ⟨by have := HJ2.out; have := HK2.out; have := HJ13.out; first | omega | exact Nat.le_refl _⟩, ⟨by (with_reducible repeat (first | apply Kd.R_alloc | apply Kd.R_drewN | apply Kd.R_drew)); exact HO_6.out⟩, ⟨by repeat (first | (with_reducible first | exact HB.out | apply below_alloc | apply pw_below_drewN | apply below_drew1) | exact HB.out)⟩⟩
                      ·
                       rw [if_neg c45] at H
                       exact absurd H (by simp)
                     ·
                      rw [if_neg c44] at H
                      exact absurd H (by simp)
                   ·
                    rw [if_neg c39] at H
                    exact absurd H (by simp)
                  ·
                   rw [if_neg c38] at H
                   exact absurd H (by simp)
                 ·
                  rw [if_neg c36] at H
                  have c36b0 : ((bt a0 (ji32)) == 120) = false := beq_eq_false_iff_ne.mpr c36
                  have c36b1 : ((bt a0 (ji32)) != 120) = true := bne_iff_ne.mpr c36
                  have H' := Aside0.mk H
                  clear H
                  have p35 : 0 ≤ ((ji32) : Int) := of_decide_eq_true (by first | (with_reducible assumption) | assumption)
                  have q35 : (ji32) < (a0.size : Int) := of_decide_eq_true (by first | (with_reducible assumption) | assumption)
                  have hx35 := bt_at a0 (ji32)
                  replace p35 := eq_true p35
                  replace q35 := eq_true q35
                  go_wp2
                  repeat (go_quiet (fail); try go_wp2)
                  go_meet
                  case rel => exact ⟨_, (true), (by first | rfl | (simp; done) | (simp [*]; done)), H', ⟨by have := HJ2.out; have := HK2.out; have := HJ13.out; first | omega | exact Nat.le_refl _⟩, ⟨by (with_reducible repeat (first | apply Kd.R_alloc | apply Kd.R_drewN | apply Kd.R_drew)); exact HO_6.out⟩, ⟨by repeat (first | (with_reducible first | exact HB.out | apply below_alloc | apply pw_below_drewN | apply below_drew1) | exact HB.out)⟩⟩
                ·
                 rw [if_neg c34] at H
                 exact absurd H (by simp)
               ·
                rw [if_neg c33] at H
                exact absurd H (by simp)
             case rest => as_aux_lemma =>
              clear HC30
              try clear c1
              try clear p1
              try clear q1
              try clear hx1
              try clear hcv1
              try clear c2
              try clear p2
              try clear q2
              try clear hx2
              try clear c3
              try clear p3
              try clear q3
              try clear hx3
              try clear c4
              try clear c4b0
              try clear p4
              try clear q4
              try clear hx4
              try clear c5
              try clear c5b0
              try clear c6
              try clear c6b0
              try clear p6
              try clear p7
              try clear q7
              try clear hx7
              try clear c8
              try clear c9
              try clear c9b0
              try clear c10
              try clear c10b0
              try clear p11
              try clear q11
              try clear hx11
              try clear c12
              try clear c12b0
              try clear c12b1
              try clear hcv13
              try clear c15
              try clear c15b0
              try clear c15b1
              try clear c16
              try clear c16b0
              try clear c18
              try clear c18b0
              try clear p19
              try clear q19
              try clear hx19
              try clear c20
              try clear c20b0
              try clear c20b1
              try clear p21
              try clear q21
              try clear hx21
              try clear c22
              try clear c24
              try clear c24b0
              try clear c25
              try clear c25b0
              try clear p26
              try clear q26
              try clear hx26
              try clear c27
              try clear c29
              try clear c29b0
              try clear c29b1
              try clear c31
              try clear c31b0
              try clear c33
              try clear c33b0
              try clear c34
              try clear c34b0
              try clear c35
              try clear p35
              try clear q35
              try clear hx35
              try clear c36
              try clear c36b0
              try clear c36b1
              try clear c38
              try clear c38b0
              try clear c39
              try clear c39b0
              try clear p40
              try clear q40
              try clear hx40
              try clear c42
              try clear c42b0
              try clear c44
              try clear c44b0
              try clear c45
              try clear c45b0
              try clear p46
              try clear q46
              try clear hx46
              try clear p1
              try clear p11
              try clear p19
              try clear p2
              try clear p21
              try clear p26
              try clear p35
              try clear p40
              try clear p46
              try clear p6
              try clear p7
              try clear q1
              try clear q11
              try clear q19
              try clear q2
              try clear q21
              try clear q26
              try clear q35
              try clear q40
              try clear q46
              try clear q7
              obtain ⟨kq, x105_29, rfl, HA, HJ29, HO_6, HB⟩ := hcut
              cases kq with
              | zero => exact absurd HA.out (by simp [ambryref23_quoted.j3])
              | succ kj29 =>
               have H := HA.out
               clear HA
               simp only [ambryref23_quoted.j3] at H
               by_cases c48 : x105_29 = true
               ·
                subst c48
                have H1 : (some ((⟨#[]⟩ : ByteArray), (-1))) = some (r1, r2) := by rw [if_pos rfl] at H; exact H
                clear H
                have H := H1
                clear H1
                simp only [Option.some.injEq, Prod.mk.injEq] at H
                obtain ⟨rfl, rfl⟩ := H
                go_wp2
                repeat (go_quiet (fail); try go_wp2)
                go_ret2
                exact ⟨by first | rfl | (simp [errW_none, errW_some] <;> rfl) | (simp [*, errW_none, errW_some] <;> rfl), by repeat (first | (with_reducible first | exact HB.out | apply below_alloc | apply pw_below_drewN | apply below_drew1) | exact HB.out)⟩
               ·
                replace c48 := Bool.eq_false_iff.mpr c48
                subst c48
                have H1 : (if 0 ≤ (wrap64 (x7_2 + 2)) then (if (wrap64 (x7_2 + 2)) < (a0.size : Int) then ((ambryref23_hex.f kj29 (bt a0 (wrap64 (x7_2 + 2)))).bind fun t285 => (if 0 ≤ (wrap64 (x7_2 + 3)) then (if (wrap64 (x7_2 + 3)) < (a0.size : Int) then ((ambryref23_hex.f kj29 (bt a0 (wrap64 (x7_2 + 3)))).bind fun t286 => (if ((wrap64 ((wrap64 (16 * t285)) + t286)) % 256) ≥ 32 then (if ((wrap64 ((wrap64 (16 * t285)) + t286)) % 256) < 127 then (some ((⟨#[]⟩ : ByteArray), (-1))) else (if x6_2.length < 140737488355328 then (ambryref23_quoted.l0 kj29 a0 (x6_2 ++ [(wrap64 ((wrap64 (16 * t285)) + t286)) % 256]) (wrap64 ((wrap64 (x7_2 + 3)) + 1))) else (none))) else (if x6_2.length < 140737488355328 then (ambryref23_quoted.l0 kj29 a0 (x6_2 ++ [(wrap64 ((wrap64 (16 * t285)) + t286)) % 256]) (wrap64 ((wrap64 (x7_2 + 3)) + 1))) else (none)))) else (none)) else (none))) else (none)) else (none)) = some (r1, r2) := by rw [if_neg (show ¬ (false = true) by decide)] at H; exact H
                clear H
                have H := H1
                clear H1
                obtain ⟨ji49, hji49⟩ : ∃ j_ : Int, (wrap64 (x7_2 + 2)) = j_ := ⟨_, rfl⟩
                replace H : (if 0 ≤ (ji49) then (if (ji49) < (a0.size : Int) then ((ambryref23_hex.f kj29 (bt a0 (ji49))).bind fun t285 => (if 0 ≤ (wrap64 (x7_2 + 3)) then (if (wrap64 (x7_2 + 3)) < (a0.size : Int) then ((ambryref23_hex.f kj29 (bt a0 (wrap64 (x7_2 + 3)))).bind fun t286 => (if ((wrap64 ((wrap64 (16 * t285)) + t286)) % 256) ≥ 32 then (if ((wrap64 ((wrap64 (16 * t285)) + t286)) % 256) < 127 then (some ((⟨#[]⟩ : ByteArray), (-1))) else (if x6_2.length < 140737488355328 then (ambryref23_quoted.l0 kj29 a0 (x6_2 ++ [(wrap64 ((wrap64 (16 * t285)) + t286)) % 256]) (wrap64 ((wrap64 (x7_2 + 3)) + 1))) else (none))) else (if x6_2.length < 140737488355328 then (ambryref23_quoted.l0 kj29 a0 (x6_2 ++ [(wrap64 ((wrap64 (16 * t285)) + t286)) % 256]) (wrap64 ((wrap64 (x7_2 + 3)) + 1))) else (none)))) else (none)) else (none))) else (none)) else (none)) = some (r1, r2) := by first | (rw [hji49] at H; exact H) | (simp only [hji49] at H ⊢; exact H)
                have hji49w : (IntKind.i64.wrap (x7_2 + 2)) = ji49 := (i64_w _).trans hji49
                by_cases c50 : 0 ≤ (ji49)
                ·
                 rw [if_pos c50] at H
                 have c50b0 : decide (0 ≤ (ji49)) = true := decide_eq_true c50
                 clear c50
                 by_cases c51 : (ji49) < (a0.size : Int)
                 ·
                  rw [if_pos c51] at H
                  have c51b0 : decide ((ji49) < (a0.size : Int)) = true := decide_eq_true c51
                  clear c51
                  replace H := Option.bind_eq_some_iff.mp H
                  obtain ⟨t285, A530, H⟩ := H
                  replace H : (if 0 ≤ (wrap64 (x7_2 + 3)) then (if (wrap64 (x7_2 + 3)) < (a0.size : Int) then ((ambryref23_hex.f kj29 (bt a0 (wrap64 (x7_2 + 3)))).bind fun t286 => (if ((wrap64 ((wrap64 (16 * t285)) + t286)) % 256) ≥ 32 then (if ((wrap64 ((wrap64 (16 * t285)) + t286)) % 256) < 127 then (some ((⟨#[]⟩ : ByteArray), (-1))) else (if x6_2.length < 140737488355328 then (ambryref23_quoted.l0 kj29 a0 (x6_2 ++ [(wrap64 ((wrap64 (16 * t285)) + t286)) % 256]) (wrap64 ((wrap64 (x7_2 + 3)) + 1))) else (none))) else (if x6_2.length < 140737488355328 then (ambryref23_quoted.l0 kj29 a0 (x6_2 ++ [(wrap64 ((wrap64 (16 * t285)) + t286)) % 256]) (wrap64 ((wrap64 (x7_2 + 3)) + 1))) else (none)))) else (none)) else (none)) = some (r1, r2) := H
                  have A53 := Aside0.mk A530
                  clear A530
                  obtain ⟨ji54, hji54⟩ : ∃ j_ : Int, (wrap64 (x7_2 + 3)) = j_ := ⟨_, rfl⟩
                  replace H : (if 0 ≤ (ji54) then (if (ji54) < (a0.size : Int) then ((ambryref23_hex.f kj29 (bt a0 (ji54))).bind fun t286 => (if ((wrap64 ((wrap64 (16 * t285)) + t286)) % 256) ≥ 32 then (if ((wrap64 ((wrap64 (16 * t285)) + t286)) % 256) < 127 then (some ((⟨#[]⟩ : ByteArray), (-1))) else (if x6_2.length < 140737488355328 then (ambryref23_quoted.l0 kj29 a0 (x6_2 ++ [(wrap64 ((wrap64 (16 * t285)) + t286)) % 256]) (wrap64 ((ji54) + 1))) else (none))) else (if x6_2.length < 140737488355328 then (ambryref23_quoted.l0 kj29 a0 (x6_2 ++ [(wrap64 ((wrap64 (16 * t285)) + t286)) % 256]) (wrap64 ((ji54) + 1))) else (none)))) else (none)) else (none)) = some (r1, r2) := by first | (rw [hji54] at H; exact H) | (simp only [hji54] at H ⊢; exact H)
                  (try rw [hji54] at A53)
                  have hji54w : (IntKind.i64.wrap (x7_2 + 3)) = ji54 := (i64_w _).trans hji54
                  by_cases c55 : 0 ≤ (ji54)
                  ·
                   rw [if_pos c55] at H
                   have c55b0 : decide (0 ≤ (ji54)) = true := decide_eq_true c55
                   clear c55
                   by_cases c56 : (ji54) < (a0.size : Int)
                   ·
                    rw [if_pos c56] at H
                    have c56b0 : decide ((ji54) < (a0.size : Int)) = true := decide_eq_true c56
                    clear c56
                    replace H := Option.bind_eq_some_iff.mp H
                    obtain ⟨t286, A580, H⟩ := H
                    replace H : (if ((wrap64 ((wrap64 (16 * t285)) + t286)) % 256) ≥ 32 then (if ((wrap64 ((wrap64 (16 * t285)) + t286)) % 256) < 127 then (some ((⟨#[]⟩ : ByteArray), (-1))) else (if x6_2.length < 140737488355328 then (ambryref23_quoted.l0 kj29 a0 (x6_2 ++ [(wrap64 ((wrap64 (16 * t285)) + t286)) % 256]) (wrap64 ((ji54) + 1))) else (none))) else (if x6_2.length < 140737488355328 then (ambryref23_quoted.l0 kj29 a0 (x6_2 ++ [(wrap64 ((wrap64 (16 * t285)) + t286)) % 256]) (wrap64 ((ji54) + 1))) else (none))) = some (r1, r2) := H
                    have A58 := Aside0.mk A580
                    clear A580
                    by_cases c59 : ((wrap64 ((wrap64 (16 * t285)) + t286)) % 256) ≥ 32
                    ·
                     rw [if_pos c59] at H
                     have c59b0 : decide (32 ≤ ((wrap64 ((wrap64 (16 * t285)) + t286)) % 256)) = true := decide_eq_true c59
                     clear c59
                     by_cases c60 : ((wrap64 ((wrap64 (16 * t285)) + t286)) % 256) < 127
                     ·
                      rw [if_pos c60] at H
                      have c60b0 : decide (((wrap64 ((wrap64 (16 * t285)) + t286)) % 256) < 127) = true := decide_eq_true c60
                      clear c60
                      simp only [Option.some.injEq, Prod.mk.injEq] at H
                      obtain ⟨rfl, rfl⟩ := H
                      have p52 : 0 ≤ ((ji49) : Int) := of_decide_eq_true (by first | (with_reducible assumption) | assumption)
                      have q52 : (ji49) < (a0.size : Int) := of_decide_eq_true (by first | (with_reducible assumption) | assumption)
                      have hx52 := bt_at a0 (ji49)
                      replace p52 := eq_true p52
                      replace q52 := eq_true q52
                      go_wp2_with (first | (go_at_call 58; (with_reducible refine (ambryref23_hex.calls kj29 (bt a0 (ji49)) t285 _ A53.out).mono ?_); rintro e w' ⟨rfl, ⟨nd, rfl⟩⟩; (try first | exact ⟨rfl, _, World.drewN_drewN _ _ _⟩ | exact ⟨rfl, _, Eq.trans (World.drewN_drewN _ _ _) (congrArg (World.drewN _) (Nat.add_assoc _ _ _))⟩); have p57 : 0 ≤ ((ji54) : Int) := of_decide_eq_true (by first | (with_reducible assumption) | assumption); have q57 : (ji54) < (a0.size : Int) := of_decide_eq_true (by first | (with_reducible assumption) | assumption); have hx57 := bt_at a0 (ji54); replace p57 := eq_true p57; replace q57 := eq_true q57) | (go_at_call 58; (with_reducible refine (ambryref23_hex.calls kj29 (bt a0 (ji54)) t286 _ A58.out).mono ?_); rintro e w' ⟨rfl, ⟨nd, rfl⟩⟩; (try first | exact ⟨rfl, _, World.drewN_drewN _ _ _⟩ | exact ⟨rfl, _, Eq.trans (World.drewN_drewN _ _ _) (congrArg (World.drewN _) (Nat.add_assoc _ _ _))⟩)))
                      repeat (go_quiet (first | (go_at_call 58; (with_reducible refine (ambryref23_hex.calls kj29 (bt a0 (ji49)) t285 _ A53.out).mono ?_); rintro e w' ⟨rfl, ⟨nd, rfl⟩⟩; (try first | exact ⟨rfl, _, World.drewN_drewN _ _ _⟩ | exact ⟨rfl, _, Eq.trans (World.drewN_drewN _ _ _) (congrArg (World.drewN _) (Nat.add_assoc _ _ _))⟩); have p57 : 0 ≤ ((ji54) : Int) := of_decide_eq_true (by first | (with_reducible assumption) | assumption); have q57 : (ji54) < (a0.size : Int) := of_decide_eq_true (by first | (with_reducible assumption) | assumption); have hx57 := bt_at a0 (ji54); replace p57 := eq_true p57; replace q57 := eq_true q57) | (go_at_call 58; (with_reducible refine (ambryref23_hex.calls kj29 (bt a0 (ji54)) t286 _ A58.out).mono ?_); rintro e w' ⟨rfl, ⟨nd, rfl⟩⟩; (try first | exact ⟨rfl, _, World.drewN_drewN _ _ _⟩ | exact ⟨rfl, _, Eq.trans (World.drewN_drewN _ _ _) (congrArg (World.drewN _) (Nat.add_assoc _ _ _))⟩))); try go_wp2_with (first | (go_at_call 58; (with_reducible refine (ambryref23_hex.calls kj29 (bt a0 (ji49)) t285 _ A53.out).mono ?_); rintro e w' ⟨rfl, ⟨nd, rfl⟩⟩; (try first | exact ⟨rfl, _, World.drewN_drewN _ _ _⟩ | exact ⟨rfl, _, Eq.trans (World.drewN_drewN _ _ _) (congrArg (World.drewN _) (Nat.add_assoc _ _ _))⟩); have p57 : 0 ≤ ((ji54) : Int) := of_decide_eq_true (by first | (with_reducible assumption) | assumption); have q57 : (ji54) < (a0.size : Int) := of_decide_eq_true (by first | (with_reducible assumption) | assumption); have hx57 := bt_at a0 (ji54); replace p57 := eq_true p57; replace q57 := eq_true q57) | (go_at_call 58; (with_reducible refine (ambryref23_hex.calls kj29 (bt a0 (ji54)) t286 _ A58.out).mono ?_); rintro e w' ⟨rfl, ⟨nd, rfl⟩⟩; (try first | exact ⟨rfl, _, World.drewN_drewN _ _ _⟩ | exact ⟨rfl, _, Eq.trans (World.drewN_drewN _ _ _) (congrArg (World.drewN _) (Nat.add_assoc _ _ _))⟩))))
                      go_ret2
                      exact ⟨by first | rfl | (simp [errW_none, errW_some] <;> rfl) | (simp only [← hji49, ← hji54]; first | rfl | (simp [errW_none, errW_some] <;> rfl)) | (simp [*, errW_none, errW_some] <;> rfl), by repeat (first | (with_reducible first | exact HB.out | apply below_alloc | apply pw_below_drewN | apply below_drew1) | exact HB.out)⟩
                     ·
                      rw [if_neg c60] at H
                      have c60b0 : decide (((wrap64 ((wrap64 (16 * t285)) + t286)) % 256) < 127) = false := decide_eq_false c60
                      clear c60
                      by_cases c61 : x6_2.length < 140737488355328
                      ·
                       rw [if_pos c61] at H
                       have LMc61 := Aside0.mk c61
                       clear c61
                       obtain ⟨y287, hy287⟩ : ∃ y_ : List Int, y_ = (x6_2 ++ [(wrap64 ((wrap64 (16 * t285)) + t286)) % 256]) := ⟨_, rfl⟩
                       replace H : (ambryref23_quoted.l0 kj29 a0 y287 (wrap64 ((ji54) + 1))) = some (r1, r2) := by first | (rw [hy287]; with_reducible exact H) | (have H2_ := (Option.bind_some _ _).symm.trans H; rw [hy287]; with_reducible exact H2_) | (have H2_ := (Option.bind_some _ _).symm.trans H; with_reducible exact H2_) | with_reducible exact H | (rw [hy287]; exact H) | exact H
                       have Ny287 := Aside0.mk hy287
                       clear hy287
                       have H' := Aside0.mk H
                       clear H
                       have p52 : 0 ≤ ((ji49) : Int) := of_decide_eq_true (by first | (with_reducible assumption) | assumption)
                       have q52 : (ji49) < (a0.size : Int) := of_decide_eq_true (by first | (with_reducible assumption) | assumption)
                       have hx52 := bt_at a0 (ji49)
                       replace p52 := eq_true p52
                       replace q52 := eq_true q52
                       go_wp2_with (first | (go_at_call 58; (with_reducible refine (ambryref23_hex.calls kj29 (bt a0 (ji49)) t285 _ A53.out).mono ?_); rintro e w' ⟨rfl, ⟨nd, rfl⟩⟩; (try first | exact ⟨rfl, _, World.drewN_drewN _ _ _⟩ | exact ⟨rfl, _, Eq.trans (World.drewN_drewN _ _ _) (congrArg (World.drewN _) (Nat.add_assoc _ _ _))⟩); have p57 : 0 ≤ ((ji54) : Int) := of_decide_eq_true (by first | (with_reducible assumption) | assumption); have q57 : (ji54) < (a0.size : Int) := of_decide_eq_true (by first | (with_reducible assumption) | assumption); have hx57 := bt_at a0 (ji54); replace p57 := eq_true p57; replace q57 := eq_true q57) | (go_at_call 58; (with_reducible refine (ambryref23_hex.calls kj29 (bt a0 (ji54)) t286 _ A58.out).mono ?_); rintro e w' ⟨rfl, ⟨nd, rfl⟩⟩; (try first | exact ⟨rfl, _, World.drewN_drewN _ _ _⟩ | exact ⟨rfl, _, Eq.trans (World.drewN_drewN _ _ _) (congrArg (World.drewN _) (Nat.add_assoc _ _ _))⟩)) | ((with_reducible refine gate_builtin (b := .append) (xs := #[.tmp 125, .tmp 127]) rfl ?_); (try (refine gate_guard (by rfl) ?_; dsimp only)); at_builtin; refine Kd.R_append (Kd.int .u8) (w0 := w) w.heap.size rfl (.tmp 125) (.tmp 127) 60 5 (.int .u8 0) 1 rfl Tryd.underlying60 info5 rfl (by decide) (by omega) u6 x6_2 ((wrap64 ((wrap64 (16 * t285)) + t286)) % 256) [.int .u8 ((wrap64 ((wrap64 (16 * t285)) + t286)) % 256)] (fun _ => True) (fun _ => False) rfl rfl ?aP (fun _ hk => hk.elim) ?aF ?aO ?aB ?aS ?aL ?_; (case aP => exact rfl); (case aB => exact (by repeat (first | (with_reducible first | exact HB.out | apply below_alloc | apply pw_below_drewN | apply below_drew1) | exact HB.out))); (case aF => exact (fun _ _ => trivial)); (case aO => exact (by (with_reducible repeat (first | apply Kd.R_alloc | apply Kd.R_drewN | apply Kd.R_drew)); exact HO_6.out)); (case aS => exact (below_size (by repeat (first | (with_reducible first | exact HB.out | apply below_alloc | apply pw_below_drewN | apply below_drew1) | exact HB.out)))); (case aL => have := LMc61.out; omega); intro v288 w62 ho hb hg hat; rw [← Ny287.out] at ho; have n0_ := Aside0.mk (hb); have n1_ := Aside0.mk (ho); clear HB; clear HO_6; have HB := n0_; have HO289 := n1_; clear n0_ n1_; clear ho hb hg hat))
                       repeat (go_quiet (first | (go_at_call 58; (with_reducible refine (ambryref23_hex.calls kj29 (bt a0 (ji49)) t285 _ A53.out).mono ?_); rintro e w' ⟨rfl, ⟨nd, rfl⟩⟩; (try first | exact ⟨rfl, _, World.drewN_drewN _ _ _⟩ | exact ⟨rfl, _, Eq.trans (World.drewN_drewN _ _ _) (congrArg (World.drewN _) (Nat.add_assoc _ _ _))⟩); have p57 : 0 ≤ ((ji54) : Int) := of_decide_eq_true (by first | (with_reducible assumption) | assumption); have q57 : (ji54) < (a0.size : Int) := of_decide_eq_true (by first | (with_reducible assumption) | assumption); have hx57 := bt_at a0 (ji54); replace p57 := eq_true p57; replace q57 := eq_true q57) | (go_at_call 58; (with_reducible refine (ambryref23_hex.calls kj29 (bt a0 (ji54)) t286 _ A58.out).mono ?_); rintro e w' ⟨rfl, ⟨nd, rfl⟩⟩; (try first | exact ⟨rfl, _, World.drewN_drewN _ _ _⟩ | exact ⟨rfl, _, Eq.trans (World.drewN_drewN _ _ _) (congrArg (World.drewN _) (Nat.add_assoc _ _ _))⟩)) | ((with_reducible refine gate_builtin (b := .append) (xs := #[.tmp 125, .tmp 127]) rfl ?_); (try (refine gate_guard (by rfl) ?_; dsimp only)); at_builtin; refine Kd.R_append (Kd.int .u8) (w0 := w) w.heap.size rfl (.tmp 125) (.tmp 127) 60 5 (.int .u8 0) 1 rfl Tryd.underlying60 info5 rfl (by decide) (by omega) u6 x6_2 ((wrap64 ((wrap64 (16 * t285)) + t286)) % 256) [.int .u8 ((wrap64 ((wrap64 (16 * t285)) + t286)) % 256)] (fun _ => True) (fun _ => False) rfl rfl ?aP (fun _ hk => hk.elim) ?aF ?aO ?aB ?aS ?aL ?_; (case aP => exact rfl); (case aB => exact (by repeat (first | (with_reducible first | exact HB.out | apply below_alloc | apply pw_below_drewN | apply below_drew1) | exact HB.out))); (case aF => exact (fun _ _ => trivial)); (case aO => exact (by (with_reducible repeat (first | apply Kd.R_alloc | apply Kd.R_drewN | apply Kd.R_drew)); exact HO_6.out)); (case aS => exact (below_size (by repeat (first | (with_reducible first | exact HB.out | apply below_alloc | apply pw_below_drewN | apply below_drew1) | exact HB.out)))); (case aL => have := LMc61.out; omega); intro v288 w62 ho hb hg hat; rw [← Ny287.out] at ho; have n0_ := Aside0.mk (hb); have n1_ := Aside0.mk (ho); clear HB; clear HO_6; have HB := n0_; have HO289 := n1_; clear n0_ n1_; clear ho hb hg hat)); try go_wp2_with (first | (go_at_call 58; (with_reducible refine (ambryref23_hex.calls kj29 (bt a0 (ji49)) t285 _ A53.out).mono ?_); rintro e w' ⟨rfl, ⟨nd, rfl⟩⟩; (try first | exact ⟨rfl, _, World.drewN_drewN _ _ _⟩ | exact ⟨rfl, _, Eq.trans (World.drewN_drewN _ _ _) (congrArg (World.drewN _) (Nat.add_assoc _ _ _))⟩); have p57 : 0 ≤ ((ji54) : Int) := of_decide_eq_true (by first | (with_reducible assumption) | assumption); have q57 : (ji54) < (a0.size : Int) := of_decide_eq_true (by first | (with_reducible assumption) | assumption); have hx57 := bt_at a0 (ji54); replace p57 := eq_true p57; replace q57 := eq_true q57) | (go_at_call 58; (with_reducible refine (ambryref23_hex.calls kj29 (bt a0 (ji54)) t286 _ A58.out).mono ?_); rintro e w' ⟨rfl, ⟨nd, rfl⟩⟩; (try first | exact ⟨rfl, _, World.drewN_drewN _ _ _⟩ | exact ⟨rfl, _, Eq.trans (World.drewN_drewN _ _ _) (congrArg (World.drewN _) (Nat.add_assoc _ _ _))⟩)) | ((with_reducible refine gate_builtin (b := .append) (xs := #[.tmp 125, .tmp 127]) rfl ?_); (try (refine gate_guard (by rfl) ?_; dsimp only)); at_builtin; refine Kd.R_append (Kd.int .u8) (w0 := w) w.heap.size rfl (.tmp 125) (.tmp 127) 60 5 (.int .u8 0) 1 rfl Tryd.underlying60 info5 rfl (by decide) (by omega) u6 x6_2 ((wrap64 ((wrap64 (16 * t285)) + t286)) % 256) [.int .u8 ((wrap64 ((wrap64 (16 * t285)) + t286)) % 256)] (fun _ => True) (fun _ => False) rfl rfl ?aP (fun _ hk => hk.elim) ?aF ?aO ?aB ?aS ?aL ?_; (case aP => exact rfl); (case aB => exact (by repeat (first | (with_reducible first | exact HB.out | apply below_alloc | apply pw_below_drewN | apply below_drew1) | exact HB.out))); (case aF => exact (fun _ _ => trivial)); (case aO => exact (by (with_reducible repeat (first | apply Kd.R_alloc | apply Kd.R_drewN | apply Kd.R_drew)); exact HO_6.out)); (case aS => exact (below_size (by repeat (first | (with_reducible first | exact HB.out | apply below_alloc | apply pw_below_drewN | apply below_drew1) | exact HB.out)))); (case aL => have := LMc61.out; omega); intro v288 w62 ho hb hg hat; rw [← Ny287.out] at ho; have n0_ := Aside0.mk (hb); have n1_ := Aside0.mk (ho); clear HB; clear HO_6; have HB := n0_; have HO289 := n1_; clear n0_ n1_; clear ho hb hg hat)))
                       go_roundg kj29
                       case measure => have := HJ2.out; have := HK2.out; have := HJ13.out; have := HJ29.out; omega
                       case rel => exact ⟨(y287), (wrap64 ((ji54) + 1)), (by first | rfl | (simp; done) | (simp only [← hji54] <;> (first | rfl | simp)) | (simp [*]; done)), H', ⟨by have := HJ2.out; have := HK2.out; have := HJ13.out; have := HJ29.out; omega⟩, ⟨by (with_reducible repeat (first | apply Kd.R_alloc | apply Kd.R_drewN | apply Kd.R_drew)); exact HO289.out⟩, ⟨by repeat (first | (with_reducible first | exact HB.out | apply below_alloc | apply pw_below_drewN | apply below_drew1) | exact HB.out)⟩⟩
                      ·
                       rw [if_neg c61] at H
                       exact absurd H (by simp)
                    ·
                     rw [if_neg c59] at H
                     have c59b0 : decide (32 ≤ ((wrap64 ((wrap64 (16 * t285)) + t286)) % 256)) = false := decide_eq_false c59
                     clear c59
                     by_cases c63 : x6_2.length < 140737488355328
                     ·
                      rw [if_pos c63] at H
                      have LMc63 := Aside0.mk c63
                      clear c63
                      obtain ⟨y290, hy290⟩ : ∃ y_ : List Int, y_ = (x6_2 ++ [(wrap64 ((wrap64 (16 * t285)) + t286)) % 256]) := ⟨_, rfl⟩
                      replace H : (ambryref23_quoted.l0 kj29 a0 y290 (wrap64 ((ji54) + 1))) = some (r1, r2) := by first | (rw [hy290]; with_reducible exact H) | (have H2_ := (Option.bind_some _ _).symm.trans H; rw [hy290]; with_reducible exact H2_) | (have H2_ := (Option.bind_some _ _).symm.trans H; with_reducible exact H2_) | with_reducible exact H | (rw [hy290]; exact H) | exact H
                      have Ny290 := Aside0.mk hy290
                      clear hy290
                      have H' := Aside0.mk H
                      clear H
                      have p52 : 0 ≤ ((ji49) : Int) := of_decide_eq_true (by first | (with_reducible assumption) | assumption)
                      have q52 : (ji49) < (a0.size : Int) := of_decide_eq_true (by first | (with_reducible assumption) | assumption)
                      have hx52 := bt_at a0 (ji49)
                      replace p52 := eq_true p52
                      replace q52 := eq_true q52
                      go_wp2_with (first | (go_at_call 58; (with_reducible refine (ambryref23_hex.calls kj29 (bt a0 (ji49)) t285 _ A53.out).mono ?_); rintro e w' ⟨rfl, ⟨nd, rfl⟩⟩; (try first | exact ⟨rfl, _, World.drewN_drewN _ _ _⟩ | exact ⟨rfl, _, Eq.trans (World.drewN_drewN _ _ _) (congrArg (World.drewN _) (Nat.add_assoc _ _ _))⟩); have p57 : 0 ≤ ((ji54) : Int) := of_decide_eq_true (by first | (with_reducible assumption) | assumption); have q57 : (ji54) < (a0.size : Int) := of_decide_eq_true (by first | (with_reducible assumption) | assumption); have hx57 := bt_at a0 (ji54); replace p57 := eq_true p57; replace q57 := eq_true q57) | (go_at_call 58; (with_reducible refine (ambryref23_hex.calls kj29 (bt a0 (ji54)) t286 _ A58.out).mono ?_); rintro e w' ⟨rfl, ⟨nd, rfl⟩⟩; (try first | exact ⟨rfl, _, World.drewN_drewN _ _ _⟩ | exact ⟨rfl, _, Eq.trans (World.drewN_drewN _ _ _) (congrArg (World.drewN _) (Nat.add_assoc _ _ _))⟩)) | ((with_reducible refine gate_builtin (b := .append) (xs := #[.tmp 125, .tmp 127]) rfl ?_); (try (refine gate_guard (by rfl) ?_; dsimp only)); at_builtin; refine Kd.R_append (Kd.int .u8) (w0 := w) w.heap.size rfl (.tmp 125) (.tmp 127) 60 5 (.int .u8 0) 1 rfl Tryd.underlying60 info5 rfl (by decide) (by omega) u6 x6_2 ((wrap64 ((wrap64 (16 * t285)) + t286)) % 256) [.int .u8 ((wrap64 ((wrap64 (16 * t285)) + t286)) % 256)] (fun _ => True) (fun _ => False) rfl rfl ?aP (fun _ hk => hk.elim) ?aF ?aO ?aB ?aS ?aL ?_; (case aP => exact rfl); (case aB => exact (by repeat (first | (with_reducible first | exact HB.out | apply below_alloc | apply pw_below_drewN | apply below_drew1) | exact HB.out))); (case aF => exact (fun _ _ => trivial)); (case aO => exact (by (with_reducible repeat (first | apply Kd.R_alloc | apply Kd.R_drewN | apply Kd.R_drew)); exact HO_6.out)); (case aS => exact (below_size (by repeat (first | (with_reducible first | exact HB.out | apply below_alloc | apply pw_below_drewN | apply below_drew1) | exact HB.out)))); (case aL => have := LMc63.out; omega); intro v291 w64 ho hb hg hat; rw [← Ny290.out] at ho; have n0_ := Aside0.mk (hb); have n1_ := Aside0.mk (ho); clear HB; clear HO_6; have HB := n0_; have HO292 := n1_; clear n0_ n1_; clear ho hb hg hat))
                      repeat (go_quiet (first | (go_at_call 58; (with_reducible refine (ambryref23_hex.calls kj29 (bt a0 (ji49)) t285 _ A53.out).mono ?_); rintro e w' ⟨rfl, ⟨nd, rfl⟩⟩; (try first | exact ⟨rfl, _, World.drewN_drewN _ _ _⟩ | exact ⟨rfl, _, Eq.trans (World.drewN_drewN _ _ _) (congrArg (World.drewN _) (Nat.add_assoc _ _ _))⟩); have p57 : 0 ≤ ((ji54) : Int) := of_decide_eq_true (by first | (with_reducible assumption) | assumption); have q57 : (ji54) < (a0.size : Int) := of_decide_eq_true (by first | (with_reducible assumption) | assumption); have hx57 := bt_at a0 (ji54); replace p57 := eq_true p57; replace q57 := eq_true q57) | (go_at_call 58; (with_reducible refine (ambryref23_hex.calls kj29 (bt a0 (ji54)) t286 _ A58.out).mono ?_); rintro e w' ⟨rfl, ⟨nd, rfl⟩⟩; (try first | exact ⟨rfl, _, World.drewN_drewN _ _ _⟩ | exact ⟨rfl, _, Eq.trans (World.drewN_drewN _ _ _) (congrArg (World.drewN _) (Nat.add_assoc _ _ _))⟩)) | ((with_reducible refine gate_builtin (b := .append) (xs := #[.tmp 125, .tmp 127]) rfl ?_); (try (refine gate_guard (by rfl) ?_; dsimp only)); at_builtin; refine Kd.R_append (Kd.int .u8) (w0 := w) w.heap.size rfl (.tmp 125) (.tmp 127) 60 5 (.int .u8 0) 1 rfl Tryd.underlying60 info5 rfl (by decide) (by omega) u6 x6_2 ((wrap64 ((wrap64 (16 * t285)) + t286)) % 256) [.int .u8 ((wrap64 ((wrap64 (16 * t285)) + t286)) % 256)] (fun _ => True) (fun _ => False) rfl rfl ?aP (fun _ hk => hk.elim) ?aF ?aO ?aB ?aS ?aL ?_; (case aP => exact rfl); (case aB => exact (by repeat (first | (with_reducible first | exact HB.out | apply below_alloc | apply pw_below_drewN | apply below_drew1) | exact HB.out))); (case aF => exact (fun _ _ => trivial)); (case aO => exact (by (with_reducible repeat (first | apply Kd.R_alloc | apply Kd.R_drewN | apply Kd.R_drew)); exact HO_6.out)); (case aS => exact (below_size (by repeat (first | (with_reducible first | exact HB.out | apply below_alloc | apply pw_below_drewN | apply below_drew1) | exact HB.out)))); (case aL => have := LMc63.out; omega); intro v291 w64 ho hb hg hat; rw [← Ny290.out] at ho; have n0_ := Aside0.mk (hb); have n1_ := Aside0.mk (ho); clear HB; clear HO_6; have HB := n0_; have HO292 := n1_; clear n0_ n1_; clear ho hb hg hat)); try go_wp2_with (first | (go_at_call 58; (with_reducible refine (ambryref23_hex.calls kj29 (bt a0 (ji49)) t285 _ A53.out).mono ?_); rintro e w' ⟨rfl, ⟨nd, rfl⟩⟩; (try first | exact ⟨rfl, _, World.drewN_drewN _ _ _⟩ | exact ⟨rfl, _, Eq.trans (World.drewN_drewN _ _ _) (congrArg (World.drewN _) (Nat.add_assoc _ _ _))⟩); have p57 : 0 ≤ ((ji54) : Int) := of_decide_eq_true (by first | (with_reducible assumption) | assumption); have q57 : (ji54) < (a0.size : Int) := of_decide_eq_true (by first | (with_reducible assumption) | assumption); have hx57 := bt_at a0 (ji54); replace p57 := eq_true p57; replace q57 := eq_true q57) | (go_at_call 58; (with_reducible refine (ambryref23_hex.calls kj29 (bt a0 (ji54)) t286 _ A58.out).mono ?_); rintro e w' ⟨rfl, ⟨nd, rfl⟩⟩; (try first | exact ⟨rfl, _, World.drewN_drewN _ _ _⟩ | exact ⟨rfl, _, Eq.trans (World.drewN_drewN _ _ _) (congrArg (World.drewN _) (Nat.add_assoc _ _ _))⟩)) | ((with_reducible refine gate_builtin (b := .append) (xs := #[.tmp 125, .tmp 127]) rfl ?_); (try (refine gate_guard (by rfl) ?_; dsimp only)); at_builtin; refine Kd.R_append (Kd.int .u8) (w0 := w) w.heap.size rfl (.tmp 125) (.tmp 127) 60 5 (.int .u8 0) 1 rfl Tryd.underlying60 info5 rfl (by decide) (by omega) u6 x6_2 ((wrap64 ((wrap64 (16 * t285)) + t286)) % 256) [.int .u8 ((wrap64 ((wrap64 (16 * t285)) + t286)) % 256)] (fun _ => True) (fun _ => False) rfl rfl ?aP (fun _ hk => hk.elim) ?aF ?aO ?aB ?aS ?aL ?_; (case aP => exact rfl); (case aB => exact (by repeat (first | (with_reducible first | exact HB.out | apply below_alloc | apply pw_below_drewN | apply below_drew1) | exact HB.out))); (case aF => exact (fun _ _ => trivial)); (case aO => exact (by (with_reducible repeat (first | apply Kd.R_alloc | apply Kd.R_drewN | apply Kd.R_drew)); exact HO_6.out)); (case aS => exact (below_size (by repeat (first | (with_reducible first | exact HB.out | apply below_alloc | apply pw_below_drewN | apply below_drew1) | exact HB.out)))); (case aL => have := LMc63.out; omega); intro v291 w64 ho hb hg hat; rw [← Ny290.out] at ho; have n0_ := Aside0.mk (hb); have n1_ := Aside0.mk (ho); clear HB; clear HO_6; have HB := n0_; have HO292 := n1_; clear n0_ n1_; clear ho hb hg hat)))
                      go_roundg kj29
                      case measure => have := HJ2.out; have := HK2.out; have := HJ13.out; have := HJ29.out; omega
                      case rel => exact ⟨(y290), (wrap64 ((ji54) + 1)), (by first | rfl | (simp; done) | (simp only [← hji54] <;> (first | rfl | simp)) | (simp [*]; done)), H', ⟨by have := HJ2.out; have := HK2.out; have := HJ13.out; have := HJ29.out; omega⟩, ⟨by (with_reducible repeat (first | apply Kd.R_alloc | apply Kd.R_drewN | apply Kd.R_drew)); exact HO292.out⟩, ⟨by repeat (first | (with_reducible first | exact HB.out | apply below_alloc | apply pw_below_drewN | apply below_drew1) | exact HB.out)⟩⟩
                     ·
                      rw [if_neg c63] at H
                      exact absurd H (by simp)
                   ·
                    rw [if_neg c56] at H
                    exact absurd H (by simp)
                  ·
                   rw [if_neg c55] at H
                   exact absurd H (by simp)
                 ·
                  rw [if_neg c51] at H
                  exact absurd H (by simp)
                ·
                 rw [if_neg c50] at H
                 exact absurd H (by simp)
            ·
             rw [if_neg c29] at H
             have c29b0 : ((bt a0 x7_2) == 92) = false := beq_eq_false_iff_ne.mpr c29
             have c29b1 : ((bt a0 x7_2) != 92) = true := bne_iff_ne.mpr c29
             by_cases c65 : (bt a0 x7_2) < 32
             ·
              rw [if_pos c65] at H
              have c65b0 : decide ((bt a0 x7_2) < 32) = true := decide_eq_true c65
              clear c65
              simp only [Option.some.injEq, Prod.mk.injEq] at H
              obtain ⟨rfl, rfl⟩ := H
              go_wp2
              repeat (go_quiet (fail); try go_wp2)
              go_ret2
              exact ⟨by first | rfl | (simp [errW_none, errW_some] <;> rfl) | (simp [*, errW_none, errW_some] <;> rfl), by repeat (first | (with_reducible first | exact HB.out | apply below_alloc | apply pw_below_drewN | apply below_drew1) | exact HB.out)⟩
             ·
              rw [if_neg c65] at H
              have c65b0 : decide ((bt a0 x7_2) < 32) = false := decide_eq_false c65
              clear c65
              by_cases c66 : (bt a0 x7_2) ≥ 127
              ·
               rw [if_pos c66] at H
               have c66b0 : decide (127 ≤ (bt a0 x7_2)) = true := decide_eq_true c66
               clear c66
               simp only [Option.some.injEq, Prod.mk.injEq] at H
               obtain ⟨rfl, rfl⟩ := H
               go_wp2
               repeat (go_quiet (fail); try go_wp2)
               go_ret2
               exact ⟨by first | rfl | (simp [errW_none, errW_some] <;> rfl) | (simp [*, errW_none, errW_some] <;> rfl), by repeat (first | (with_reducible first | exact HB.out | apply below_alloc | apply pw_below_drewN | apply below_drew1) | exact HB.out)⟩
              ·
               rw [if_neg c66] at H
               have c66b0 : decide (127 ≤ (bt a0 x7_2)) = false := decide_eq_false c66
               clear c66
               by_cases c67 : x6_2.length < 140737488355328
               ·
                rw [if_pos c67] at H
                have LMc67 := Aside0.mk c67
                clear c67
                obtain ⟨y293, hy293⟩ : ∃ y_ : List Int, y_ = (x6_2 ++ [(bt a0 x7_2)]) := ⟨_, rfl⟩
                replace H : (ambryref23_quoted.l0 kj13 a0 y293 (wrap64 (x7_2 + 1))) = some (r1, r2) := by first | (rw [hy293]; with_reducible exact H) | (have H2_ := (Option.bind_some _ _).symm.trans H; rw [hy293]; with_reducible exact H2_) | (have H2_ := (Option.bind_some _ _).symm.trans H; with_reducible exact H2_) | with_reducible exact H | (rw [hy293]; exact H) | exact H
                have Ny293 := Aside0.mk hy293
                clear hy293
                have H' := Aside0.mk H
                clear H
                go_wp2_with (first | ((with_reducible refine gate_builtin (b := .append) (xs := #[.tmp 31, .tmp 33]) rfl ?_); (try (refine gate_guard (by rfl) ?_; dsimp only)); at_builtin; refine Kd.R_append (Kd.int .u8) (w0 := w) w.heap.size rfl (.tmp 31) (.tmp 33) 60 5 (.int .u8 0) 1 rfl Tryd.underlying60 info5 rfl (by decide) (by omega) u6 x6_2 (bt a0 x7_2) [.int .u8 (bt a0 x7_2)] (fun _ => True) (fun _ => False) rfl rfl ?aP (fun _ hk => hk.elim) ?aF ?aO ?aB ?aS ?aL ?_; (case aP => exact rfl); (case aB => exact (by repeat (first | (with_reducible first | exact HB.out | apply below_alloc | apply pw_below_drewN | apply below_drew1) | exact HB.out))); (case aF => exact (fun _ _ => trivial)); (case aO => exact (by (with_reducible repeat (first | apply Kd.R_alloc | apply Kd.R_drewN | apply Kd.R_drew)); exact HO_6.out)); (case aS => exact (below_size (by repeat (first | (with_reducible first | exact HB.out | apply below_alloc | apply pw_below_drewN | apply below_drew1) | exact HB.out)))); (case aL => have := LMc67.out; omega); intro v294 w68 ho hb hg hat; rw [← Ny293.out] at ho; have n0_ := Aside0.mk (hb); have n1_ := Aside0.mk (ho); clear HB; clear HO_6; have HB := n0_; have HO295 := n1_; clear n0_ n1_; clear ho hb hg hat))
                repeat (go_quiet (first | ((with_reducible refine gate_builtin (b := .append) (xs := #[.tmp 31, .tmp 33]) rfl ?_); (try (refine gate_guard (by rfl) ?_; dsimp only)); at_builtin; refine Kd.R_append (Kd.int .u8) (w0 := w) w.heap.size rfl (.tmp 31) (.tmp 33) 60 5 (.int .u8 0) 1 rfl Tryd.underlying60 info5 rfl (by decide) (by omega) u6 x6_2 (bt a0 x7_2) [.int .u8 (bt a0 x7_2)] (fun _ => True) (fun _ => False) rfl rfl ?aP (fun _ hk => hk.elim) ?aF ?aO ?aB ?aS ?aL ?_; (case aP => exact rfl); (case aB => exact (by repeat (first | (with_reducible first | exact HB.out | apply below_alloc | apply pw_below_drewN | apply below_drew1) | exact HB.out))); (case aF => exact (fun _ _ => trivial)); (case aO => exact (by (with_reducible repeat (first | apply Kd.R_alloc | apply Kd.R_drewN | apply Kd.R_drew)); exact HO_6.out)); (case aS => exact (below_size (by repeat (first | (with_reducible first | exact HB.out | apply below_alloc | apply pw_below_drewN | apply below_drew1) | exact HB.out)))); (case aL => have := LMc67.out; omega); intro v294 w68 ho hb hg hat; rw [← Ny293.out] at ho; have n0_ := Aside0.mk (hb); have n1_ := Aside0.mk (ho); clear HB; clear HO_6; have HB := n0_; have HO295 := n1_; clear n0_ n1_; clear ho hb hg hat)); try go_wp2_with (first | ((with_reducible refine gate_builtin (b := .append) (xs := #[.tmp 31, .tmp 33]) rfl ?_); (try (refine gate_guard (by rfl) ?_; dsimp only)); at_builtin; refine Kd.R_append (Kd.int .u8) (w0 := w) w.heap.size rfl (.tmp 31) (.tmp 33) 60 5 (.int .u8 0) 1 rfl Tryd.underlying60 info5 rfl (by decide) (by omega) u6 x6_2 (bt a0 x7_2) [.int .u8 (bt a0 x7_2)] (fun _ => True) (fun _ => False) rfl rfl ?aP (fun _ hk => hk.elim) ?aF ?aO ?aB ?aS ?aL ?_; (case aP => exact rfl); (case aB => exact (by repeat (first | (with_reducible first | exact HB.out | apply below_alloc | apply pw_below_drewN | apply below_drew1) | exact HB.out))); (case aF => exact (fun _ _ => trivial)); (case aO => exact (by (with_reducible repeat (first | apply Kd.R_alloc | apply Kd.R_drewN | apply Kd.R_drew)); exact HO_6.out)); (case aS => exact (below_size (by repeat (first | (with_reducible first | exact HB.out | apply below_alloc | apply pw_below_drewN | apply below_drew1) | exact HB.out)))); (case aL => have := LMc67.out; omega); intro v294 w68 ho hb hg hat; rw [← Ny293.out] at ho; have n0_ := Aside0.mk (hb); have n1_ := Aside0.mk (ho); clear HB; clear HO_6; have HB := n0_; have HO295 := n1_; clear n0_ n1_; clear ho hb hg hat)))
                go_roundg kj13
                case measure => have := HJ2.out; have := HK2.out; have := HJ13.out; omega
                case rel => exact ⟨(y293), (wrap64 (x7_2 + 1)), (by first | rfl | (simp; done) | (simp [*]; done)), H', ⟨by have := HJ2.out; have := HK2.out; have := HJ13.out; omega⟩, ⟨by (with_reducible repeat (first | apply Kd.R_alloc | apply Kd.R_drewN | apply Kd.R_drew)); exact HO295.out⟩, ⟨by repeat (first | (with_reducible first | exact HB.out | apply below_alloc | apply pw_below_drewN | apply below_drew1) | exact HB.out)⟩⟩
               ·
                rw [if_neg c67] at H
                exact absurd H (by simp)
       ·
        rw [if_neg c10] at H
        exact absurd H (by simp)
      ·
       rw [if_neg c9] at H
       have c9b0 : decide (x7_2 < (a0.size : Int)) = false := decide_eq_false c9
       clear c9
       simp only [Option.some.injEq, Prod.mk.injEq] at H
       obtain ⟨rfl, rfl⟩ := H
       go_wp2
       repeat (go_quiet (fail); try go_wp2)
       go_ret2
       exact ⟨by first | rfl | (simp [errW_none, errW_some] <;> rfl) | (simp [*, errW_none, errW_some] <;> rfl), by repeat (first | (with_reducible first | exact HB.out | apply below_alloc | apply pw_below_drewN | apply below_drew1) | exact HB.out)⟩

end Go.Proofs.YtcdbnphhoihldaaDoor.X
