/- Words and walks, joined by a program. -/
import Derived.Test.YtcdbnphhoihldaaDoorG22
import Derived.Test.YtcdbnphhoihldaaDoorG30
import Derived.Test.YtcdbnphhoihldaaDoorG27
import Derived.Test.YtcdbnphhoihldaaDoorG29
import Derived.Test.YtcdbnphhoihldaaDoorCards
import Derived.ProofKit
import Derived.ChangeOld
import Derived.SizedLaws
import Derived.Stop.Joined
-- printed by a program (xp.py, over the kit's print); Lean checks it
namespace Go.Proofs.YtcdbnphhoihldaaDoor.X
open Go.RowKit Go.Proofs.YtcdbnphhoihldaaDoorW.PrintWords Go.Proofs.YtcdbnphhoihldaaDoorW.PrintLast Go.Proofs.YtcdbnphhoihldaaDoorW.PrintMore
attribute [local go_sem] max2_int min2_int max_two min_two max_three min_three max_four min_four   -- for this text's walks alone
set_option linter.unusedVariables false
set_option linter.unusedSimpArgs false

/-! ### ambryref23_Unquote: function 17 -/
def ambryref23_Unquote.f (k : Nat) (a0 : ByteArray) : Option (ByteArray × Bool) := (ambryref23_quoted.f k a0 0).bind fun bt296 => (if bt296.2 = (a0.size : Int) then (some (bt296.1, true)) else (some ((⟨#[]⟩ : ByteArray), false)))
theorem ambryref23_Unquote.mono : ∀ a0 k, LeO (ambryref23_Unquote.f k a0) (ambryref23_Unquote.f (k + 1) a0) := by
  intro a0 k
  unfold ambryref23_Unquote.f
  repeat' first
      | (with_reducible exact ambryref23_quoted.mono _ _ _)
      | (with_reducible exact LeO.refl _)
      | (with_reducible exact LeO.none _)
      | (with_reducible refine LeO.ite ?_ ?_)
      | (with_reducible refine LeO.bind ?_ (fun _ => ?_))
      | exact ambryref23_quoted.mono _ _ _
      | exact LeO.none _
      | refine LeO.ite ?_ ?_
      | refine LeO.bind ?_ (fun _ => ?_)
set_option maxHeartbeats 8000000 in
set_option maxRecDepth 100000 in
theorem ambryref23_Unquote.calls (k : Nat) (a0 : ByteArray) (r1 : ByteArray) (r2 : Bool) (w : World) (h : ambryref23_Unquote.f k a0 = some (r1, r2)) :
    Calls Tryd.prog 17 #[.string a0] w fun e w' => e = .returned (.tuple #[.string r1, .bool r2]) ∧ Below w.heap.size w w' := by
  have HB := Aside0.mk (Below.refl w.heap.size w)
  have H : ((ambryref23_quoted.f k a0 0).bind fun bt296 => (if bt296.2 = (a0.size : Int) then (some (bt296.1, true)) else (some ((⟨#[]⟩ : ByteArray), false)))) = some (r1, r2) := h
  clear h
  replace H := Option.bind_eq_some_iff.mp H
  obtain ⟨⟨t296, t297⟩, A20, H⟩ := H
  replace H : (if t297 = (a0.size : Int) then (some (t296, true)) else (some ((⟨#[]⟩ : ByteArray), false))) = some (r1, r2) := H
  have A2 := Aside0.mk A20
  clear A20
  by_cases c3 : t297 = (a0.size : Int)
  · rw [if_pos c3] at H
    have c3b0 : (t297 == (a0.size : Int)) = true := beq_iff_eq.mpr c3
    have c3b1 : (t297 != (a0.size : Int)) = false := bne_eq_false_iff_eq.mpr c3
    clear c3
    simp only [Option.some.injEq, Prod.mk.injEq] at H
    obtain ⟨rfl, rfl⟩ := H
    go_enter Tryd.func17, Tryd.ntmps17
    go_wp2_with (first | ((with_reducible refine gate_callee (f := 35) rfl ?_); refine goesL_ (some 8) rfl rfl Tryd.func35 (by kernel_rfl) rfl #[.string a0, .int .i64 0] rfl (by (try simp only [List.map_toArray, List.map_cons, List.map_nil]); first | done | rfl | (simp only [List.length_drop, List.length_take]; rfl)) ?_; (with_reducible refine (ambryref23_quoted.calls k a0 0 t296 t297 _ A2.out).mono ?_); rintro e w4 ⟨rfl, hb⟩; refine ⟨_, rfl, ?_⟩; have n0_ := Aside0.mk (below_step (by repeat (first | (with_reducible first | exact HB.out | apply below_alloc | apply pw_below_drewN | apply below_drew1) | exact HB.out)) hb); clear HB; have HB := n0_; clear n0_; (try clear hb); (try clear hb2); (try clear hk); (try clear hi)))
    go_ret2
    exact ⟨by first | rfl | (simp [errW_none, errW_some] <;> rfl) | (simp [*, errW_none, errW_some] <;> rfl), by repeat (first | (with_reducible first | exact HB.out | apply below_alloc | apply pw_below_drewN | apply below_drew1) | exact HB.out)⟩
  · rw [if_neg c3] at H
    have c3b0 : (t297 == (a0.size : Int)) = false := beq_eq_false_iff_ne.mpr c3
    have c3b1 : (t297 != (a0.size : Int)) = true := bne_iff_ne.mpr c3
    simp only [Option.some.injEq, Prod.mk.injEq] at H
    obtain ⟨rfl, rfl⟩ := H
    go_enter Tryd.func17, Tryd.ntmps17
    go_wp2_with (first | ((with_reducible refine gate_callee (f := 35) rfl ?_); refine goesL_ (some 8) rfl rfl Tryd.func35 (by kernel_rfl) rfl #[.string a0, .int .i64 0] rfl (by (try simp only [List.map_toArray, List.map_cons, List.map_nil]); first | done | rfl | (simp only [List.length_drop, List.length_take]; rfl)) ?_; (with_reducible refine (ambryref23_quoted.calls k a0 0 t296 t297 _ A2.out).mono ?_); rintro e w5 ⟨rfl, hb⟩; refine ⟨_, rfl, ?_⟩; have n0_ := Aside0.mk (below_step (by repeat (first | (with_reducible first | exact HB.out | apply below_alloc | apply pw_below_drewN | apply below_drew1) | exact HB.out)) hb); clear HB; have HB := n0_; clear n0_; (try clear hb); (try clear hb2); (try clear hk); (try clear hi)))
    go_ret2
    exact ⟨by first | rfl | (simp [errW_none, errW_some] <;> rfl) | (simp [*, errW_none, errW_some] <;> rfl), by repeat (first | (with_reducible first | exact HB.out | apply below_alloc | apply pw_below_drewN | apply below_drew1) | exact HB.out)⟩

end Go.Proofs.YtcdbnphhoihldaaDoor.X
-- printed by a program (xp.py, over the kit's print); Lean checks it
namespace Go.Proofs.YtcdbnphhoihldaaDoor.X
open Go.RowKit Go.Proofs.YtcdbnphhoihldaaDoorW.PrintWords Go.Proofs.YtcdbnphhoihldaaDoorW.PrintLast Go.Proofs.YtcdbnphhoihldaaDoorW.PrintMore
attribute [local go_sem] max2_int min2_int max_two min_two max_three min_three max_four min_four   -- for this text's walks alone
set_option linter.unusedVariables false
set_option linter.unusedSimpArgs false

/-! ### ambryref23_Quote: function 18 -/
mutual
def ambryref23_Quote.l0 : Nat → ByteArray → List Int → Int → Option (ByteArray)
 | 0, _, _, _ => none
 | k + 1, x0, x3, x4 => if x4 < (x0.size : Int) then (if 0 ≤ x4 then (if (bt x0 x4) = 34 then (ambryref23_Quote.j1 k x0 x3 x4 (bt x0 x4) true) else (ambryref23_Quote.j1 k x0 x3 x4 (bt x0 x4) ((bt x0 x4) == 92))) else (none)) else (if x3.length < 140737488355328 then (some (strOfNums (x3 ++ [34]))) else (none))
def ambryref23_Quote.j1 : Nat → ByteArray → List Int → Int → Int → Bool → Option (ByteArray)
 | 0, _, _, _, _, _ => none
 | k + 1, x0, x3, x4, x5, x20 => if x20 = true then ((some (([92, x5] : List Int) : List Int)).bind fun y259 => (if x3.length + y259.length < 140737488355328 then (ambryref23_Quote.l0 k x0 (x3 ++ y259) (wrap64 (x4 + 1))) else (none))) else (if x5 < 32 then (if 0 ≤ (x5 / 16) then (if (x5 / 16) < 16 then (if 0 ≤ (Go.bits .and .u8 x5 15) then (if (Go.bits .and .u8 x5 15) < 16 then ((some (([92, 120, bt (⟨#[48, 49, 50, 51, 52, 53, 54, 55, 56, 57, 97, 98, 99, 100, 101, 102]⟩ : ByteArray) (x5 / 16), bt (⟨#[48, 49, 50, 51, 52, 53, 54, 55, 56, 57, 97, 98, 99, 100, 101, 102]⟩ : ByteArray) (Go.bits .and .u8 x5 15)] : List Int) : List Int)).bind fun y265 => (if x3.length + y265.length < 140737488355328 then (ambryref23_Quote.l0 k x0 (x3 ++ y265) (wrap64 (x4 + 1))) else (none))) else (none)) else (none)) else (none)) else (none)) else (if x5 ≥ 127 then (if 0 ≤ (x5 / 16) then (if (x5 / 16) < 16 then (if 0 ≤ (Go.bits .and .u8 x5 15) then (if (Go.bits .and .u8 x5 15) < 16 then ((some (([92, 120, bt (⟨#[48, 49, 50, 51, 52, 53, 54, 55, 56, 57, 97, 98, 99, 100, 101, 102]⟩ : ByteArray) (x5 / 16), bt (⟨#[48, 49, 50, 51, 52, 53, 54, 55, 56, 57, 97, 98, 99, 100, 101, 102]⟩ : ByteArray) (Go.bits .and .u8 x5 15)] : List Int) : List Int)).bind fun y271 => (if x3.length + y271.length < 140737488355328 then (ambryref23_Quote.l0 k x0 (x3 ++ y271) (wrap64 (x4 + 1))) else (none))) else (none)) else (none)) else (none)) else (none)) else (if x3.length < 140737488355328 then (ambryref23_Quote.l0 k x0 (x3 ++ [x5]) (wrap64 (x4 + 1))) else (none))))
end
def ambryref23_Quote.f (k : Nat) (a0 : ByteArray) : Option (ByteArray) := ambryref23_Quote.l0 k a0 (([34] : List Int)) 0
theorem ambryref23_Quote.mono_l : ∀ k, (∀ y0 y1 y2, LeO (ambryref23_Quote.l0 k y0 y1 y2) (ambryref23_Quote.l0 (k + 1) y0 y1 y2)) ∧ (∀ y0 y1 y2 y3 y4, LeO (ambryref23_Quote.j1 k y0 y1 y2 y3 y4) (ambryref23_Quote.j1 (k + 1) y0 y1 y2 y3 y4))
 | 0 => ⟨fun _ _ _ r h => by simp [ambryref23_Quote.l0] at h, fun _ _ _ _ _ r h => by simp [ambryref23_Quote.j1] at h⟩
 | k + 1 => by
  obtain ⟨ih0, ih1⟩ := ambryref23_Quote.mono_l k
  refine ⟨?_, ?_⟩
  ·
   intro y0 y1 y2
   unfold ambryref23_Quote.l0
   repeat' first
   | (with_reducible exact ih0 _ _ _)
   | (with_reducible exact ih1 _ _ _ _ _)
   | (with_reducible exact LeO.refl _)
   | (with_reducible exact LeO.none _)
   | (with_reducible refine LeO.ite ?_ ?_)
   | (with_reducible refine LeO.bind ?_ (fun _ => ?_))
   | exact ih0 _ _ _
   | exact ih1 _ _ _ _ _
   | exact LeO.none _
   | refine LeO.ite ?_ ?_
   | refine LeO.bind ?_ (fun _ => ?_)
  ·
   intro y0 y1 y2 y3 y4
   unfold ambryref23_Quote.j1
   repeat' first
   | (with_reducible exact ih0 _ _ _)
   | (with_reducible exact ih1 _ _ _ _ _)
   | (with_reducible exact LeO.refl _)
   | (with_reducible exact LeO.none _)
   | (with_reducible refine LeO.ite ?_ ?_)
   | (with_reducible refine LeO.bind ?_ (fun _ => ?_))
   | exact ih0 _ _ _
   | exact ih1 _ _ _ _ _
   | exact LeO.none _
   | refine LeO.ite ?_ ?_
   | refine LeO.bind ?_ (fun _ => ?_)
theorem ambryref23_Quote.mono : ∀ a0 k, LeO (ambryref23_Quote.f k a0) (ambryref23_Quote.f (k + 1) a0) := by
 intro a0 k
 obtain ⟨ih0, ih1⟩ := ambryref23_Quote.mono_l k
 unfold ambryref23_Quote.f
 repeat' first
   | (with_reducible exact ih0 _ _ _)
   | (with_reducible exact ih1 _ _ _ _ _)
   | (with_reducible exact LeO.refl _)
   | (with_reducible exact LeO.none _)
   | (with_reducible refine LeO.ite ?_ ?_)
   | (with_reducible refine LeO.bind ?_ (fun _ => ?_))
   | exact ih0 _ _ _
   | exact ih1 _ _ _ _ _
   | exact LeO.none _
   | refine LeO.ite ?_ ?_
   | refine LeO.bind ?_ (fun _ => ?_)
def ambryref23_Quote.T10 : Bool × List (List Nat × List Nat) := (true, [([], []), ([], []), ([1], [1]), ([2], [2]), ([], []), ([4], [4]), ([5], [5]), ([3, 6], [3, 6]), ([0, 7], [0, 7]), ([8, 8, 0, 1, 2, 3, 4, 5, 6, 7, 8], [0, 8])])
def ambryref23_Quote.B10 : List Nat := [0, 0, 2, 6, 0, 16, 48, 126, 255, 511]
theorem ambryref23_Quote.tab10 : rtab .any (opsOf Tryd.f18 10) = ambryref23_Quote.T10 := by kernel_rfl
theorem ambryref23_Quote.bits10 : waitsOk ambryref23_Quote.T10.2 ambryref23_Quote.B10 = true := by kernel_rfl
set_option maxHeartbeats 8000000 in
set_option maxRecDepth 100000 in
theorem ambryref23_Quote.calls (k : Nat) (a0 : ByteArray) (r : ByteArray) (w : World) (h : ambryref23_Quote.f k a0 = some r) :
  Calls Tryd.prog 18 #[.string a0] w fun e w' => e = .returned (.string r) ∧ Below w.heap.size w w' := by
 have HB := Aside0.mk (Below.refl w.heap.size w)
 have H : (ambryref23_Quote.l0 k a0 (([34] : List Int)) 0) = some r := h
 clear h
 obtain ⟨y253, hy253⟩ : ∃ y_ : List Int, y_ = (([34] : List Int)) := ⟨_, rfl⟩
 replace H : (ambryref23_Quote.l0 k a0 y253 0) = some r := by first | (rw [hy253]; with_reducible exact H) | (have H2_ := (Option.bind_some _ _).symm.trans H; rw [hy253]; with_reducible exact H2_) | (have H2_ := (Option.bind_some _ _).symm.trans H; with_reducible exact H2_) | with_reducible exact H | (rw [hy253]; exact H) | exact H
 have Ny253 := Aside0.mk hy253
 clear hy253
 have H' := Aside0.mk H
 clear H
 go_enter Tryd.func18, Tryd.ntmps18
 go_wp2_with (first | ((with_reducible refine gate_dst (N := 6) rfl ?_); refine Kd.R_lit (Kd.int .u8) _ 5 ?hg (N := 6) ?hd (xs := ([34] : List Int)) (inner := [.int .u8 34]) (ok := fun _ => True) (okp := fun _ => True) ?hr ?hp (fun _ hk => hk) trivial (Below.refl _ _) (Nat.le_refl _) (by simp) ?_; (case hd => rfl); (case hg => rfl); (case hr => first | (go_simp; done) | (go_simp; rfl)); (case hp => exact (Reps.one (show Kd.M (Kd.int .u8) _ _ _ 34 [.int .u8 34] from rfl) (Reps.none _ _))); intro v254 w2 ho3 hb hg_ hnew_; clear hg_ hnew_; (first | rw [← Ny253.out] at ho3 | (simp only [Int.reduceToNat] at ho3; rw [← Ny253.out] at ho3)); have n0_ := Aside0.mk (Kd.R_lower ho3 (below_size (by repeat (first | (with_reducible first | exact HB.out | apply below_alloc | apply pw_below_drewN | apply below_drew1) | exact HB.out)))); have n1_ := Aside0.mk (below_step (by repeat (first | (with_reducible first | exact HB.out | apply below_alloc | apply pw_below_drewN | apply below_drew1) | exact HB.out)) hb); clear HB; have HO255 := n0_; have HB := n1_; clear n0_ n1_; clear hb ho3))
 go_loopg [3, 4] k (fun kq v3 v4 w' => ∃ (x3_1 : List Int) (x4_1 : Int), v4 = .int .i64 x4_1 ∧ Aside0 (ambryref23_Quote.l0 kq a0 x3_1 x4_1 = some r) ∧ Aside0 (kq ≤ k) ∧ Aside0 (Kd.R (Kd.int .u8) 5 w' w.heap.size (fun _ => True) v3 x3_1) ∧ Aside0 (Below w.heap.size w w'))
 case atStart => exact ⟨(y253), (0), (by first | rfl | (simp; done) | (simp [*]; done)), H', ⟨Nat.le_refl _⟩, ⟨by (with_reducible repeat (first | apply Kd.R_alloc | apply Kd.R_drewN | apply Kd.R_drew)); exact HO255.out⟩, ⟨by repeat (first | (with_reducible first | exact HB.out | apply below_alloc | apply pw_below_drewN | apply below_drew1) | exact HB.out)⟩⟩
 case round => as_aux_lemma =>
  clear H'
  try clear c1
  try clear p2
  obtain ⟨x3_1, x4_1, rfl, HA, HK1, HO_3, HB⟩ := hrel
  cases gk with
  | zero => exact absurd HA.out (by simp [ambryref23_Quote.l0])
  | succ k1 =>
   have H := HA.out
   clear HA
   simp only [ambryref23_Quote.l0] at H
   by_cases c4 : x4_1 < (a0.size : Int)
   ·
    rw [if_pos c4] at H
    have c4b0 : decide (x4_1 < (a0.size : Int)) = true := decide_eq_true c4
    clear c4
    by_cases c5 : 0 ≤ x4_1
    ·
     rw [if_pos c5] at H
     have c5b0 : decide (0 ≤ x4_1) = true := decide_eq_true c5
     clear c5
     have HC7 := Aside0.mk H
     clear H
     have p6 : 0 ≤ (x4_1 : Int) := of_decide_eq_true (by first | (with_reducible assumption) | assumption)
     have q6 : x4_1 < (a0.size : Int) := of_decide_eq_true (by first | (with_reducible assumption) | assumption)
     have hx6 := bt_at a0 x4_1
     replace p6 := eq_true p6
     replace q6 := eq_true q6
     go_upto_region 7 with (fail)
     go_cut [20] (fun v20 wc => ∃ (kq : Nat) (x20_6 : Bool), v20 = .bool x20_6 ∧ Aside0 (ambryref23_Quote.j1 kq a0 x3_1 x4_1 (bt a0 x4_1) x20_6 = some r) ∧ Aside0 (kq ≤ k1) ∧ Aside0 (Kd.R (Kd.int .u8) 5 wc w.heap.size (fun _ => True) u3 x3_1) ∧ Aside0 (Below w.heap.size w wc))
     case first => as_aux_lemma =>
      have H := HC7.out
      clear HC7
      by_cases c8 : (bt a0 x4_1) = 34
      ·
       rw [if_pos c8] at H
       have c8b0 : ((bt a0 x4_1) == 34) = true := beq_iff_eq.mpr c8
       have c8b1 : ((bt a0 x4_1) != 34) = false := bne_eq_false_iff_eq.mpr c8
       clear c8
       (first | rw [c8b0] | (simp only [i64_w, i32_w]; rw [c8b0]) | skip)
       have H' := Aside0.mk H
       clear H
       go_wp2
       go_meet
       case rel => exact ⟨_, (true), (by first | rfl | (simp; done) | (simp [*]; done)), H', ⟨by have := HK1.out; first | omega | exact Nat.le_refl _⟩, ⟨by (with_reducible repeat (first | apply Kd.R_alloc | apply Kd.R_drewN | apply Kd.R_drew)); exact HO_3.out⟩, ⟨by repeat (first | (with_reducible first | exact HB.out | apply below_alloc | apply pw_below_drewN | apply below_drew1) | exact HB.out)⟩⟩
      ·
       rw [if_neg c8] at H
       have c8b0 : ((bt a0 x4_1) == 34) = false := beq_eq_false_iff_ne.mpr c8
       have c8b1 : ((bt a0 x4_1) != 34) = true := bne_iff_ne.mpr c8
       (first | rw [c8b0] | (simp only [i64_w, i32_w]; rw [c8b0]) | skip)
       have H' := Aside0.mk H
       clear H
       go_wp2
       go_meet
       case rel => exact ⟨_, (((bt a0 x4_1) == 92)), (by first | rfl | (simp; done) | (simp [*]; done)), H', ⟨by have := HK1.out; first | omega | exact Nat.le_refl _⟩, ⟨by (with_reducible repeat (first | apply Kd.R_alloc | apply Kd.R_drewN | apply Kd.R_drew)); exact HO_3.out⟩, ⟨by repeat (first | (with_reducible first | exact HB.out | apply below_alloc | apply pw_below_drewN | apply below_drew1) | exact HB.out)⟩⟩
     case rest => as_aux_lemma =>
      clear HC7
      try clear c1
      try clear p2
      try clear c4
      try clear c4b0
      try clear c5
      try clear c5b0
      try clear p6
      try clear q6
      try clear hx6
      try clear c8
      try clear c8b0
      try clear c8b1
      try clear p2
      try clear p6
      try clear q6
      obtain ⟨kq, x20_6, rfl, HA, HJ6, HO_3, HB⟩ := hcut
      cases kq with
      | zero => exact absurd HA.out (by simp [ambryref23_Quote.j1])
      | succ kj6 =>
       have H := HA.out
       clear HA
       simp only [ambryref23_Quote.j1] at H
       by_cases c9 : x20_6 = true
       ·
        subst c9
        have H1 : ((some (([92, (bt a0 x4_1)] : List Int) : List Int)).bind fun y259 => (if x3_1.length + y259.length < 140737488355328 then (ambryref23_Quote.l0 kj6 a0 (x3_1 ++ y259) (wrap64 (x4_1 + 1))) else (none))) = some r := by rw [if_pos rfl] at H; exact H
        clear H
        have H := H1
        clear H1
        obtain ⟨y259, hy259⟩ : ∃ y_ : List Int, y_ = (([92, (bt a0 x4_1)] : List Int)) := ⟨_, rfl⟩
        replace H : (if x3_1.length + y259.length < 140737488355328 then (ambryref23_Quote.l0 kj6 a0 (x3_1 ++ y259) (wrap64 (x4_1 + 1))) else (none)) = some r := by first | (rw [hy259]; with_reducible exact H) | (have H2_ := (Option.bind_some _ _).symm.trans H; rw [hy259]; with_reducible exact H2_) | (have H2_ := (Option.bind_some _ _).symm.trans H; with_reducible exact H2_) | with_reducible exact H | (rw [hy259]; exact H) | exact H
        have Ny259 := Aside0.mk hy259
        clear hy259
        by_cases c10 : x3_1.length + y259.length < 140737488355328
        ·
         rw [if_pos c10] at H
         have LMc10 := Aside0.mk c10
         clear c10
         obtain ⟨y262, hy262⟩ : ∃ y_ : List Int, y_ = (x3_1 ++ y259) := ⟨_, rfl⟩
         replace H : (ambryref23_Quote.l0 kj6 a0 y262 (wrap64 (x4_1 + 1))) = some r := by first | (rw [hy262]; with_reducible exact H) | (have H2_ := (Option.bind_some _ _).symm.trans H; rw [hy262]; with_reducible exact H2_) | (have H2_ := (Option.bind_some _ _).symm.trans H; with_reducible exact H2_) | with_reducible exact H | (rw [hy262]; exact H) | exact H
         have Ny262 := Aside0.mk hy262
         clear hy262
         have H' := Aside0.mk H
         clear H
         go_wp2_with (first | ((with_reducible refine gate_dst (N := 29) rfl ?_); refine Kd.R_lit (Kd.int .u8) _ 5 ?hg (N := 29) ?hd (xs := ([92, (bt a0 x4_1)] : List Int)) (inner := [.int .u8 92, .int .u8 (bt a0 x4_1)]) (ok := fun _ => True) (okp := fun _ => True) ?hr ?hp (fun _ hk => hk) trivial (Below.refl _ _) (Nat.le_refl _) (by simp) ?_; (case hd => rfl); (case hg => rfl); (case hr => first | (go_simp; done) | (go_simp; rfl)); (case hp => exact (Reps.one (show Kd.M (Kd.int .u8) _ _ _ 92 [.int .u8 92] from rfl) (Reps.one (show Kd.M (Kd.int .u8) _ _ _ (bt a0 x4_1) [.int .u8 (bt a0 x4_1)] from rfl) (Reps.none _ _)))); intro v260 w11 ho12 hb hg_ hnew_; clear hg_ hnew_; (first | rw [← Ny259.out] at ho12 | (simp only [Int.reduceToNat] at ho12; rw [← Ny259.out] at ho12)); have n0_ := Aside0.mk (Kd.R_elder' (by (with_reducible repeat (first | apply Kd.R_alloc | apply Kd.R_drewN | apply Kd.R_drew)); exact HO_3.out) (Kd.R_base ho12) hb); have n1_ := Aside0.mk (Kd.R_lower (Kd.R_new' ho12 (Kd.R_lt (by (with_reducible repeat (first | apply Kd.R_alloc | apply Kd.R_drewN | apply Kd.R_drew)); exact HO_3.out))) (below_size (by repeat (first | (with_reducible first | exact HB.out | apply below_alloc | apply pw_below_drewN | apply below_drew1) | exact HB.out)))); have n2_ := Aside0.mk (below_step (by repeat (first | (with_reducible first | exact HB.out | apply below_alloc | apply pw_below_drewN | apply below_drew1) | exact HB.out)) hb); clear HO_3; clear HB; have HO_3 := n0_; have HO261 := n1_; have HB := n2_; clear n0_ n1_ n2_; clear hb ho12; obtain ⟨Ao14, co14, eo14⟩ := Kd.R_slice HO261.out; subst eo14) | ((with_reducible refine gate_builtin (b := .append) (xs := #[.tmp 27, .tmp 29]) rfl ?_); at_builtin; refine Kd.R_append_rows (Kd.int .u8) (w0 := w) w.heap.size rfl (.tmp 27) (.tmp 29) 60 5 (.int .u8 0) 1 rfl Tryd.underlying60 info5 rfl (by decide) (by omega) u3 x3_1 y259 _ _ _ (fun k_ => some k_ ≠ (.slice Ao14 y259.length co14 : Value).ownBlock) (fun _ => False) rfl rfl ?aO ?aR (fun _ _ h => h) (fun _ h => h.elim) ?aF ?aB ?aS ?aL ?_; (case aR => repeat (first | exact (Kd.R_reads' HO261.out).2.2 | (with_reducible refine Kd.C_alloc ?_ _) | (with_reducible refine Kd.C_drewN ?_ _) | (with_reducible refine Kd.C_drew ?_))); (case aB => exact (by repeat (first | (with_reducible first | exact HB.out | apply below_alloc | apply pw_below_drewN | apply below_drew1) | exact HB.out))); (case aF => exact (fun k_ hk => Kd.fresh' (Kd.R_lt (by (with_reducible repeat (first | apply Kd.R_alloc | apply Kd.R_drewN | apply Kd.R_drew)); exact HO261.out)) k_ hk)); (case aO => exact (by (with_reducible repeat (first | apply Kd.R_alloc | apply Kd.R_drewN | apply Kd.R_drew)); exact Kd.R_mono HO_3.out (fun _ hk => hk.2))); (case aS => exact (below_size (by repeat (first | (with_reducible first | exact HB.out | apply below_alloc | apply pw_below_drewN | apply below_drew1) | exact HB.out)))); (case aL => have := LMc10.out; omega); intro v263 w13 ho hb hg hat; rw [← Ny262.out] at ho; have n0_ := Aside0.mk (Kd.R_after (ok := (fun _ => True)) (by (with_reducible repeat (first | apply Kd.R_alloc | apply Kd.R_drewN | apply Kd.R_drew)); exact HO261.out) hg hat); have n1_ := Aside0.mk (hb); have n2_ := Aside0.mk (ho); clear HO261; clear HB; clear HO_3; have HO261 := n0_; have HB := n1_; have HO264 := n2_; clear n0_ n1_ n2_; clear ho hb hg hat))
         go_roundg kj6
         case measure => have := HK1.out; have := HJ6.out; omega
         case rel => exact ⟨(y262), (wrap64 (x4_1 + 1)), (by first | rfl | (simp; done) | (simp [*]; done)), H', ⟨by have := HK1.out; have := HJ6.out; omega⟩, ⟨by (with_reducible repeat (first | apply Kd.R_alloc | apply Kd.R_drewN | apply Kd.R_drew)); exact Kd.R_mono HO264.out (fun _ hk => trivial)⟩, ⟨by repeat (first | (with_reducible first | exact HB.out | apply below_alloc | apply pw_below_drewN | apply below_drew1) | exact HB.out)⟩⟩
        ·
         rw [if_neg c10] at H
         exact absurd H (by simp)
       ·
        replace c9 := Bool.eq_false_iff.mpr c9
        subst c9
        have H1 : (if (bt a0 x4_1) < 32 then (if 0 ≤ ((bt a0 x4_1) / 16) then (if ((bt a0 x4_1) / 16) < 16 then (if 0 ≤ (Go.bits .and .u8 (bt a0 x4_1) 15) then (if (Go.bits .and .u8 (bt a0 x4_1) 15) < 16 then ((some (([92, 120, bt (⟨#[48, 49, 50, 51, 52, 53, 54, 55, 56, 57, 97, 98, 99, 100, 101, 102]⟩ : ByteArray) ((bt a0 x4_1) / 16), bt (⟨#[48, 49, 50, 51, 52, 53, 54, 55, 56, 57, 97, 98, 99, 100, 101, 102]⟩ : ByteArray) (Go.bits .and .u8 (bt a0 x4_1) 15)] : List Int) : List Int)).bind fun y265 => (if x3_1.length + y265.length < 140737488355328 then (ambryref23_Quote.l0 kj6 a0 (x3_1 ++ y265) (wrap64 (x4_1 + 1))) else (none))) else (none)) else (none)) else (none)) else (none)) else (if (bt a0 x4_1) ≥ 127 then (if 0 ≤ ((bt a0 x4_1) / 16) then (if ((bt a0 x4_1) / 16) < 16 then (if 0 ≤ (Go.bits .and .u8 (bt a0 x4_1) 15) then (if (Go.bits .and .u8 (bt a0 x4_1) 15) < 16 then ((some (([92, 120, bt (⟨#[48, 49, 50, 51, 52, 53, 54, 55, 56, 57, 97, 98, 99, 100, 101, 102]⟩ : ByteArray) ((bt a0 x4_1) / 16), bt (⟨#[48, 49, 50, 51, 52, 53, 54, 55, 56, 57, 97, 98, 99, 100, 101, 102]⟩ : ByteArray) (Go.bits .and .u8 (bt a0 x4_1) 15)] : List Int) : List Int)).bind fun y271 => (if x3_1.length + y271.length < 140737488355328 then (ambryref23_Quote.l0 kj6 a0 (x3_1 ++ y271) (wrap64 (x4_1 + 1))) else (none))) else (none)) else (none)) else (none)) else (none)) else (if x3_1.length < 140737488355328 then (ambryref23_Quote.l0 kj6 a0 (x3_1 ++ [(bt a0 x4_1)]) (wrap64 (x4_1 + 1))) else (none)))) = some r := by rw [if_neg (show ¬ (false = true) by decide)] at H; exact H
        clear H
        have H := H1
        clear H1
        by_cases c15 : (bt a0 x4_1) < 32
        ·
         rw [if_pos c15] at H
         have c15b0 : decide ((bt a0 x4_1) < 32) = true := decide_eq_true c15
         clear c15
         obtain ⟨ji16, hji16⟩ : ∃ j_ : Int, ((bt a0 x4_1) / 16) = j_ := ⟨_, rfl⟩
         replace H : (if 0 ≤ (ji16) then (if (ji16) < 16 then (if 0 ≤ (Go.bits .and .u8 (bt a0 x4_1) 15) then (if (Go.bits .and .u8 (bt a0 x4_1) 15) < 16 then ((some (([92, 120, bt (⟨#[48, 49, 50, 51, 52, 53, 54, 55, 56, 57, 97, 98, 99, 100, 101, 102]⟩ : ByteArray) (ji16), bt (⟨#[48, 49, 50, 51, 52, 53, 54, 55, 56, 57, 97, 98, 99, 100, 101, 102]⟩ : ByteArray) (Go.bits .and .u8 (bt a0 x4_1) 15)] : List Int) : List Int)).bind fun y265 => (if x3_1.length + y265.length < 140737488355328 then (ambryref23_Quote.l0 kj6 a0 (x3_1 ++ y265) (wrap64 (x4_1 + 1))) else (none))) else (none)) else (none)) else (none)) else (none)) = some r := by first | (rw [hji16] at H; exact H) | (simp only [hji16] at H ⊢; exact H)
         by_cases c17 : 0 ≤ (ji16)
         ·
          rw [if_pos c17] at H
          have c17b0 : decide (0 ≤ (ji16)) = true := decide_eq_true c17
          clear c17
          by_cases c18 : (ji16) < 16
          ·
           rw [if_pos c18] at H
           have c18b0 : decide ((ji16) < 16) = true := decide_eq_true c18
           clear c18
           by_cases c20 : 0 ≤ (Go.bits .and .u8 (bt a0 x4_1) 15)
           ·
            rw [if_pos c20] at H
            have c20b0 : decide (0 ≤ (Go.bits .and .u8 (bt a0 x4_1) 15)) = true := decide_eq_true c20
            clear c20
            by_cases c21 : (Go.bits .and .u8 (bt a0 x4_1) 15) < 16
            ·
             rw [if_pos c21] at H
             have c21b0 : decide ((Go.bits .and .u8 (bt a0 x4_1) 15) < 16) = true := decide_eq_true c21
             clear c21
             obtain ⟨y265, hy265⟩ : ∃ y_ : List Int, y_ = (([92, 120, bt (⟨#[48, 49, 50, 51, 52, 53, 54, 55, 56, 57, 97, 98, 99, 100, 101, 102]⟩ : ByteArray) (ji16), bt (⟨#[48, 49, 50, 51, 52, 53, 54, 55, 56, 57, 97, 98, 99, 100, 101, 102]⟩ : ByteArray) (Go.bits .and .u8 (bt a0 x4_1) 15)] : List Int)) := ⟨_, rfl⟩
             replace H : (if x3_1.length + y265.length < 140737488355328 then (ambryref23_Quote.l0 kj6 a0 (x3_1 ++ y265) (wrap64 (x4_1 + 1))) else (none)) = some r := by first | (rw [hy265]; with_reducible exact H) | (have H2_ := (Option.bind_some _ _).symm.trans H; rw [hy265]; with_reducible exact H2_) | (have H2_ := (Option.bind_some _ _).symm.trans H; with_reducible exact H2_) | with_reducible exact H | (rw [hy265]; exact H) | exact H
             have Ny265 := Aside0.mk hy265
             clear hy265
             by_cases c23 : x3_1.length + y265.length < 140737488355328
             ·
              rw [if_pos c23] at H
              have LMc23 := Aside0.mk c23
              clear c23
              obtain ⟨y268, hy268⟩ : ∃ y_ : List Int, y_ = (x3_1 ++ y265) := ⟨_, rfl⟩
              replace H : (ambryref23_Quote.l0 kj6 a0 y268 (wrap64 (x4_1 + 1))) = some r := by first | (rw [hy268]; with_reducible exact H) | (have H2_ := (Option.bind_some _ _).symm.trans H; rw [hy268]; with_reducible exact H2_) | (have H2_ := (Option.bind_some _ _).symm.trans H; with_reducible exact H2_) | with_reducible exact H | (rw [hy268]; exact H) | exact H
              have Ny268 := Aside0.mk hy268
              clear hy268
              have H' := Aside0.mk H
              clear H
              try go_wp2
              have n0_ := Aside0.mk (Kd.R_drew HO_3.out)
              have n1_ := Aside0.mk (below_drew1 HB.out)
              clear HO_3
              clear HB
              have HO_3 := n0_
              have HB := n1_
              clear n0_ n1_
              have p19 : 0 ≤ ((ji16) : Int) := of_decide_eq_true (by first | (with_reducible assumption) | assumption)
              have q19 : (ji16) < (16 : Int) := of_decide_eq_true (by first | (with_reducible assumption) | assumption)
              have hx19 := bt_at (⟨#[48, 49, 50, 51, 52, 53, 54, 55, 56, 57, 97, 98, 99, 100, 101, 102]⟩ : ByteArray) (ji16)
              replace p19 := eq_true p19
              replace q19 := eq_true q19
              have p22 : 0 ≤ ((Go.bits .and .u8 (bt a0 x4_1) 15) : Int) := of_decide_eq_true (by first | (with_reducible assumption) | assumption)
              have q22 : (Go.bits .and .u8 (bt a0 x4_1) 15) < (16 : Int) := of_decide_eq_true (by first | (with_reducible assumption) | assumption)
              have hx22 := bt_at (⟨#[48, 49, 50, 51, 52, 53, 54, 55, 56, 57, 97, 98, 99, 100, 101, 102]⟩ : ByteArray) (Go.bits .and .u8 (bt a0 x4_1) 15)
              replace p22 := eq_true p22
              replace q22 := eq_true q22
              refine start_ (n := 10) (S := fun w' => True) (ds := []) #[O,O,O,O,O,O,O,O,O,O] (by kernel_rfl) rfl rfl trivial (fun hHeld => ?_); refine with_tabW ambryref23_Quote.tab10 ambryref23_Quote.bits10 (fun HT_ HW_ => ?_)
              generalize wc.drew = w24 at HO_3 HB hHeld ⊢
              refine pure_ (i := 0) (N := some 38) (v := ?_) (a' := ?_) #[I,O,O,O,O,O,O,O,O,O] rfl rfl (any_of HT_.out (by kernel_rfl)) (fun _ _ _ h => h) (Or.inl ⟨by rfl, ?_⟩) ?_ ?_
              rotate_left
              ·
               intro w'
               go_simp
               with_reducible rfl
              rotate_left
              ·
               simp only [Act.put, List.setIfInBounds_toArray, List.set_cons_zero, List.set_cons_succ, i64_w, i32_w]
               rfl
              refine pure_ (i := 1) (N := some 39) (v := ?_) (a' := ?_) #[I,I,O,O,O,O,O,O,O,O] rfl rfl (any_of HT_.out (by kernel_rfl)) (fun _ _ _ h => h) (Or.inl ⟨by rfl, ?_⟩) ?_ ?_
              rotate_left
              ·
               intro w'
               go_simp
               with_reducible rfl
              rotate_left
              ·
               simp only [Act.put, List.setIfInBounds_toArray, List.set_cons_zero, List.set_cons_succ, i64_w, i32_w]
               rfl
              refine pure_ (i := 2) (N := some 40) (v := ?_) (a' := ?_) #[I,I,I,O,O,O,O,O,O,O] rfl rfl (any_of HT_.out (by kernel_rfl)) (fun _ _ _ h => h) (Or.inl ⟨by rfl, ?_⟩) ?_ ?_
              rotate_left
              ·
               intro w'
               go_simp
               with_reducible rfl
              rotate_left
              ·
               simp only [Act.put, List.setIfInBounds_toArray, List.set_cons_zero, List.set_cons_succ, i64_w, i32_w]
               rfl
              refine pure_ (i := 4) (N := some 42) (v := ?_) (a' := ?_) #[I,I,I,O,I,O,O,O,O,O] rfl rfl (any_of HT_.out (by kernel_rfl)) (fun _ _ _ h => h) (Or.inl ⟨by rfl, ?_⟩) ?_ ?_
              rotate_left
              ·
               intro w'
               go_simp
               with_reducible rfl
              rotate_left
              ·
               simp only [Act.put, List.setIfInBounds_toArray, List.set_cons_zero, List.set_cons_succ, i64_w, i32_w]
               rfl
              refine pure_ (i := 5) (N := some 43) (v := ?_) (a' := ?_) #[I,I,I,O,I,I,O,O,O,O] rfl rfl (any_of HT_.out (by kernel_rfl)) (fun _ _ _ h => h) (Or.inl ⟨by rfl, ?_⟩) ?_ ?_
              rotate_left
              ·
               intro w'
               go_simp
               with_reducible rfl
              rotate_left
              ·
               simp only [Act.put, List.setIfInBounds_toArray, List.set_cons_zero, List.set_cons_succ, i64_w, i32_w]
               rfl
              refine take_ (i := 3) (N := some 41) (v := ?_) (a' := ?_) #[I,I,I,I,I,I,O,O,O,O] rfl rfl (take_ofW HT_.out HW_.out (by kernel_rfl)) (fun _ _ _ h => h) (Or.inl ⟨by rfl, ?_⟩) hHeld ?_ ?_
              rotate_left
              ·
               intro w' _
               go_simp
               with_reducible rfl
              rotate_left
              ·
               simp only [Act.put, List.setIfInBounds_toArray, List.set_cons_zero, List.set_cons_succ, i64_w, i32_w]
               rfl
              refine take_ (i := 6) (N := some 44) (v := ?_) (a' := ?_) #[I,I,I,I,I,I,I,O,O,O] rfl rfl (take_ofW HT_.out HW_.out (by kernel_rfl)) (fun _ _ _ h => h) (Or.inl ⟨by rfl, ?_⟩) hHeld ?_ ?_
              rotate_left
              ·
               intro w' _
               go_simp
               with_reducible rfl
              rotate_left
              ·
               simp only [Act.put, List.setIfInBounds_toArray, List.set_cons_zero, List.set_cons_succ, i64_w, i32_w]
               rfl
              refine one_ (i := 7) (N := some 45) #[I,I,I,I,I,I,I,I,O,O] rfl rfl (one_of HT_.out (by kernel_rfl)) (by decide) (fun K hK => ?_)
              refine Kd.R_lit_step (Kd.int .u8) _ 5 ?hg (N := 45) ?hd (xs := ([92, 120, bt (⟨#[48, 49, 50, 51, 52, 53, 54, 55, 56, 57, 97, 98, 99, 100, 101, 102]⟩ : ByteArray) (ji16), bt (⟨#[48, 49, 50, 51, 52, 53, 54, 55, 56, 57, 97, 98, 99, 100, 101, 102]⟩ : ByteArray) (Go.bits .and .u8 (bt a0 x4_1) 15)] : List Int)) (inner := [.int .u8 92, .int .u8 120, .int .u8 (bt (⟨#[48, 49, 50, 51, 52, 53, 54, 55, 56, 57, 97, 98, 99, 100, 101, 102]⟩ : ByteArray) (ji16)), .int .u8 (bt (⟨#[48, 49, 50, 51, 52, 53, 54, 55, 56, 57, 97, 98, 99, 100, 101, 102]⟩ : ByteArray) (Go.bits .and .u8 (bt a0 x4_1) 15))]) (ok := fun _ => True) (okp := fun _ => True) ?hr ?hp (fun _ hk => hk) trivial (Below.refl _ _) (Nat.le_refl _) (by simp) ?_; (case hd => rfl); (case hg => rfl); (case hr => first | (go_simp; done) | (go_simp; rfl)); (case hp => exact (Reps.one (show Kd.M (Kd.int .u8) _ _ _ 92 [.int .u8 92] from rfl) (Reps.one (show Kd.M (Kd.int .u8) _ _ _ 120 [.int .u8 120] from rfl) (Reps.one (show Kd.M (Kd.int .u8) _ _ _ (bt (⟨#[48, 49, 50, 51, 52, 53, 54, 55, 56, 57, 97, 98, 99, 100, 101, 102]⟩ : ByteArray) (ji16)) [.int .u8 (bt (⟨#[48, 49, 50, 51, 52, 53, 54, 55, 56, 57, 97, 98, 99, 100, 101, 102]⟩ : ByteArray) (ji16))] from rfl) (Reps.one (show Kd.M (Kd.int .u8) _ _ _ (bt (⟨#[48, 49, 50, 51, 52, 53, 54, 55, 56, 57, 97, 98, 99, 100, 101, 102]⟩ : ByteArray) (Go.bits .and .u8 (bt a0 x4_1) 15)) [.int .u8 (bt (⟨#[48, 49, 50, 51, 52, 53, 54, 55, 56, 57, 97, 98, 99, 100, 101, 102]⟩ : ByteArray) (Go.bits .and .u8 (bt a0 x4_1) 15))] from rfl) (Reps.none _ _))))))
              intro v266 w25 ho26 hb hg_ hnew_
              clear hg_ hnew_
              (first | rw [← Ny265.out] at ho26 | (simp only [Int.reduceToNat] at ho26; rw [← Ny265.out] at ho26))
              have n0_ := Aside0.mk (Kd.R_elder' (by (with_reducible repeat (first | apply Kd.R_alloc | apply Kd.R_drewN | apply Kd.R_drew)); exact HO_3.out) (Kd.R_base ho26) hb)
              have n1_ := Aside0.mk (Kd.R_lower (Kd.R_new' ho26 (Kd.R_lt (by (with_reducible repeat (first | apply Kd.R_alloc | apply Kd.R_drewN | apply Kd.R_drew)); exact HO_3.out))) (below_size (by repeat (first | (with_reducible first | exact HB.out | apply below_alloc | apply pw_below_drewN | apply below_drew1) | exact HB.out))))
              have n2_ := Aside0.mk (below_step (by repeat (first | (with_reducible first | exact HB.out | apply below_alloc | apply pw_below_drewN | apply below_drew1) | exact HB.out)) hb)
              clear HO_3
              clear HB
              have HO_3 := n0_
              have HO267 := n1_
              have HB := n2_
              clear n0_ n1_ n2_
              clear hb ho26
              obtain ⟨Ao28, co28, eo28⟩ := Kd.R_slice HO267.out
              (first | subst eo28 | (injection eo28 with f1_ f2_ f3_; have f4_ := f1_.symm; have f5_ := f3_.symm; clear f1_ f2_ f3_; subst f4_; subst f5_))
              refine hK.out _ _ trivial (fun hHeld => ?_)
              clear hK K
              refine norm_ (a' := ?_) ?_ ?_
              rotate_left
              ·
               show Act.put _ (some 45) _ = _
               simp only [Act.put, List.setIfInBounds_toArray, List.set_cons_zero, List.set_cons_succ, i64_w, i32_w]
               rfl
              refine one_ (i := 8) (N := some 46) #[I,I,I,I,I,I,I,I,I,O] rfl rfl (one_of HT_.out (by kernel_rfl)) (by decide) (fun K hK => ?_)
              refine Kd.R_append_rows_step (Kd.int .u8) (w0 := w) w.heap.size (by rfl) (.tmp 38) (.tmp 45) 60 5 (.int .u8 0) 1 rfl Tryd.underlying60 info5 rfl (by decide) (by omega) u3 x3_1 y265 _ _ _ (fun k_ => some k_ ≠ (.slice Ao28 y265.length co28 : Value).ownBlock) (fun _ => False) rfl rfl ?aO ?aR (fun _ _ h => h) (fun _ h => h.elim) ?aF ?aB ?aS ?aL ?_
              (case aR => repeat (first | exact (Kd.R_reads' HO267.out).2.2 | (with_reducible refine Kd.C_alloc ?_ _) | (with_reducible refine Kd.C_drewN ?_ _) | (with_reducible refine Kd.C_drew ?_)))
              (case aB => exact (by repeat (first | (with_reducible first | exact HB.out | apply below_alloc | apply pw_below_drewN | apply below_drew1) | exact HB.out)))
              (case aF => exact (fun k_ hk => Kd.fresh' (Kd.R_lt (by (with_reducible repeat (first | apply Kd.R_alloc | apply Kd.R_drewN | apply Kd.R_drew)); exact HO267.out)) k_ hk))
              (case aO => exact (by (with_reducible repeat (first | apply Kd.R_alloc | apply Kd.R_drewN | apply Kd.R_drew)); exact Kd.R_mono HO_3.out (fun _ hk => hk.2)))
              (case aS => exact (below_size (by repeat (first | (with_reducible first | exact HB.out | apply below_alloc | apply pw_below_drewN | apply below_drew1) | exact HB.out))))
              (case aL => have := LMc23.out; omega)
              intro v269 w27 ho hb hg hat
              rw [← Ny268.out] at ho
              have n0_ := Aside0.mk (Kd.R_after (ok := (fun _ => True)) (by (with_reducible repeat (first | apply Kd.R_alloc | apply Kd.R_drewN | apply Kd.R_drew)); exact HO267.out) hg hat)
              have n1_ := Aside0.mk (hb)
              have n2_ := Aside0.mk (ho)
              clear HO267
              clear HB
              clear HO_3
              have HO267 := n0_
              have HB := n1_
              have HO270 := n2_
              clear n0_ n1_ n2_
              clear ho hb hg hat
              refine hK.out _ _ trivial (fun hHeld => ?_)
              clear hK K
              refine norm_ (a' := ?_) ?_ ?_
              rotate_left
              ·
               show Act.put _ (some 46) _ = _
               simp only [Act.put, List.setIfInBounds_toArray, List.set_cons_zero, List.set_cons_succ, i64_w, i32_w]
               rfl
              refine pure_ (i := 9) (N := some 3) (v := ?_) (a' := ?_) #[I,I,I,I,I,I,I,I,I,I] rfl rfl (any_of HT_.out (by kernel_rfl)) (fun _ _ _ h => h) (Or.inl ⟨by rfl, ?_⟩) ?_ ?_
              rotate_left
              ·
               intro w'
               go_simp
               with_reducible rfl
              rotate_left
              ·
               simp only [Act.put, List.setIfInBounds_toArray, List.set_cons_zero, List.set_cons_succ, i64_w, i32_w]
               rfl
              refine done_ (done_of HT_.out (by kernel_rfl)) ?_
              try go_wp2
              go_roundg kj6
              case measure => have := HK1.out; have := HJ6.out; omega
              case rel => exact ⟨(y268), (wrap64 (x4_1 + 1)), (by first | rfl | (simp; done) | (simp [*]; done)), H', ⟨by have := HK1.out; have := HJ6.out; omega⟩, ⟨by (with_reducible repeat (first | apply Kd.R_alloc | apply Kd.R_drewN | apply Kd.R_drew)); exact Kd.R_mono HO270.out (fun _ hk => trivial)⟩, ⟨by repeat (first | (with_reducible first | exact HB.out | apply below_alloc | apply pw_below_drewN | apply below_drew1) | exact HB.out)⟩⟩
             ·
              rw [if_neg c23] at H
              exact absurd H (by simp)
            ·
             rw [if_neg c21] at H
             exact absurd H (by simp)
           ·
            rw [if_neg c20] at H
            exact absurd H (by simp)
          ·
           rw [if_neg c18] at H
           exact absurd H (by simp)
         ·
          rw [if_neg c17] at H
          exact absurd H (by simp)
        ·
         rw [if_neg c15] at H
         have c15b0 : decide ((bt a0 x4_1) < 32) = false := decide_eq_false c15
         clear c15
         by_cases c29 : (bt a0 x4_1) ≥ 127
         ·
          rw [if_pos c29] at H
          have c29b0 : decide (127 ≤ (bt a0 x4_1)) = true := decide_eq_true c29
          clear c29
          obtain ⟨ji30, hji30⟩ : ∃ j_ : Int, ((bt a0 x4_1) / 16) = j_ := ⟨_, rfl⟩
          replace H : (if 0 ≤ (ji30) then (if (ji30) < 16 then (if 0 ≤ (Go.bits .and .u8 (bt a0 x4_1) 15) then (if (Go.bits .and .u8 (bt a0 x4_1) 15) < 16 then ((some (([92, 120, bt (⟨#[48, 49, 50, 51, 52, 53, 54, 55, 56, 57, 97, 98, 99, 100, 101, 102]⟩ : ByteArray) (ji30), bt (⟨#[48, 49, 50, 51, 52, 53, 54, 55, 56, 57, 97, 98, 99, 100, 101, 102]⟩ : ByteArray) (Go.bits .and .u8 (bt a0 x4_1) 15)] : List Int) : List Int)).bind fun y271 => (if x3_1.length + y271.length < 140737488355328 then (ambryref23_Quote.l0 kj6 a0 (x3_1 ++ y271) (wrap64 (x4_1 + 1))) else (none))) else (none)) else (none)) else (none)) else (none)) = some r := by first | (rw [hji30] at H; exact H) | (simp only [hji30] at H ⊢; exact H)
          by_cases c31 : 0 ≤ (ji30)
          ·
           rw [if_pos c31] at H
           have c31b0 : decide (0 ≤ (ji30)) = true := decide_eq_true c31
           clear c31
           by_cases c32 : (ji30) < 16
           ·
            rw [if_pos c32] at H
            have c32b0 : decide ((ji30) < 16) = true := decide_eq_true c32
            clear c32
            by_cases c34 : 0 ≤ (Go.bits .and .u8 (bt a0 x4_1) 15)
            ·
             rw [if_pos c34] at H
             have c34b0 : decide (0 ≤ (Go.bits .and .u8 (bt a0 x4_1) 15)) = true := decide_eq_true c34
             clear c34
             by_cases c35 : (Go.bits .and .u8 (bt a0 x4_1) 15) < 16
             ·
              rw [if_pos c35] at H
              have c35b0 : decide ((Go.bits .and .u8 (bt a0 x4_1) 15) < 16) = true := decide_eq_true c35
              clear c35
              obtain ⟨y271, hy271⟩ : ∃ y_ : List Int, y_ = (([92, 120, bt (⟨#[48, 49, 50, 51, 52, 53, 54, 55, 56, 57, 97, 98, 99, 100, 101, 102]⟩ : ByteArray) (ji30), bt (⟨#[48, 49, 50, 51, 52, 53, 54, 55, 56, 57, 97, 98, 99, 100, 101, 102]⟩ : ByteArray) (Go.bits .and .u8 (bt a0 x4_1) 15)] : List Int)) := ⟨_, rfl⟩
              replace H : (if x3_1.length + y271.length < 140737488355328 then (ambryref23_Quote.l0 kj6 a0 (x3_1 ++ y271) (wrap64 (x4_1 + 1))) else (none)) = some r := by first | (rw [hy271]; with_reducible exact H) | (have H2_ := (Option.bind_some _ _).symm.trans H; rw [hy271]; with_reducible exact H2_) | (have H2_ := (Option.bind_some _ _).symm.trans H; with_reducible exact H2_) | with_reducible exact H | (rw [hy271]; exact H) | exact H
              have Ny271 := Aside0.mk hy271
              clear hy271
              by_cases c37 : x3_1.length + y271.length < 140737488355328
              ·
               rw [if_pos c37] at H
               have LMc37 := Aside0.mk c37
               clear c37
               obtain ⟨y274, hy274⟩ : ∃ y_ : List Int, y_ = (x3_1 ++ y271) := ⟨_, rfl⟩
               replace H : (ambryref23_Quote.l0 kj6 a0 y274 (wrap64 (x4_1 + 1))) = some r := by first | (rw [hy274]; with_reducible exact H) | (have H2_ := (Option.bind_some _ _).symm.trans H; rw [hy274]; with_reducible exact H2_) | (have H2_ := (Option.bind_some _ _).symm.trans H; with_reducible exact H2_) | with_reducible exact H | (rw [hy274]; exact H) | exact H
               have Ny274 := Aside0.mk hy274
               clear hy274
               have H' := Aside0.mk H
               clear H
               try go_wp2
               have n0_ := Aside0.mk (Kd.R_drew HO_3.out)
               have n1_ := Aside0.mk (below_drew1 HB.out)
               clear HO_3
               clear HB
               have HO_3 := n0_
               have HB := n1_
               clear n0_ n1_
               have p33 : 0 ≤ ((ji30) : Int) := of_decide_eq_true (by first | (with_reducible assumption) | assumption)
               have q33 : (ji30) < (16 : Int) := of_decide_eq_true (by first | (with_reducible assumption) | assumption)
               have hx33 := bt_at (⟨#[48, 49, 50, 51, 52, 53, 54, 55, 56, 57, 97, 98, 99, 100, 101, 102]⟩ : ByteArray) (ji30)
               replace p33 := eq_true p33
               replace q33 := eq_true q33
               have p36 : 0 ≤ ((Go.bits .and .u8 (bt a0 x4_1) 15) : Int) := of_decide_eq_true (by first | (with_reducible assumption) | assumption)
               have q36 : (Go.bits .and .u8 (bt a0 x4_1) 15) < (16 : Int) := of_decide_eq_true (by first | (with_reducible assumption) | assumption)
               have hx36 := bt_at (⟨#[48, 49, 50, 51, 52, 53, 54, 55, 56, 57, 97, 98, 99, 100, 101, 102]⟩ : ByteArray) (Go.bits .and .u8 (bt a0 x4_1) 15)
               replace p36 := eq_true p36
               replace q36 := eq_true q36
               refine start_ (n := 10) (S := fun w' => True) (ds := []) #[O,O,O,O,O,O,O,O,O,O] (by kernel_rfl) rfl rfl trivial (fun hHeld => ?_); refine with_tabW ambryref23_Quote.tab10 ambryref23_Quote.bits10 (fun HT_ HW_ => ?_)
               generalize wc.drew = w38 at HO_3 HB hHeld ⊢
               refine pure_ (i := 0) (N := some 38) (v := ?_) (a' := ?_) #[I,O,O,O,O,O,O,O,O,O] rfl rfl (any_of HT_.out (by kernel_rfl)) (fun _ _ _ h => h) (Or.inl ⟨by rfl, ?_⟩) ?_ ?_
               rotate_left
               ·
                intro w'
                go_simp
                with_reducible rfl
               rotate_left
               ·
                simp only [Act.put, List.setIfInBounds_toArray, List.set_cons_zero, List.set_cons_succ, i64_w, i32_w]
                rfl
               refine pure_ (i := 1) (N := some 39) (v := ?_) (a' := ?_) #[I,I,O,O,O,O,O,O,O,O] rfl rfl (any_of HT_.out (by kernel_rfl)) (fun _ _ _ h => h) (Or.inl ⟨by rfl, ?_⟩) ?_ ?_
               rotate_left
               ·
                intro w'
                go_simp
                with_reducible rfl
               rotate_left
               ·
                simp only [Act.put, List.setIfInBounds_toArray, List.set_cons_zero, List.set_cons_succ, i64_w, i32_w]
                rfl
               refine pure_ (i := 2) (N := some 40) (v := ?_) (a' := ?_) #[I,I,I,O,O,O,O,O,O,O] rfl rfl (any_of HT_.out (by kernel_rfl)) (fun _ _ _ h => h) (Or.inl ⟨by rfl, ?_⟩) ?_ ?_
               rotate_left
               ·
                intro w'
                go_simp
                with_reducible rfl
               rotate_left
               ·
                simp only [Act.put, List.setIfInBounds_toArray, List.set_cons_zero, List.set_cons_succ, i64_w, i32_w]
                rfl
               refine pure_ (i := 4) (N := some 42) (v := ?_) (a' := ?_) #[I,I,I,O,I,O,O,O,O,O] rfl rfl (any_of HT_.out (by kernel_rfl)) (fun _ _ _ h => h) (Or.inl ⟨by rfl, ?_⟩) ?_ ?_
               rotate_left
               ·
                intro w'
                go_simp
                with_reducible rfl
               rotate_left
               ·
                simp only [Act.put, List.setIfInBounds_toArray, List.set_cons_zero, List.set_cons_succ, i64_w, i32_w]
                rfl
               refine pure_ (i := 5) (N := some 43) (v := ?_) (a' := ?_) #[I,I,I,O,I,I,O,O,O,O] rfl rfl (any_of HT_.out (by kernel_rfl)) (fun _ _ _ h => h) (Or.inl ⟨by rfl, ?_⟩) ?_ ?_
               rotate_left
               ·
                intro w'
                go_simp
                with_reducible rfl
               rotate_left
               ·
                simp only [Act.put, List.setIfInBounds_toArray, List.set_cons_zero, List.set_cons_succ, i64_w, i32_w]
                rfl
               refine take_ (i := 3) (N := some 41) (v := ?_) (a' := ?_) #[I,I,I,I,I,I,O,O,O,O] rfl rfl (take_ofW HT_.out HW_.out (by kernel_rfl)) (fun _ _ _ h => h) (Or.inl ⟨by rfl, ?_⟩) hHeld ?_ ?_
               rotate_left
               ·
                intro w' _
                go_simp
                with_reducible rfl
               rotate_left
               ·
                simp only [Act.put, List.setIfInBounds_toArray, List.set_cons_zero, List.set_cons_succ, i64_w, i32_w]
                rfl
               refine take_ (i := 6) (N := some 44) (v := ?_) (a' := ?_) #[I,I,I,I,I,I,I,O,O,O] rfl rfl (take_ofW HT_.out HW_.out (by kernel_rfl)) (fun _ _ _ h => h) (Or.inl ⟨by rfl, ?_⟩) hHeld ?_ ?_
               rotate_left
               ·
                intro w' _
                go_simp
                with_reducible rfl
               rotate_left
               ·
                simp only [Act.put, List.setIfInBounds_toArray, List.set_cons_zero, List.set_cons_succ, i64_w, i32_w]
                rfl
               refine one_ (i := 7) (N := some 45) #[I,I,I,I,I,I,I,I,O,O] rfl rfl (one_of HT_.out (by kernel_rfl)) (by decide) (fun K hK => ?_)
               refine Kd.R_lit_step (Kd.int .u8) _ 5 ?hg (N := 45) ?hd (xs := ([92, 120, bt (⟨#[48, 49, 50, 51, 52, 53, 54, 55, 56, 57, 97, 98, 99, 100, 101, 102]⟩ : ByteArray) (ji30), bt (⟨#[48, 49, 50, 51, 52, 53, 54, 55, 56, 57, 97, 98, 99, 100, 101, 102]⟩ : ByteArray) (Go.bits .and .u8 (bt a0 x4_1) 15)] : List Int)) (inner := [.int .u8 92, .int .u8 120, .int .u8 (bt (⟨#[48, 49, 50, 51, 52, 53, 54, 55, 56, 57, 97, 98, 99, 100, 101, 102]⟩ : ByteArray) (ji30)), .int .u8 (bt (⟨#[48, 49, 50, 51, 52, 53, 54, 55, 56, 57, 97, 98, 99, 100, 101, 102]⟩ : ByteArray) (Go.bits .and .u8 (bt a0 x4_1) 15))]) (ok := fun _ => True) (okp := fun _ => True) ?hr ?hp (fun _ hk => hk) trivial (Below.refl _ _) (Nat.le_refl _) (by simp) ?_; (case hd => rfl); (case hg => rfl); (case hr => first | (go_simp; done) | (go_simp; rfl)); (case hp => exact (Reps.one (show Kd.M (Kd.int .u8) _ _ _ 92 [.int .u8 92] from rfl) (Reps.one (show Kd.M (Kd.int .u8) _ _ _ 120 [.int .u8 120] from rfl) (Reps.one (show Kd.M (Kd.int .u8) _ _ _ (bt (⟨#[48, 49, 50, 51, 52, 53, 54, 55, 56, 57, 97, 98, 99, 100, 101, 102]⟩ : ByteArray) (ji30)) [.int .u8 (bt (⟨#[48, 49, 50, 51, 52, 53, 54, 55, 56, 57, 97, 98, 99, 100, 101, 102]⟩ : ByteArray) (ji30))] from rfl) (Reps.one (show Kd.M (Kd.int .u8) _ _ _ (bt (⟨#[48, 49, 50, 51, 52, 53, 54, 55, 56, 57, 97, 98, 99, 100, 101, 102]⟩ : ByteArray) (Go.bits .and .u8 (bt a0 x4_1) 15)) [.int .u8 (bt (⟨#[48, 49, 50, 51, 52, 53, 54, 55, 56, 57, 97, 98, 99, 100, 101, 102]⟩ : ByteArray) (Go.bits .and .u8 (bt a0 x4_1) 15))] from rfl) (Reps.none _ _))))))
               intro v272 w39 ho40 hb hg_ hnew_
               clear hg_ hnew_
               (first | rw [← Ny271.out] at ho40 | (simp only [Int.reduceToNat] at ho40; rw [← Ny271.out] at ho40))
               have n0_ := Aside0.mk (Kd.R_elder' (by (with_reducible repeat (first | apply Kd.R_alloc | apply Kd.R_drewN | apply Kd.R_drew)); exact HO_3.out) (Kd.R_base ho40) hb)
               have n1_ := Aside0.mk (Kd.R_lower (Kd.R_new' ho40 (Kd.R_lt (by (with_reducible repeat (first | apply Kd.R_alloc | apply Kd.R_drewN | apply Kd.R_drew)); exact HO_3.out))) (below_size (by repeat (first | (with_reducible first | exact HB.out | apply below_alloc | apply pw_below_drewN | apply below_drew1) | exact HB.out))))
               have n2_ := Aside0.mk (below_step (by repeat (first | (with_reducible first | exact HB.out | apply below_alloc | apply pw_below_drewN | apply below_drew1) | exact HB.out)) hb)
               clear HO_3
               clear HB
               have HO_3 := n0_
               have HO273 := n1_
               have HB := n2_
               clear n0_ n1_ n2_
               clear hb ho40
               obtain ⟨Ao42, co42, eo42⟩ := Kd.R_slice HO273.out
               (first | subst eo42 | (injection eo42 with f1_ f2_ f3_; have f4_ := f1_.symm; have f5_ := f3_.symm; clear f1_ f2_ f3_; subst f4_; subst f5_))
               refine hK.out _ _ trivial (fun hHeld => ?_)
               clear hK K
               refine norm_ (a' := ?_) ?_ ?_
               rotate_left
               ·
                show Act.put _ (some 45) _ = _
                simp only [Act.put, List.setIfInBounds_toArray, List.set_cons_zero, List.set_cons_succ, i64_w, i32_w]
                rfl
               refine one_ (i := 8) (N := some 46) #[I,I,I,I,I,I,I,I,I,O] rfl rfl (one_of HT_.out (by kernel_rfl)) (by decide) (fun K hK => ?_)
               refine Kd.R_append_rows_step (Kd.int .u8) (w0 := w) w.heap.size (by rfl) (.tmp 38) (.tmp 45) 60 5 (.int .u8 0) 1 rfl Tryd.underlying60 info5 rfl (by decide) (by omega) u3 x3_1 y271 _ _ _ (fun k_ => some k_ ≠ (.slice Ao42 y271.length co42 : Value).ownBlock) (fun _ => False) rfl rfl ?aO ?aR (fun _ _ h => h) (fun _ h => h.elim) ?aF ?aB ?aS ?aL ?_
               (case aR => repeat (first | exact (Kd.R_reads' HO273.out).2.2 | (with_reducible refine Kd.C_alloc ?_ _) | (with_reducible refine Kd.C_drewN ?_ _) | (with_reducible refine Kd.C_drew ?_)))
               (case aB => exact (by repeat (first | (with_reducible first | exact HB.out | apply below_alloc | apply pw_below_drewN | apply below_drew1) | exact HB.out)))
               (case aF => exact (fun k_ hk => Kd.fresh' (Kd.R_lt (by (with_reducible repeat (first | apply Kd.R_alloc | apply Kd.R_drewN | apply Kd.R_drew)); exact HO273.out)) k_ hk))
               (case aO => exact (by (with_reducible repeat (first | apply Kd.R_alloc | apply Kd.R_drewN | apply Kd.R_drew)); exact Kd.R_mono HO_3.out (fun _ hk => hk.2)))
               (case aS => exact (below_size (by repeat (first | (with_reducible first | exact HB.out | apply below_alloc | apply pw_below_drewN | apply below_drew1) | exact HB.out))))
               (case aL => have := LMc37.out; omega)
               intro v275 w41 ho hb hg hat
               rw [← Ny274.out] at ho
               have n0_ := Aside0.mk (Kd.R_after (ok := (fun _ => True)) (by (with_reducible repeat (first | apply Kd.R_alloc | apply Kd.R_drewN | apply Kd.R_drew)); exact HO273.out) hg hat)
               have n1_ := Aside0.mk (hb)
               have n2_ := Aside0.mk (ho)
               clear HO273
               clear HB
               clear HO_3
               have HO273 := n0_
               have HB := n1_
               have HO276 := n2_
               clear n0_ n1_ n2_
               clear ho hb hg hat
               refine hK.out _ _ trivial (fun hHeld => ?_)
               clear hK K
               refine norm_ (a' := ?_) ?_ ?_
               rotate_left
               ·
                show Act.put _ (some 46) _ = _
                simp only [Act.put, List.setIfInBounds_toArray, List.set_cons_zero, List.set_cons_succ, i64_w, i32_w]
                rfl
               refine pure_ (i := 9) (N := some 3) (v := ?_) (a' := ?_) #[I,I,I,I,I,I,I,I,I,I] rfl rfl (any_of HT_.out (by kernel_rfl)) (fun _ _ _ h => h) (Or.inl ⟨by rfl, ?_⟩) ?_ ?_
               rotate_left
               ·
                intro w'
                go_simp
                with_reducible rfl
               rotate_left
               ·
                simp only [Act.put, List.setIfInBounds_toArray, List.set_cons_zero, List.set_cons_succ, i64_w, i32_w]
                rfl
               refine done_ (done_of HT_.out (by kernel_rfl)) ?_
               try go_wp2
               go_roundg kj6
               case measure => have := HK1.out; have := HJ6.out; omega
               case rel => exact ⟨(y274), (wrap64 (x4_1 + 1)), (by first | rfl | (simp; done) | (simp [*]; done)), H', ⟨by have := HK1.out; have := HJ6.out; omega⟩, ⟨by (with_reducible repeat (first | apply Kd.R_alloc | apply Kd.R_drewN | apply Kd.R_drew)); exact Kd.R_mono HO276.out (fun _ hk => trivial)⟩, ⟨by repeat (first | (with_reducible first | exact HB.out | apply below_alloc | apply pw_below_drewN | apply below_drew1) | exact HB.out)⟩⟩
              ·
               rw [if_neg c37] at H
               exact absurd H (by simp)
             ·
              rw [if_neg c35] at H
              exact absurd H (by simp)
            ·
             rw [if_neg c34] at H
             exact absurd H (by simp)
           ·
            rw [if_neg c32] at H
            exact absurd H (by simp)
          ·
           rw [if_neg c31] at H
           exact absurd H (by simp)
         ·
          rw [if_neg c29] at H
          have c29b0 : decide (127 ≤ (bt a0 x4_1)) = false := decide_eq_false c29
          clear c29
          by_cases c43 : x3_1.length < 140737488355328
          ·
           rw [if_pos c43] at H
           have LMc43 := Aside0.mk c43
           clear c43
           obtain ⟨y277, hy277⟩ : ∃ y_ : List Int, y_ = (x3_1 ++ [(bt a0 x4_1)]) := ⟨_, rfl⟩
           replace H : (ambryref23_Quote.l0 kj6 a0 y277 (wrap64 (x4_1 + 1))) = some r := by first | (rw [hy277]; with_reducible exact H) | (have H2_ := (Option.bind_some _ _).symm.trans H; rw [hy277]; with_reducible exact H2_) | (have H2_ := (Option.bind_some _ _).symm.trans H; with_reducible exact H2_) | with_reducible exact H | (rw [hy277]; exact H) | exact H
           have Ny277 := Aside0.mk hy277
           clear hy277
           have H' := Aside0.mk H
           clear H
           go_wp2_with (first | ((with_reducible refine gate_builtin (b := .append) (xs := #[.tmp 16, .tmp 18]) rfl ?_); at_builtin; refine Kd.R_append (Kd.int .u8) (w0 := w) w.heap.size rfl (.tmp 16) (.tmp 18) 60 5 (.int .u8 0) 1 rfl Tryd.underlying60 info5 rfl (by decide) (by omega) u3 x3_1 (bt a0 x4_1) [.int .u8 (bt a0 x4_1)] (fun _ => True) (fun _ => False) rfl rfl ?aP (fun _ hk => hk.elim) ?aF ?aO ?aB ?aS ?aL ?_; (case aP => exact rfl); (case aB => exact (by repeat (first | (with_reducible first | exact HB.out | apply below_alloc | apply pw_below_drewN | apply below_drew1) | exact HB.out))); (case aF => exact (fun _ _ => trivial)); (case aO => exact (by (with_reducible repeat (first | apply Kd.R_alloc | apply Kd.R_drewN | apply Kd.R_drew)); exact HO_3.out)); (case aS => exact (below_size (by repeat (first | (with_reducible first | exact HB.out | apply below_alloc | apply pw_below_drewN | apply below_drew1) | exact HB.out)))); (case aL => have := LMc43.out; omega); intro v278 w44 ho hb hg hat; rw [← Ny277.out] at ho; have n0_ := Aside0.mk (hb); have n1_ := Aside0.mk (ho); clear HB; clear HO_3; have HB := n0_; have HO279 := n1_; clear n0_ n1_; clear ho hb hg hat))
           go_roundg kj6
           case measure => have := HK1.out; have := HJ6.out; omega
           case rel => exact ⟨(y277), (wrap64 (x4_1 + 1)), (by first | rfl | (simp; done) | (simp [*]; done)), H', ⟨by have := HK1.out; have := HJ6.out; omega⟩, ⟨by (with_reducible repeat (first | apply Kd.R_alloc | apply Kd.R_drewN | apply Kd.R_drew)); exact HO279.out⟩, ⟨by repeat (first | (with_reducible first | exact HB.out | apply below_alloc | apply pw_below_drewN | apply below_drew1) | exact HB.out)⟩⟩
          ·
           rw [if_neg c43] at H
           exact absurd H (by simp)
    ·
     rw [if_neg c5] at H
     exact absurd H (by simp)
   ·
    rw [if_neg c4] at H
    have c4b0 : decide (x4_1 < (a0.size : Int)) = false := decide_eq_false c4
    clear c4
    by_cases c45 : x3_1.length < 140737488355328
    ·
     rw [if_pos c45] at H
     have LMc45 := Aside0.mk c45
     clear c45
     obtain ⟨y256, hy256⟩ : ∃ y_ : List Int, y_ = (x3_1 ++ [34]) := ⟨_, rfl⟩
     replace H : (some (strOfNums y256)) = some r := by first | (rw [hy256]; with_reducible exact H) | (have H2_ := (Option.bind_some _ _).symm.trans H; rw [hy256]; with_reducible exact H2_) | (have H2_ := (Option.bind_some _ _).symm.trans H; with_reducible exact H2_) | with_reducible exact H | (rw [hy256]; exact H) | exact H
     have Ny256 := Aside0.mk hy256
     clear hy256
     obtain rfl := Option.some.inj H
     go_wp2_with (first | ((with_reducible refine gate_builtin (b := .append) (xs := #[.tmp 47, .tmp 48]) rfl ?_); at_builtin; refine Kd.R_append (Kd.int .u8) (w0 := w) w.heap.size rfl (.tmp 47) (.tmp 48) 60 5 (.int .u8 0) 1 rfl Tryd.underlying60 info5 rfl (by decide) (by omega) u3 x3_1 34 [.int .u8 34] (fun _ => True) (fun _ => False) rfl rfl ?aP (fun _ hk => hk.elim) ?aF ?aO ?aB ?aS ?aL ?_; (case aP => exact rfl); (case aB => exact (by repeat (first | (with_reducible first | exact HB.out | apply below_alloc | apply pw_below_drewN | apply below_drew1) | exact HB.out))); (case aF => exact (fun _ _ => trivial)); (case aO => exact (by (with_reducible repeat (first | apply Kd.R_alloc | apply Kd.R_drewN | apply Kd.R_drew)); exact HO_3.out)); (case aS => exact (below_size (by repeat (first | (with_reducible first | exact HB.out | apply below_alloc | apply pw_below_drewN | apply below_drew1) | exact HB.out)))); (case aL => have := LMc45.out; omega); intro v257 w46 ho hb hg hat; rw [← Ny256.out] at ho; have n0_ := Aside0.mk (hb); have n1_ := Aside0.mk (ho); clear HB; clear HO_3; have HB := n0_; have HO258 := n1_; clear n0_ n1_; clear ho hb hg hat; have hcv47 := own_string (P := Tryd.prog) Tryd.underlying60 Tryd.underlying5 Tryd.underlying9 (Kd.own_of_R HO258.out)))
     go_ret
     exact ⟨by first | rfl | (simp [errW_none, errW_some] <;> rfl) | (simp [*, errW_none, errW_some] <;> rfl), by repeat (first | (with_reducible first | exact HB.out | apply below_alloc | apply pw_below_drewN | apply below_drew1) | exact HB.out)⟩
    ·
     rw [if_neg c45] at H
     exact absurd H (by simp)

end Go.Proofs.YtcdbnphhoihldaaDoor.X
/- Plain Lean: what the document's quoted, Unquote, Quote come to; the program's Unquote. -/
namespace Go.Proofs.YtcdbnphhoihldaaDoor.Quo
open Go.RowKit Go.Proofs.YtcdbnphhoihldaaDoor.X Go.Proofs.YtcdbnphhoihldaaDoor.Cal Go.Proofs.YtcdbnphhoihldaaDoor.Pure Go.Proofs.YtcdbnphhoihldaaDoorW.PrintWords Go.Proofs.YtcdbnphhoihldaaDoorW.PrintLast Go.Proofs.YtcdbnphhoihldaaDoorW.PrintMore
set_option linter.unusedVariables false
set_option linter.unusedSimpArgs false

theorem hex_ev (c : UInt8) : Ev (fun k => ambryref23_hex.f k (c.toNat : Int)) (vn c) :=
  Ev.of (fun k => ambryref23_hex.mono _ k) (k := 3) (all_u8 (p := fun c => ambryref23_hex.f 3 (c.toNat : Int) = some (vn c)) (by decide +kernel) c)
/-- The answer, with what has been read ahead; where it ends. -/
def rres (L : Nat) (acc : List UInt8) : Option (List UInt8 × List UInt8) → ByteArray × Int
  | some (x, r) => (X.bytes (acc ++ x), (L : Int) - (r.length : Int))
  | none => ((⟨#[]⟩ : ByteArray), -1)
theorem rres_map (L : Nat) (acc : List UInt8) (c : UInt8) (o : Option (List UInt8 × List UInt8)) : rres L acc (o.map fun z => (c :: z.1, z.2)) = rres L (acc ++ [c]) o := by
  cases o with
  | none => rfl
  | some z => simp [rres]
theorem rq_j3t (s : ByteArray) (x : List Int) (i : Int) : Ev (fun k => ambryref23_quoted.j3 k s x i true) ((⟨#[]⟩ : ByteArray), (-1 : Int)) :=
  Ev.step (f := fun _ => some _) (fun k => by simp [ambryref23_quoted.j3]) (Ev.now _)
theorem sum16' : ∀ a b : Fin 16, wrap64 (wrap64 (16 * (a.val : Int)) + (b.val : Int)) % 256 = 16 * a.val + b.val := by decide +kernel
theorem sum16 {a b : UInt8} (ha : a.toNat < 16) (hb : b.toNat < 16) : wrap64 (wrap64 (16 * (a.toNat : Int)) + (b.toNat : Int)) % 256 = ((16 * a + b).toNat : Int) := by
  have h := sum16' ⟨a.toNat, ha⟩ ⟨b.toNat, hb⟩
  simp only at h
  rw [h]
  have e : (16 * a + b).toNat = 16 * a.toNat + b.toNat := by
    rw [UInt8.toNat_add, UInt8.toNat_mul]
    have : (16 : UInt8).toNat = 16 := rfl
    rw [this]
    omega
  omega
theorem rq_l0 (s : List UInt8) (hs : s.length ≤ 1000000) : ∀ (n i : Nat) (acc : List UInt8), s.length ≤ n + i → i ≤ s.length → acc.length ≤ i →
    Ev (fun k => ambryref23_quoted.l0 k (X.bytes s) (nums acc) (i : Int)) (rres s.length acc (de (s.drop i))) := by
  have hsz : (((X.bytes s).size : Nat) : Int) = (s.length : Int) := rfl
  intro n
  induction n with
  | zero =>
    intro i acc h1 h2 h3
    rw [List.drop_eq_nil_of_le (by omega)]
    refine Ev.step (f := fun _ => some _) (fun k => ?_) (Ev.now _)
    rw [ambryref23_quoted.l0, hsz, if_neg (by omega)]
    rfl
  | succ n ih =>
    intro i acc h1 h2 h3
    by_cases hlt : i < s.length
    case neg =>
      rw [List.drop_eq_nil_of_le (by omega)]
      refine Ev.step (f := fun _ => some _) (fun k => ?_) (Ev.now _)
      rw [ambryref23_quoted.l0, hsz, if_neg (by omega)]
      rfl
    have hd : s.drop i = s[i] :: s.drop (i + 1) := List.drop_eq_getElem_cons hlt
    have hbt : bt (X.bytes s) (i : Int) = ((s[i]).toNat : Int) := bt_bytes s i hlt
    rw [hd]
    generalize s[i] = b at hbt
    have hnl : ∀ a : List UInt8, (nums a).length = a.length := nums_len
    have hw9 : i + 1 + 1 ≤ 1000000000 := by omega
    have hw8 : i + 3 + 1 ≤ 1000000000 := by omega
    have hw1 : i + 1 ≤ 1000000000 := by omega
    have hw2 : i + 2 ≤ 1000000000 := by omega
    have hw3 : i + 3 ≤ 1000000000 := by omega
    have f1 : s.length ≤ n + (i + 1) := by omega
    have f2 : i + 1 ≤ s.length := by omega
    have f3 : acc.length + 1 ≤ i + 1 := by omega
    have hl0 : ¬ i + 1 < s.length → ¬ (((i + 1 : Nat) : Int) < (s.length : Int)) ∧ ((i + 3 : Nat) : Int) ≥ (s.length : Int) ∧ s.length ≤ i + 1 := fun z => by omega
    have hl1 : i + 1 < s.length → ((i + 1 : Nat) : Int) < (s.length : Int) ∧ s.length ≤ n + (i + 2) ∧ i + 2 ≤ s.length ∧ acc.length + 1 ≤ i + 2 := fun z => by omega
    have hN : ¬ i + 3 < s.length → ((i + 3 : Nat) : Int) ≥ (s.length : Int) := fun z => by omega
    have hP : i + 3 < s.length → ((i + 2 : Nat) : Int) < (s.length : Int) ∧ ((i + 3 : Nat) : Int) < (s.length : Int) ∧ i + 2 < s.length ∧ s.length ≤ n + (i + 4) ∧ i + 4 ≤ s.length ∧ acc.length + 1 ≤ i + 4 ∧ ¬ (((i + 3 : Nat) : Int) ≥ (s.length : Int)) := fun z => by omega
    have hQ : ¬ i + 3 < s.length → i + 2 < s.length → s.length ≤ i + 2 + 1 := fun z _ => by omega
    have hR : ¬ i + 2 < s.length → s.length ≤ i + 2 := fun z => by omega
    have la : (nums acc).length < 140737488355328 := by rw [hnl]; omega
    have p0 : (0 : Int) ≤ (i : Int) := by omega
    have p1 : (0 : Int) ≤ ((i + 1 : Nat) : Int) := by omega
    have p2 : (0 : Int) ≤ ((i + 2 : Nat) : Int) := by omega
    have p3 : (0 : Int) ≤ ((i + 3 : Nat) : Int) := by omega
    have t0 : (i : Int) < (s.length : Int) := by omega
    have hend : ((i + 1 : Nat) : Int) = (s.length : Int) - ((s.drop (i + 1)).length : Int) := by rw [List.length_drop]; omega
    have w1 : wrap64 ((i : Int) + 1) = ((i + 1 : Nat) : Int) := w64n (b := 1) hw1
    have w2 : wrap64 ((i : Int) + 2) = ((i + 2 : Nat) : Int) := w64n (b := 2) hw2
    have w3 : wrap64 ((i : Int) + 3) = ((i + 3 : Nat) : Int) := w64n (b := 3) hw3
    have w2' : wrap64 (((i + 1 : Nat) : Int) + 1) = ((i + 2 : Nat) : Int) := w64n (a := i + 1) (b := 1) hw9
    have w4 : wrap64 (((i + 3 : Nat) : Int) + 1) = ((i + 4 : Nat) : Int) := w64n (a := i + 3) (b := 1) hw8
    by_cases h34 : b = 34
    · subst h34
      rw [de_34]
      refine Ev.step (f := fun _ => some _) (fun k => ?_) (Ev.now _)
      rw [ambryref23_quoted.l0, hsz, if_pos t0, if_pos p0, hbt, if_pos (by decide), w1, str_nums, hend]
      simp [rres]
    have n34 : ¬ ((b.toNat : Int) = 34) := fun z => h34 ((u8_eq (n := 34) (by decide)).1 z)
    by_cases h92 : b = 92
    case neg =>
      have n92 : ¬ ((b.toNat : Int) = 92) := fun z => h92 ((u8_eq (n := 92) (by decide)).1 z)
      have step1 : ∀ R, Ev (fun k => ambryref23_quoted.j2 k (X.bytes s) (nums acc) (i : Int) (b.toNat : Int) false) R → Ev (fun k => ambryref23_quoted.l0 k (X.bytes s) (nums acc) (i : Int)) R := by
        intro R hR
        refine Ev.step (fun k => ?_) hR
        rw [ambryref23_quoted.l0, hsz, if_pos t0, if_pos p0, hbt, if_neg n34, if_neg n92]
      refine step1 _ ?_
      by_cases ho : odd b = true
      · rw [de_odd _ h34 ho]
        refine Ev.step (f := fun _ => some _) (fun k => ?_) (Ev.now _)
        rw [ambryref23_quoted.j2, if_neg Bool.false_ne_true, if_neg n92]
        rcases (odd_iff b).1 ho with h | h
        · rw [if_pos h]
          rfl
        · rw [if_neg (by omega), if_pos h]
          rfl
      · have e := ih (i + 1) (acc ++ [b]) f1 f2 (by rw [List.length_append]; exact f3)
        have no := fun z => ho ((odd_iff b).2 z)
        rw [de_one _ h34 ho h92, rres_map]
        refine Ev.step (fun k => ?_) e
        rw [ambryref23_quoted.j2, if_neg Bool.false_ne_true, if_neg n92, if_neg (fun z => no (.inl z)), if_neg (fun z => no (.inr z)), if_pos la, w1, nums_one]
    have c92 : (b.toNat : Int) = 92 := by rw [h92]; rfl
    rw [h92]
    by_cases hl : i + 1 < s.length
    case neg =>
      obtain ⟨m1, m3, m4⟩ := hl0 hl
      rw [List.drop_eq_nil_of_le m4, de_92nil]
      refine Ev.step (fun k => ?_) (Ev.step (fun k => ?_) (rq_j3t (X.bytes s) (nums acc) i) : Ev (fun k => ambryref23_quoted.j2 k (X.bytes s) (nums acc) (i : Int) (b.toNat : Int) false) _)
      · rw [ambryref23_quoted.l0, hsz, if_pos t0, if_pos p0, hbt, if_neg n34, if_pos c92, w1, if_neg m1]
      · rw [ambryref23_quoted.j2, if_neg Bool.false_ne_true, if_pos c92, w3, hsz, if_pos m3]
    obtain ⟨t1, g1, g2, g3⟩ := hl1 hl
    have hd1 : s.drop (i + 1) = s[i + 1] :: s.drop (i + 2) := List.drop_eq_getElem_cons hl
    have hb1 : bt (X.bytes s) ((i + 1 : Nat) : Int) = ((s[i + 1]).toNat : Int) := bt_bytes s (i + 1) hl
    rw [hd1]
    clear hend hd1
    generalize s[i + 1] = d at hb1
    have step1 : ∀ R, Ev (fun k => ambryref23_quoted.j2 k (X.bytes s) (nums acc) (i : Int) (b.toNat : Int) (decide (d = 34 ∨ d = 92))) R → Ev (fun k => ambryref23_quoted.l0 k (X.bytes s) (nums acc) (i : Int)) R := by
      intro R hR
      refine Ev.step (fun k => ?_) hR
      rw [ambryref23_quoted.l0, hsz, if_pos t0, if_pos p0, hbt, if_neg n34, if_pos c92, w1, if_pos t1, if_pos p1, hb1]
      by_cases e34 : d = 34
      · subst e34
        rw [if_pos (by decide)]
        rfl
      · rw [if_neg (show ¬ ((d.toNat : Int) = 34) from fun z => e34 ((u8_eq (n := 34) (by decide)).1 z))]
        congr 1
        rw [Bool.eq_iff_iff]
        simp only [beq_iff_eq, decide_eq_true_eq, e34, false_or]
        exact u8_eq (n := 92) (by decide)
    refine step1 _ ?_
    by_cases hq : d = 34 ∨ d = 92
    · have e := ih (i + 2) (acc ++ [d]) g1 g2 (by rw [List.length_append]; exact g3)
      rw [de_92q _ hq, rres_map, decide_eq_true hq]
      refine Ev.step (fun k => ?_) e
      rw [ambryref23_quoted.j2, if_pos rfl, w1, hsz, if_pos p1, if_pos t1, if_pos la, hb1, w2', nums_one]
    rw [decide_eq_false hq]
    by_cases hl3 : i + 3 < s.length
    case neg =>
      have hN := hN hl3
      have e : de (92 :: d :: s.drop (i + 2)) = none := by
        by_cases hl2 : i + 2 < s.length
        · rw [List.drop_eq_getElem_cons hl2, List.drop_eq_nil_of_le (hQ hl3 hl2), de_92b hq]
        · rw [List.drop_eq_nil_of_le (hR hl2), de_92a hq]
      rw [e]
      refine Ev.step (fun k => ?_) (rq_j3t (X.bytes s) (nums acc) i)
      rw [ambryref23_quoted.j2, if_neg Bool.false_ne_true, if_pos c92, w3, hsz, if_pos hN]
    obtain ⟨t2, t3, hl2, g4, g5, g6, nt3⟩ := hP hl3
    clear hN hP hQ hR
    have hd2 : s.drop (i + 2) = s[i + 2] :: s.drop (i + 3) := List.drop_eq_getElem_cons hl2
    have hd3 : s.drop (i + 3) = s[i + 3] :: s.drop (i + 4) := List.drop_eq_getElem_cons hl3
    have hb2 : bt (X.bytes s) ((i + 2 : Nat) : Int) = ((s[i + 2]).toNat : Int) := bt_bytes s (i + 2) hl2
    have hb3 : bt (X.bytes s) ((i + 3 : Nat) : Int) = ((s[i + 3]).toNat : Int) := bt_bytes s (i + 3) hl3
    rw [hd2, hd3]
    generalize s[i + 2] = h at hb2
    generalize s[i + 3] = l at hb3
    by_cases h120 : d = 120
    case neg =>
      rw [de_92n _ hq (.inl h120)]
      refine Ev.step (fun k => ?_) (rq_j3t (X.bytes s) (nums acc) i)
      rw [ambryref23_quoted.j2, if_neg Bool.false_ne_true, if_pos c92, w3, hsz, if_neg nt3, w1, if_pos p1, if_pos t1, hb1, if_neg (show ¬ ((d.toNat : Int) = 120) from fun z => h120 ((u8_eq (n := 120) (by decide)).1 z))]
    have c120 : (d.toNat : Int) = 120 := by rw [h120]; rfl
    have step2 : ∀ R, Ev (fun k => if vn h < 0 then ambryref23_quoted.j3 k (X.bytes s) (nums acc) (i : Int) true else ambryref23_quoted.j3 k (X.bytes s) (nums acc) (i : Int) (decide (vn l < 0))) R → Ev (fun k => ambryref23_quoted.j2 k (X.bytes s) (nums acc) (i : Int) (b.toNat : Int) false) R := by
      intro R hR
      refine Ev.step (f := fun k => (ambryref23_hex.f k (h.toNat : Int)).bind fun t283 => if t283 < 0 then ambryref23_quoted.j3 k (X.bytes s) (nums acc) (i : Int) true else (ambryref23_hex.f k (l.toNat : Int)).bind fun t284 => ambryref23_quoted.j3 k (X.bytes s) (nums acc) (i : Int) (decide (t284 < 0))) (fun k => ?_) ?_
      · rw [ambryref23_quoted.j2, if_neg Bool.false_ne_true, if_pos c92, w3, hsz, if_neg nt3, w1, if_pos p1, if_pos t1, hb1, if_pos c120, w2, if_pos p2, if_pos t2, hb2, if_pos p3, if_pos t3, hb3]
      · refine Ev.bind (hex_ev h) ?_
        by_cases z : vn h < 0
        · simp only [z, if_true] at hR ⊢
          exact hR
        · simp only [z, if_false] at hR ⊢
          exact Ev.bind (hex_ev l) hR
    refine step2 _ ?_
    have vh := val_lt h
    have vl := val_lt l
    cases hvh : val h with
    | none =>
      have e : vn h = -1 := by unfold vn; rw [hvh]
      rw [de_92n _ hq (.inr (.inl hvh)), e]
      exact rq_j3t (X.bytes s) (nums acc) i
    | some a =>
      have ea : vn h = (a.toNat : Int) := by unfold vn; rw [hvh]
      have ha := vh a hvh
      have va : ¬ ((a.toNat : Int) < 0) := by have := Int.natCast_nonneg a.toNat; clear ih; omega
      rw [ea]
      simp only [va, if_false]
      cases hvl : val l with
      | none =>
        have e : vn l = -1 := by unfold vn; rw [hvl]
        rw [de_92n _ hq (.inr (.inr hvl)), e]
        exact rq_j3t (X.bytes s) (nums acc) i
      | some b' =>
        have eb : vn l = (b'.toNat : Int) := by unfold vn; rw [hvl]
        have hb' := vl b' hvl
        have vb : ¬ ((b'.toNat : Int) < 0) := by have := Int.natCast_nonneg b'.toNat; clear ih; omega
        rw [eb, decide_eq_false vb, h120, de_92x _ hvh hvl]
        have step3 : ∀ R, Ev (fun k => if ((16 * a + b').toNat : Int) ≥ 32 then (if ((16 * a + b').toNat : Int) < 127 then some ((⟨#[]⟩ : ByteArray), (-1 : Int)) else ambryref23_quoted.l0 k (X.bytes s) (nums (acc ++ [16 * a + b'])) ((i + 4 : Nat) : Int)) else ambryref23_quoted.l0 k (X.bytes s) (nums (acc ++ [16 * a + b'])) ((i + 4 : Nat) : Int)) R → Ev (fun k => ambryref23_quoted.j3 k (X.bytes s) (nums acc) (i : Int) false) R := by
          intro R hR
          refine Ev.step (f := fun k => (ambryref23_hex.f k (h.toNat : Int)).bind fun t285 => (ambryref23_hex.f k (l.toNat : Int)).bind fun t286 => (if ((wrap64 ((wrap64 (16 * t285)) + t286)) % 256) ≥ 32 then (if ((wrap64 ((wrap64 (16 * t285)) + t286)) % 256) < 127 then (some ((⟨#[]⟩ : ByteArray), (-1))) else ambryref23_quoted.l0 k (X.bytes s) (nums acc ++ [(wrap64 ((wrap64 (16 * t285)) + t286)) % 256]) ((i + 4 : Nat) : Int)) else ambryref23_quoted.l0 k (X.bytes s) (nums acc ++ [(wrap64 ((wrap64 (16 * t285)) + t286)) % 256]) ((i + 4 : Nat) : Int))) (fun k => ?_) ?_
          · rw [ambryref23_quoted.j3, if_neg Bool.false_ne_true, w2, hsz, if_pos p2, if_pos t2, hb2, w3, hb3, w4]
            simp only [p3, t3, la, if_true]
          · refine Ev.bind (hex_ev h) (Ev.bind (hex_ev l) ?_)
            rw [ea, eb, sum16 ha hb', ← nums_one]
            exact hR
        refine step3 _ ?_
        by_cases hod : odd (16 * a + b') = true
        · have e := ih (i + 4) (acc ++ [16 * a + b']) g4 g5 (by rw [List.length_append]; exact g6)
          rw [if_pos hod, rres_map]
          rcases (odd_iff _).1 hod with z | z
          · have z' : ¬ (((16 * a + b').toNat : Int) ≥ 32) := by clear ih e; omega
            simp only [z', if_false]
            exact e
          · have z' : ((16 * a + b').toNat : Int) ≥ 32 := by clear ih e; omega
            have z2 : ¬ (((16 * a + b').toNat : Int) < 127) := by clear ih e; omega
            simp only [z', z2, if_true, if_false]
            exact e
        · rw [if_neg hod]
          have no := fun z => hod ((odd_iff _).2 z)
          have z' : ((16 * a + b').toNat : Int) ≥ 32 := Int.not_lt.1 (fun z => no (.inl z))
          have z2 : ((16 * a + b').toNat : Int) < 127 := Int.not_le.1 (fun z => no (.inr z))
          simp only [z', z2, if_true]
          exact Ev.now _
/-- 'quoted' from the text's head. -/
def rqres (s : List UInt8) : ByteArray × Int := match s with | 34 :: r => rres s.length [] (de r) | _ => ((⟨#[]⟩ : ByteArray), -1)
theorem rq_j0t (s : ByteArray) (i : Int) : Ev (fun k => ambryref23_quoted.j0 k s i true) ((⟨#[]⟩ : ByteArray), (-1 : Int)) :=
  Ev.step (f := fun _ => some _) (fun k => by simp [ambryref23_quoted.j0]) (Ev.now _)
theorem rq_ev (s : List UInt8) (hs : s.length ≤ 1000000) : Ev (fun k => ambryref23_quoted.f k (X.bytes s) 0) (rqres s) := by
  unfold ambryref23_quoted.f
  have hsz : (((X.bytes s).size : Nat) : Int) = (s.length : Int) := rfl
  cases s with
  | nil => exact rq_j0t _ _
  | cons c r =>
    have hbt : bt (X.bytes (c :: r)) 0 = (c.toNat : Int) := bt_bytes (c :: r) 0 (by simp)
    have hp : ¬ ((0 : Int) ≥ (((X.bytes (c :: r)).size : Nat) : Int)) := by rw [hsz, List.length_cons]; omega
    have hp2 : (0 : Int) < (((X.bytes (c :: r)).size : Nat) : Int) := by rw [hsz, List.length_cons]; omega
    have hp3 : (0 : Int) ≤ 0 := Int.le_refl _
    simp only [hp, hp2, hp3, if_true, if_false, hbt]
    by_cases hc : c = 34
    · subst hc
      have e := rq_l0 (34 :: r) hs (34 :: r).length 1 [] (by omega) (by simp) (by simp)
      refine Ev.step (fun k => ?_) e
      have w01 : wrap64 ((0 : Int) + 1) = ((1 : Nat) : Int) := w64n (a := 0) (b := 1) (by decide)
      rw [ambryref23_quoted.j0, if_neg (by decide), w01]
      rfl
    · have e : (((c.toNat : Int)) != 34) = true := bne_iff_ne.2 (fun z => hc ((u8_eq (n := 34) (by decide)).1 z))
      rw [e]
      have q : rqres (c :: r) = ((⟨#[]⟩ : ByteArray), -1) := by
        unfold rqres
        split
        · rename_i h
          exact absurd (List.cons.inj h).1 hc
        · rfl
      rw [q]
      exact rq_j0t _ _
/-- The two Unquotes. -/
def ures (s : List UInt8) : ByteArray × Bool := (X.bytes (unq s).1, (unq s).2)
theorem unq_34 (r : List UInt8) : unq (34 :: r) = match de r with | some (x, []) => (x, true) | _ => ([], false) := rfl
theorem unq_no (s : List UInt8) (h : ∀ r, s ≠ 34 :: r) : unq s = ([], false) := by
  unfold unq
  split
  · rename_i r
    exact absurd rfl (h r)
  · rfl
theorem lu_ev (s : List UInt8) (hs : s.length ≤ 1000000) : Ev (fun k => line_Unquote.f k (X.bytes s)) (ures s) := by
  unfold line_Unquote.f
  refine Ev.bind (lq_ev s hs) ?_
  unfold ures
  by_cases h : ∃ r, s = 34 :: r
  · obtain ⟨r, rfl⟩ := h
    rw [unq_34, show qres (34 :: r) = res [] (de r) from rfl]
    cases hd : de r with
    | none => exact Ev.now _
    | some z =>
      obtain ⟨x, q⟩ := z
      cases q with
      | nil =>
        simp only [res, bytes_toList, if_true, List.nil_append]
        exact Ev.now _
      | cons c q =>
        simp only [res, bytes_toList, if_true, reduceCtorEq, if_false, List.nil_append]
        exact Ev.now _
  · have hn : ∀ r, s ≠ 34 :: r := fun r e => h ⟨r, e⟩
    rw [unq_no s hn]
    have q : qres s = ((⟨#[]⟩ : ByteArray), (⟨#[]⟩ : ByteArray), false) := by
      unfold qres
      split
      · rename_i r
        exact absurd rfl (hn r)
      · rfl
    rw [q]
    exact Ev.now _
theorem ru_ev (s : List UInt8) (hs : s.length ≤ 1000000) : Ev (fun k => ambryref23_Unquote.f k (X.bytes s)) (ures s) := by
  have hsz : (((X.bytes s).size : Nat) : Int) = (s.length : Int) := rfl
  unfold ambryref23_Unquote.f
  refine Ev.bind (rq_ev s hs) ?_
  unfold ures
  by_cases h : ∃ r, s = 34 :: r
  · obtain ⟨r, rfl⟩ := h
    rw [unq_34, show rqres (34 :: r) = rres (34 :: r).length [] (de r) from rfl]
    cases hd : de r with
    | none =>
      have e : ((-1 : Int) = ((34 :: r).length : Int)) = False := eq_false (by rw [List.length_cons]; omega)
      have e' : ((-1 : Int) != ((34 :: r).length : Int)) = true := bne_iff_ne.2 (by rw [List.length_cons]; omega)
      simp only [rres, hsz, ne_eq, e, e', not_false_eq_true, if_true, if_false]
      exact Ev.now _
    | some z =>
      obtain ⟨x, q⟩ := z
      cases q with
      | nil =>
        have e : (((34 :: r).length : Int) - ((([] : List UInt8).length : Nat) : Int) = ((34 :: r).length : Int)) = True := eq_true (by rw [List.length_nil]; omega)
        simp only [rres, hsz, ne_eq, e, not_true_eq_false, if_true, if_false, List.nil_append]
        exact Ev.now _
      | cons c q =>
        have e : (((34 :: r).length : Int) - (((c :: q).length : Nat) : Int) = ((34 :: r).length : Int)) = False := eq_false (by rw [List.length_cons, List.length_cons]; omega)
        simp only [rres, hsz, ne_eq, e, not_false_eq_true, if_true, if_false, List.nil_append]
        exact Ev.now _
  · have hn : ∀ r, s ≠ 34 :: r := fun r e => h ⟨r, e⟩
    rw [unq_no s hn]
    have q : rqres s = ((⟨#[]⟩ : ByteArray), -1) := by
      unfold rqres
      split
      · rename_i r
        exact absurd rfl (hn r)
      · rfl
    have e : ((-1 : Int) = (s.length : Int)) = False := eq_false (by omega)
    rw [q]
    simp only [hsz, ne_eq, e, not_false_eq_true, if_true, if_false]
    exact Ev.now _
end Go.Proofs.YtcdbnphhoihldaaDoor.Quo
/- Plain Lean: what the document's Quote comes to. -/
namespace Go.Proofs.YtcdbnphhoihldaaDoor.Quo
open Go.RowKit Go.Proofs.YtcdbnphhoihldaaDoor.X Go.Proofs.YtcdbnphhoihldaaDoor.Cal Go.Proofs.YtcdbnphhoihldaaDoor.Pure Go.Proofs.YtcdbnphhoihldaaDoorW.PrintWords Go.Proofs.YtcdbnphhoihldaaDoorW.PrintLast Go.Proofs.YtcdbnphhoihldaaDoorW.PrintMore
set_option linter.unusedVariables false
set_option linter.unusedSimpArgs false

theorem rQuote_l0 (s : List UInt8) (hs : s.length ≤ 1000000) (c : Nat) : ∀ (i : Nat) (acc : List UInt8), i + c = s.length → acc.length + 4 * c + 10 < 140737488355328 →
    Ev (fun k => ambryref23_Quote.l0 k (X.bytes s) (nums acc) (i : Int)) (X.bytes (acc ++ (s.drop i).flatMap enc ++ [34])) := by
  have hsz : (((X.bytes s).size : Nat) : Int) = (s.length : Int) := rfl
  induction c with
  | zero =>
    intro i acc hi ha
    have e : s.drop i = [] := List.drop_eq_nil_of_le (by omega)
    rw [e, List.flatMap_nil, List.append_nil]
    refine Ev.step (f := fun _ => some _) (fun k => ?_) (Ev.now _)
    rw [ambryref23_Quote.l0, hsz, if_neg (by omega), if_pos (by rw [nums_len]; omega), ← str_nums, nums_app]
    rfl
  | succ c ih =>
    intro i acc hi ha
    have hlt : i < s.length := by omega
    have hd : s.drop i = s[i] :: s.drop (i + 1) := List.drop_eq_getElem_cons hlt
    have hbt : bt (X.bytes s) (i : Int) = ((s[i]).toNat : Int) := bt_bytes s i hlt
    rw [hd, List.flatMap_cons]
    generalize s[i] = b at hbt
    have hb := b.toNat_lt
    have t0 : (i : Int) < (s.length : Int) := by omega
    have p0 : (0 : Int) ≤ (i : Int) := by omega
    have l1 : (nums acc).length + 1 < 140737488355328 := by rw [nums_len]; omega
    have l0 : (nums acc).length < 140737488355328 := by rw [nums_len]; omega
    have l2 : (nums acc).length + 2 < 140737488355328 := by rw [nums_len]; omega
    have l4 : (nums acc).length + 4 < 140737488355328 := by rw [nums_len]; omega
    have d0 : 0 ≤ (b.toNat : Int) / 16 := by omega
    have d1 : (b.toNat : Int) / 16 < 16 := by omega
    have d2 : 0 ≤ (b.toNat : Int) % 16 := by omega
    have d3 : (b.toNat : Int) % 16 < 16 := by omega
    have hw : wrap64 ((i : Int) + 1) = ((i + 1 : Nat) : Int) := w64n (b := 1) (by omega)
    have hel := enc_len b
    have ih' := ih (i + 1) (acc ++ enc b) (by omega) (by rw [List.length_append]; omega)
    rw [nums_app] at ih'
    have step1 : ∀ R, Ev (fun k => ambryref23_Quote.j1 k (X.bytes s) (nums acc) (i : Int) (b.toNat : Int) (decide (b = 34 ∨ b = 92))) R → Ev (fun k => ambryref23_Quote.l0 k (X.bytes s) (nums acc) (i : Int)) R := by
      intro R hR
      refine Ev.step (fun k => ?_) hR
      rw [ambryref23_Quote.l0, hsz, if_pos t0, if_pos p0, hbt]
      by_cases h34 : b = 34
      · subst h34
        rw [if_pos (by decide)]
        rfl
      · rw [if_neg (show ¬ ((b.toNat : Int) = 34) from fun z => h34 ((u8_eq (n := 34) (by decide)).1 z))]
        congr 1
        rw [Bool.eq_iff_iff]
        simp only [beq_iff_eq, decide_eq_true_eq, h34, false_or]
        exact u8_eq (n := 92) (by decide)
    rw [show acc ++ (enc b ++ (s.drop (i + 1)).flatMap enc) ++ [34] = acc ++ enc b ++ (s.drop (i + 1)).flatMap enc ++ [34] by simp]
    refine step1 _ (Ev.step (fun k => ?_) ih')
    by_cases hq : b = 34 ∨ b = 92
    · rw [ambryref23_Quote.j1, if_pos (decide_eq_true hq), Option.bind_some]
      show (if (nums acc).length + 2 < 140737488355328 then _ else none) = _
      rw [if_pos l2, hw, enc_q hq]
    · rw [ambryref23_Quote.j1, if_neg (by simpa using hq)]
      by_cases ho : odd b = true
      · rw [enc_o hq ho, and15]
        rcases (odd_iff b).1 ho with h | h
        · rw [if_pos h, if_pos d0, if_pos d1, if_pos d2, if_pos d3, Option.bind_some]
          show (if (nums acc).length + 4 < 140737488355328 then _ else none) = _
          rw [if_pos l4, hw]
          rfl
        · have h' : ¬ ((b.toNat : Int) < 32) := by clear ih ih' hel; omega
          rw [if_neg h', if_pos h, if_pos d0, if_pos d1, if_pos d2, if_pos d3, Option.bind_some]
          show (if (nums acc).length + 4 < 140737488355328 then _ else none) = _
          rw [if_pos l4, hw]
          rfl
      · have no := fun z => ho ((odd_iff b).2 z)
        rw [if_neg (fun z => no (.inl z)), if_neg (fun z => no (.inr z)), if_pos l0, hw, enc_p hq ho]
theorem rQuote_ev (s : List UInt8) (hs : s.length ≤ 1000000) : Ev (fun k => ambryref23_Quote.f k (X.bytes s)) (X.bytes (quote s)) := by
  have := rQuote_l0 s hs s.length 0 [34] (by omega) (by simp; omega)
  rw [List.drop_zero] at this
  exact this
end Go.Proofs.YtcdbnphhoihldaaDoor.Quo
/- The law LineQuotes, walked by hand. -/
namespace Go.Proofs.YtcdbnphhoihldaaDoor.Pure
open Go.RowKit Go.Proofs.YtcdbnphhoihldaaDoor.X Go.Proofs.YtcdbnphhoihldaaDoor.Cal Go.Proofs.YtcdbnphhoihldaaDoor.Quo Go.Proofs.YtcdbnphhoihldaaDoor.Line Go.Proofs.YtcdbnphhoihldaaDoorW.PrintWords Go.Proofs.YtcdbnphhoihldaaDoorW.PrintLast Go.Proofs.YtcdbnphhoihldaaDoorW.PrintMore
attribute [local go_sem] max2_int min2_int max_two min_two max_three min_three max_four min_four
set_option linter.unusedVariables false
set_option linter.unusedSimpArgs false

set_option maxRecDepth 100000 in
set_option maxHeartbeats 8000000 in
/-- The law's own walk: true for every input. -/
theorem LineQuotes_walk (a0 : ByteArray) (a1 : ByteArray) (w : World) (hG : GL w) (w0 : a0.size ≤ 140737488351232) (w1 : a1.size ≤ 140737488351232) :
    Calls Tryd.prog 5 #[.string a0, .string a1] w fun e w' => e = .returned (.bool true) ∧ Below w.heap.size w w' := by
  have C0 := Lib.hid (known_any w hG)
  by_cases h0 : a0.size ≤ 300
  case neg =>
    have d0 : decide ((a0.size : Int) > 300) = true := decide_eq_true (by omega)
    clear h0 w0 w1
    go_enter Tryd.func5, Tryd.ntmps5
    go_wp2_with fail
    refine C0.out.mono ?_
    rintro e v1 ⟨rfl, hb⟩
    have HB := Lib.hid hb
    clear hb
    go_wp2_with fail
    go_ret
    exact ⟨rfl, HB.out⟩
  by_cases h1 : a1.size ≤ 300
  case neg =>
    have d0 : decide ((a0.size : Int) > 300) = false := decide_eq_false (by omega)
    have d1 : decide ((a1.size : Int) > 300) = true := decide_eq_true (by omega)
    clear h0 h1 w0 w1
    go_enter Tryd.func5, Tryd.ntmps5
    go_wp2_with fail
    refine C0.out.mono ?_
    rintro e v1 ⟨rfl, hb⟩
    have HB := Lib.hid hb
    clear hb
    go_wp2_with fail
    go_ret
    exact ⟨rfl, HB.out⟩
  have d0 : decide ((a0.size : Int) > 300) = false := decide_eq_false (by omega)
  have d1 : decide ((a1.size : Int) > 300) = false := decide_eq_false (by omega)
  have s0 : a0.data.toList.length ≤ 300 := by rw [Array.length_toList]; exact h0
  have s1 : a1.data.toList.length ≤ 300 := by rw [Array.length_toList]; exact h1
  have hql := quote_len a0.data.toList
  have C1 := Lib.hid (fun W => quote_any a0 (by omega) W)
  have C2 : ∀ W, Calls Tryd.prog 16 #[.string (X.bytes (quote a0.data.toList))] W fun e w' => e = .returned (.tuple #[.string a0, .bool true]) ∧ Below W.heap.size W w' := by
    obtain ⟨k, hk⟩ := lu_ev (quote a0.data.toList) (by omega)
    have h := hk k (Nat.le_refl _)
    have e : ures (quote a0.data.toList) = (a0, true) := by
      unfold ures
      rw [unq_quote, ← eq_bytes]
    rw [e] at h
    exact fun W => line_Unquote.calls k _ _ _ W h
  have C3 : ∀ W, Calls Tryd.prog 16 #[.string a1] W fun e w' => e = .returned (.tuple #[.string (ures a1.data.toList).1, .bool (ures a1.data.toList).2]) ∧ Below W.heap.size W w' := by
    obtain ⟨k, hk⟩ := lu_ev a1.data.toList (by omega)
    have h := hk k (Nat.le_refl _)
    rw [← eq_bytes] at h
    exact fun W => line_Unquote.calls k _ _ _ W h
  have C4 : ∀ W, Calls Tryd.prog 17 #[.string a1] W fun e w' => e = .returned (.tuple #[.string (ures a1.data.toList).1, .bool (ures a1.data.toList).2]) ∧ Below W.heap.size W w' := by
    obtain ⟨k, hk⟩ := ru_ev a1.data.toList (by omega)
    have h := hk k (Nat.le_refl _)
    rw [← eq_bytes] at h
    exact fun W => ambryref23_Unquote.calls k _ _ _ W h
  have C5 : ∀ W, Calls Tryd.prog 18 #[.string a0] W fun e w' => e = .returned (.string (X.bytes (quote a0.data.toList))) ∧ Below W.heap.size W w' := by
    obtain ⟨k, hk⟩ := rQuote_ev a0.data.toList (by omega)
    have h := hk k (Nat.le_refl _)
    rw [← eq_bytes] at h
    exact fun W => ambryref23_Quote.calls k _ _ W h
  have C2 := Lib.hid C2
  have C3 := Lib.hid C3
  have C4 := Lib.hid C4
  have C5 := Lib.hid C5
  obtain ⟨Q, hQ⟩ : ∃ Q, X.bytes (quote a0.data.toList) = Q := ⟨_, rfl⟩
  have hz : ∀ i : Nat, i < Q.size → ∃ z : Int, (∀ h : i < Q.size, ((Q[i]'h).toNat : Int) = z) ∧ decide (z < 32) = false ∧ decide (z > 126) = false := by
    intro i hi
    refine ⟨((Q[i]'hi).toNat : Int), fun _ => rfl, ?_⟩
    subst hQ
    have hm := quote_ok a0.data.toList ((quote a0.data.toList)[i]'hi) (List.getElem_mem hi)
    have e : (X.bytes (quote a0.data.toList))[i]'hi = (quote a0.data.toList)[i]'hi := rfl
    rw [e]
    obtain ⟨m1, m2⟩ := hm
    have m1 := UInt8.le_iff_toNat_le.1 m1
    have m2 := UInt8.le_iff_toNat_le.1 m2
    have e1 : (32 : UInt8).toNat = 32 := rfl
    have e2 : (126 : UInt8).toNat = 126 := rfl
    exact ⟨decide_eq_false (by omega), decide_eq_false (by omega)⟩
  have hsz : Q.size ≤ 1300 := by
    have : Q.size = (quote a0.data.toList).length := by rw [← hQ]; rfl
    omega
  have HZ := Lib.hid hz
  rw [hQ] at C1 C2 C5
  obtain ⟨U, hU⟩ : ∃ U, (ures a1.data.toList).1 = U := ⟨_, rfl⟩
  obtain ⟨B, hB⟩ : ∃ B, (ures a1.data.toList).2 = B := ⟨_, rfl⟩
  rw [hU, hB] at C3 C4
  clear hU hB hQ hz hql s0 s1 h0 h1 w0 w1
  go_enter Tryd.func5, Tryd.ntmps5
  go_wp2_with fail
  refine C0.out.mono ?_
  rintro e v1 ⟨rfl, hb⟩
  have HB := Lib.hid hb
  clear hb
  go_wp2_with fail
  refine (C1.out _).mono ?_
  rintro e v2 ⟨rfl, hb⟩
  have HB := Lib.hid (below_then HB.out hb)
  clear hb
  go_wp2_with fail
  refine (C2.out _).mono ?_
  rintro e v3 ⟨rfl, hb⟩
  have HB := Lib.hid (below_then HB.out hb)
  clear hb
  go_wp2_with fail
  refine (C3.out _).mono ?_
  rintro e v4 ⟨rfl, hb⟩
  have HB := Lib.hid (below_then HB.out hb)
  clear hb
  go_wp2_with fail
  refine (C4.out _).mono ?_
  rintro e v5 ⟨rfl, hb⟩
  have HB := Lib.hid (below_then HB.out hb)
  clear hb
  go_wp2_with fail
  go_loopg [12] Q.size (fun kq v12 w' => ∃ (i : Nat), v12 = .int .i64 (i : Int) ∧ Aside0 (kq + i = Q.size) ∧ w' = v5)
  case atStart => exact ⟨0, rfl, ⟨rfl⟩, rfl⟩
  case round => as_aux_lemma =>
    obtain ⟨i, rfl, HI, rfl⟩ := hrel
    cases gk with
    | zero =>
      have hi := HI.out
      have e : i = Q.size := by omega
      have d2 : decide ((i : Int) < (Q.size : Int)) = false := decide_eq_false (by omega)
      have d3 : decide (i < Q.size) = false := decide_eq_false (by omega)
      clear hi HI e HZ
      go_wp2_with fail
      refine (C5.out _).mono ?_
      rintro e v6 ⟨rfl, hb⟩
      have HB := Lib.hid (below_then HB.out hb)
      clear hb
      go_wp2_with fail
      go_ret
      exact ⟨rfl, HB.out⟩
    | succ k1 =>
      have hi := HI.out
      have hlt : i < Q.size := by omega
      obtain ⟨z, hx, z0, z1⟩ := HZ.out i hlt
      have d2 : decide ((i : Int) < (Q.size : Int)) = true := decide_eq_true (by omega)
      have d3 : decide (i < Q.size) = true := decide_eq_true (by omega)
      have q0 : (0 : Int) ≤ (i : Int) := by omega
      have q1 : (i : Int) < (Q.size : Int) := by omega
      have hwi : wrap64 ((i : Int) + 1) = ((i + 1 : Nat) : Int) := X.wr (x := (i : Int) + 1) (by omega) (by omega)
      have HI1 := Lib.hid (show k1 + (i + 1) = Q.size by omega)
      clear hi HI
      go_wp2_with fail
      go_roundg k1
      case measure => omega
      case rel => exact ⟨i + 1, by first | rw [hwi] | simp, ⟨HI1.out⟩, rfl⟩
end Go.Proofs.YtcdbnphhoihldaaDoor.Pure
/- The wrap with what the row lists and the world's shape, both. -/
namespace Go.Proofs.YtcdbnphhoihldaaDoor.X
open Go
variable {H : Type} {enc : TypeId × Value → H}
theorem handed_and_shaped {a : Assume} {C : Checked} {os : Os} {f : FuncId} {fn : Func} {s : ChangeSpec} {conds : List PathCond} {apart fresh handsOn again : Bool} {X : World → Array Value → Prop}
    (hX : ∀ (w w' : World) (args : Array Value), w.heap = w'.heap → X w args → X w' args)
    (own : ownKnob C.prog.godebug = none) (started : os.Started) (noInit : C.prog.inits.idxOf? f = none) (hfn : C.prog.funcs[f]? = some fn)
    (witness : ∃ (w : World) (tape : Tape) (i : Input), w.os = os ∧ (w.forCall tape i).Shaped C.prog ∧ i.vars = [] ∧ Input.okWide C.prog (w.forCall tape i) .any w.heap.size f i ∧
      ((s.pre enc C.prog fn conds apart (w.forCall tape i).memory i.args ∧ X (w.forCall tape i).memory i.args) ∧ sizedMet enc C.prog fn (OpenSpec.ofChange s) apart (w.forCall tape i).memory i.args) ∧ a.holds C.prog (lone (Frame.enter C.prog f i.args .normal) [] (w.forCall tape i)))
    (contract : ∀ (W : World) (base : Nat) (args : Array Value) (ds gs : List (DataW H)) (before : List MemPlace),
      (∀ (j : Nat) t v, fn.params[j]? = some t → args[j]? = some v → Value.okWide C.prog W .any base t v) →
      DataW.Whole enc C.prog fn.params.toList s.vars apart W args.toList ds gs before →
      conds.all (PathCond.test C.prog ⟨fn.params.toList, ds, s.plain.varTypes C.prog, gs⟩) = true →
      (DataW.weightsEach C.prog (fn.params.toList ++ s.plain.varTypes C.prog) (ds ++ gs)).all (· ≤ reachBytes) = true → X W args → W.ShapedOpen C.prog →
      Calls C.prog f args W fun e W' => ∃ v, e = .returned v ∧ s.post enc C.prog fn apart fresh handsOn again W args v W') :
    ReturnsInHanded a C os f .any (fun w args => (s.pre enc C.prog fn conds apart w args ∧ X w args) ∧ sizedMet enc C.prog fn (OpenSpec.ofChange s) apart w args) (s.post enc C.prog fn apart fresh handsOn again) := by
  refine returnsInHanded_of_calls own started noInit witness ?_
  intro w tape i _ hsh _ hok hpre _
  obtain ⟨_, _, _, fn', hfn', _, _, _, _, hval⟩ := hok
  have e : fn' = fn := Option.some.inj (hfn'.symm.trans hfn)
  subst e
  obtain ⟨⟨⟨ds, gs, before, hw, hc⟩, hx⟩, hz⟩ := hpre
  refine (contract (w.forCall tape i) w.heap.size i.args ds gs before hval (DataW.Whole.of_heap (w' := w.forCall tape i) (by rfl) hw) hc (hz.weights hw) (hX _ _ _ (by rfl) hx) hsh).mono ?_
  rintro _ W' ⟨v, rfl, hp⟩
  exact ChangeSpec.post_blind hp
end Go.Proofs.YtcdbnphhoihldaaDoor.X
