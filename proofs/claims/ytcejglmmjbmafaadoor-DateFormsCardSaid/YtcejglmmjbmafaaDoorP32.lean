/- DateForms: the law's own walk, with what is known of its parts decided ahead (the regions that draw are the print's; see wip/gen_forms.py). -/
import Derived.Test.YtcejglmmjbmafaaDoorP31
import Derived.Test.YtcejglmmjbmafaaDoorP27
namespace Go.Proofs.YtcejglmmjbmafaaDoor.Pure
open Go.RowKit Go.Proofs.YtcejglmmjbmafaaDoor.X Go.Proofs.YtcejglmmjbmafaaDoor.Cal Go.Proofs.YtcejglmmjbmafaaDoorW.PrintWords Go.Proofs.YtcejglmmjbmafaaDoorW.PrintLast Go.Proofs.YtcejglmmjbmafaaDoorW.PrintMore
set_option linter.unusedVariables false
set_option linter.unusedSimpArgs false

def FrmW.T14 : Bool × List (List Nat × List Nat) := (true, [([], []), ([], []), ([0, 1], [0, 1]), ([2], [2]), ([], []), ([4], [4]), ([3, 5], [3, 5]), ([6], [6]), ([7], [7]), ([8], [8]), ([8], [8]), ([9, 7, 0, 1, 2, 3, 4, 5, 6, 7, 8, 9], [9]), ([10, 11, 0, 1, 2, 3, 4, 5, 6, 7, 8, 9, 10, 11], [10])])
def FrmW.B14 : List Nat := [0, 0, 3, 7, 0, 16, 63, 127, 255, 511, 511, 1023, 4095]
theorem FrmW.tab14 : rtab .any (opsOf Tryd.f5 14) = FrmW.T14 := by kernel_rfl
theorem FrmW.bits14 : waitsOk FrmW.T14.2 FrmW.B14 = true := by kernel_rfl
def FrmW.T15 : Bool × List (List Nat × List Nat) := (true, [([], []), ([], []), ([0, 1], [0, 1]), ([2], [2]), ([3], [3]), ([], []), ([5], [5]), ([4, 6], [4, 6]), ([7], [7]), ([], []), ([8, 9], [8, 9]), ([10], [10]), ([], []), ([12], [12]), ([11, 13], [11, 13]), ([14], [14]), ([], []), ([16], [16]), ([15, 17], [15, 17]), ([18], [18]), ([19], [19]), ([20], [20]), ([20], [20]), ([21, 19, 0, 1, 2, 3, 4, 5, 6, 7, 8, 9, 10, 11, 12, 13, 14, 15, 16, 17, 18, 19, 20, 21], [21]), ([22, 23, 0, 1, 2, 3, 4, 5, 6, 7, 8, 9, 10, 11, 12, 13, 14, 15, 16, 17, 18, 19, 20, 21, 22, 23], [22])])
def FrmW.B15 : List Nat := [0, 0, 3, 7, 15, 0, 32, 127, 255, 0, 1023, 2047, 0, 4096, 16383, 32767, 0, 65536, 262143, 524287, 1048575, 2097151, 2097151, 4194303, 16777215]
theorem FrmW.tab15 : rtab .any (opsOf Tryd.f5 15) = FrmW.T15 := by kernel_rfl
theorem FrmW.bits15 : waitsOk FrmW.T15.2 FrmW.B15 = true := by kernel_rfl
def FrmW.T22 : Bool × List (List Nat × List Nat) := (true, [([], []), ([], []), ([0, 1], [0, 1]), ([2], [2]), ([3], [3]), ([], []), ([5], [5]), ([4, 6], [4, 6]), ([7], [7]), ([], []), ([9], [9]), ([8, 10], [8, 10]), ([11], [11]), ([], []), ([13], [13]), ([12, 14], [12, 14]), ([15], [15]), ([], []), ([17], [17]), ([16, 18], [16, 18]), ([19], [19]), ([20], [20]), ([21], [21]), ([22], [22]), ([22], [22]), ([23, 21, 0, 1, 2, 3, 4, 5, 6, 7, 8, 9, 10, 11, 12, 13, 14, 15, 16, 17, 18, 19, 20, 21, 22, 23], [23]), ([24, 25, 0, 1, 2, 3, 4, 5, 6, 7, 8, 9, 10, 11, 12, 13, 14, 15, 16, 17, 18, 19, 20, 21, 22, 23, 24, 25], [24])])
def FrmW.B22 : List Nat := [0, 0, 3, 7, 15, 0, 32, 127, 255, 0, 512, 2047, 4095, 0, 8192, 32767, 65535, 0, 131072, 524287, 1048575, 2097151, 4194303, 8388607, 8388607, 16777215, 67108863]
theorem FrmW.tab22 : rtab .any (opsOf Tryd.f5 22) = FrmW.T22 := by kernel_rfl
theorem FrmW.bits22 : waitsOk FrmW.T22.2 FrmW.B22 = true := by kernel_rfl
set_option maxRecDepth 100000 in
theorem lit_l (a : Act) (W : World) : (execOp a.eval { dst := some 28, op := Op.buildSlice 31 7 #[(0, Operand.const (Value.string { data := #[83, 117, 110, 100, 97, 121] })), (1, Operand.const (Value.string { data := #[77, 111, 110, 100, 97, 121] })), (2, Operand.const (Value.string { data := #[84, 117, 101, 115, 100, 97, 121] })), (3, Operand.const (Value.string { data := #[87, 101, 100, 110, 101, 115, 100, 97, 121] })), (4, Operand.const (Value.string { data := #[84, 104, 117, 114, 115, 100, 97, 121] })), (5, Operand.const (Value.string { data := #[70, 114, 105, 100, 97, 121] })), (6, Operand.const (Value.string { data := #[83, 97, 116, 117, 114, 100, 97, 121] }))], type := 31, pos := "law.go:55", after := #[], guard := none }).run Tryd.prog W =
    .ok (.value (.slice (some ⟨W.heap.size, 0, none⟩) 7 7)) (W.alloc (.cells #[Value.string { data := #[83, 117, 110, 100, 97, 121] }, Value.string { data := #[77, 111, 110, 100, 97, 121] }, Value.string { data := #[84, 117, 101, 115, 100, 97, 121] }, Value.string { data := #[87, 101, 100, 110, 101, 115, 100, 97, 121] }, Value.string { data := #[84, 104, 117, 114, 115, 100, 97, 121] }, Value.string { data := #[70, 114, 105, 100, 97, 121] }, Value.string { data := #[83, 97, 116, 117, 114, 100, 97, 121] }] 9)) := by
  first | (go_simp; done) | (go_simp; rfl)
set_option maxRecDepth 100000 in
theorem lit_s (a : Act) (W : World) : (execOp a.eval { dst := some 29, op := Op.buildSlice 31 7 #[(0, Operand.const (Value.string { data := #[83, 117, 110] })), (1, Operand.const (Value.string { data := #[77, 111, 110] })), (2, Operand.const (Value.string { data := #[84, 117, 101] })), (3, Operand.const (Value.string { data := #[87, 101, 100] })), (4, Operand.const (Value.string { data := #[84, 104, 117] })), (5, Operand.const (Value.string { data := #[70, 114, 105] })), (6, Operand.const (Value.string { data := #[83, 97, 116] }))], type := 31, pos := "law.go:56", after := #[], guard := none }).run Tryd.prog W =
    .ok (.value (.slice (some ⟨W.heap.size, 0, none⟩) 7 7)) (W.alloc (.cells #[Value.string { data := #[83, 117, 110] }, Value.string { data := #[77, 111, 110] }, Value.string { data := #[84, 117, 101] }, Value.string { data := #[87, 101, 100] }, Value.string { data := #[84, 104, 117] }, Value.string { data := #[70, 114, 105] }, Value.string { data := #[83, 97, 116] }] 9)) := by
  first | (go_simp; done) | (go_simp; rfl)
def LOL : List ByteArray := [(⟨#[83, 117, 110, 100, 97, 121]⟩ : ByteArray), (⟨#[77, 111, 110, 100, 97, 121]⟩ : ByteArray), (⟨#[84, 117, 101, 115, 100, 97, 121]⟩ : ByteArray), (⟨#[87, 101, 100, 110, 101, 115, 100, 97, 121]⟩ : ByteArray), (⟨#[84, 104, 117, 114, 115, 100, 97, 121]⟩ : ByteArray), (⟨#[70, 114, 105, 100, 97, 121]⟩ : ByteArray), (⟨#[83, 97, 116, 117, 114, 100, 97, 121]⟩ : ByteArray)]
def SHL : List ByteArray := [(⟨#[83, 117, 110]⟩ : ByteArray), (⟨#[77, 111, 110]⟩ : ByteArray), (⟨#[84, 117, 101]⟩ : ByteArray), (⟨#[87, 101, 100]⟩ : ByteArray), (⟨#[84, 104, 117]⟩ : ByteArray), (⟨#[70, 114, 105]⟩ : ByteArray), (⟨#[83, 97, 116]⟩ : ByteArray)]
set_option maxRecDepth 100000 in
set_option maxHeartbeats 100000000 in
/-- What the law's walk wants of its texts. -/
theorem forms_core (k : Nat) (a0 a1 T V W ra rb rc rd : Int) (LO SH : List ByteArray) (Ny249 : Aside0 (LO = ([(⟨#[83, 117, 110, 100, 97, 121]⟩ : ByteArray), (⟨#[77, 111, 110, 100, 97, 121]⟩ : ByteArray), (⟨#[84, 117, 101, 115, 100, 97, 121]⟩ : ByteArray), (⟨#[87, 101, 100, 110, 101, 115, 100, 97, 121]⟩ : ByteArray), (⟨#[84, 104, 117, 114, 115, 100, 97, 121]⟩ : ByteArray), (⟨#[70, 114, 105, 100, 97, 121]⟩ : ByteArray), (⟨#[83, 97, 116, 117, 114, 100, 97, 121]⟩ : ByteArray)] : List ByteArray))) (Ny252 : Aside0 (SH = ([(⟨#[83, 117, 110]⟩ : ByteArray), (⟨#[77, 111, 110]⟩ : ByteArray), (⟨#[84, 117, 101]⟩ : ByteArray), (⟨#[87, 101, 100]⟩ : ByteArray), (⟨#[84, 104, 117]⟩ : ByteArray), (⟨#[70, 114, 105]⟩ : ByteArray), (⟨#[83, 97, 116]⟩ : ByteArray)] : List ByteArray))) (A dd sv lv a3 m8 a17 a12 a57 a14 o1 oc od og : ByteArray) (w : World) (hG : GL w)
    (hk : ambrylaw9_known.f k = some true) (hA : ambryref9_Text.f k T = some A) (hP1 : date_Parse.f k (sv ++ a3) = some (ra, rb))
    (hP2 : date_Parse.f k (((((((((sv ++ o1) ++ m8) ++ o1) ++ dd) ++ o1) ++ a17) ++ o1) ++ a12)) = some (rc, rd))
    (ht : (0 ≤ a0 ∧ Int.tmod a0 4099680000 = T) ∨ (a0 < 0 ∧ Int.tmod (wrap64 (-(wrap64 (a0 + 1)))) 4099680000 = T))
    (hW : Int.tmod (wrap64 ((wrap64 (Int.tdiv T 86400)) + 4)) 7 = W) (hV : Int.tmod (wrap64 (W + (wrap64 (Int.tmod a1 7)))) 7 = V) (hV0 : 0 ≤ V) (hV7 : V < 7) (lSH : SH.length = 7) (lLO : LO.length = 7)
    (sA : A.size = 29) (h57 : A.extract 5 7 = a57) (z57 : a57.size = 2)
    (hdd : (bt a57 0 = 48 ∧ o1 ++ a57.extract 1 2 = dd) ∨ ((bt a57 0 == 48) = false ∧ a57 = dd)) (zdd : dd.size = 2)
    (hsv : rdOf ByteArray.empty SH V = sv) (hlv : rdOf ByteArray.empty LO V = lv) (zsv : sv.size = 3) (zlv : lv.size = 6 ∨ lv.size = 7 ∨ lv.size = 8 ∨ lv.size = 9)
    (h3 : A.extract 3 29 = a3) (z3 : a3.size = 26) (h8 : A.extract 8 11 = m8) (z8 : m8.size = 3) (h17 : A.extract 17 25 = a17) (z17 : a17.size = 8) (h12 : A.extract 12 16 = a12) (z12 : a12.size = 4) (h14 : A.extract 14 16 = a14) (z14 : a14.size = 2)
    (hO1 : (⟨#[32]⟩ : ByteArray) = o1) (hOc : (⟨#[44, 32]⟩ : ByteArray) = oc) (hOd : (⟨#[45]⟩ : ByteArray) = od) (hOg : (⟨#[32, 71, 77, 84]⟩ : ByteArray) = og)
    (hfin : (V = W ∧ ra = T ∧ rc = T ∧ rb = 0 ∧ rd = 0 ∧ (2145916800 ≤ T ∨ T < 2145916800 ∧ date_Parse.f k ((((((((((lv ++ oc) ++ a57) ++ od) ++ m8) ++ od) ++ a14) ++ o1) ++ a17) ++ og)) = some (T, 0))) ∨ (V ≠ W ∧ rb = 80 ∧ rd = 80)) :
    Calls Tryd.prog 5 #[.int .i64 a0, .int .u8 a1] w fun e w' => e = .returned (.bool true) ∧ Below w.heap.size w w' := by
  have HG := Lib.hid hG
  have Ck := Lib.hid (fun W hW => ambrylaw9_known.calls k true W hW hk)
  have A8' := Aside0.mk hA
  have AP1 := Aside0.mk hP1
  have AP2 := Aside0.mk hP2
  have HSV := Lib.hid hsv
  have HLV := Lib.hid hlv
  have zO1 : o1.size = 1 := by rw [← hO1]; rfl
  have zOc : oc.size = 2 := by rw [← hOc]; rfl
  have zOd : od.size = 1 := by rw [← hOd]; rfl
  have zOg : og.size = 4 := by rw [← hOg]; rfl
  have HFIN := Lib.hid hfin
  have HDD := Lib.hid hdd
  have HWV := Lib.hid (And.intro hW hV)
  have HS := Lib.hid (And.intro z57 (And.intro zdd (And.intro zsv (And.intro zlv (And.intro h3 (And.intro z3 (And.intro h8 (And.intro z8 (And.intro h17 (And.intro z17 (And.intro h12 (And.intro z12 (And.intro h14 z14)))))))))))))
  have HO := Lib.hid (And.intro hO1 (And.intro hOc (And.intro hOd (And.intro hOg (And.intro zO1 (And.intro zOc (And.intro zOd zOg)))))))
  have HV := Lib.hid (And.intro (show decide (0 ≤ V) = true from decide_eq_true hV0) (And.intro (show decide (V < (SH.length : Int)) = true from decide_eq_true (by omega)) (show decide (V < (LO.length : Int)) = true from decide_eq_true (by omega))))
  clear hG hk hA hP1 hP2 hsv hlv zO1 zOc zOd zOg hfin hdd hW hV z57 zdd zsv zlv h3 z3 h8 z8 h17 z17 h12 z12 h14 z14 hO1 hOc hOd hOg hV0 hV7 lSH lLO
  have HB := Aside0.mk (Below.refl w.heap.size w)
  go_enter Tryd.func5, Tryd.ntmps5
  go_wp2_with fail
  refine (Ck.out _ HG.out).mono ?_
  clear HB
  rintro e w1 ⟨rfl, hb⟩
  have HB := Aside0.mk hb
  clear hb
  go_upto_if 20 with (fail)
  go_cut [0] (fun v0 wc => (∃ x : Int, v0 = .int .i64 x ∧ Int.tmod x 4099680000 = T) ∧ Aside0 (Below w.heap.size w wc))
  case first => as_aux_lemma =>
    clear Ck AP1 AP2 A8'
    rcases ht with ⟨h0, ht⟩ | ⟨h0, ht⟩
    · have c : decide (a0 < 0) = false := decide_eq_false (by omega)
      clear h0
      rw [c]
      go_wp2
      go_meet
      case rel => exact ⟨⟨_, rfl, ht⟩, HB⟩
    · have c : decide (a0 < 0) = true := decide_eq_true h0
      clear h0
      rw [c]
      go_wp2
      go_meet
      case rel => exact ⟨⟨_, rfl, ht⟩, HB⟩
  case rest => as_aux_lemma =>
    clear HB ht Ck
    obtain ⟨⟨x, rfl, hx⟩, HB⟩ := hcut
    have A8 := A8'
    go_upto_region 6 with (fail)
    have H57 := Lib.hid (And.intro sA h57)
    clear hx sA h57
    go_wp2_with fail
    refine (ambryref9_Text.calls k T A _ A8.out).mono ?_
    rintro e w14 ⟨rfl, hb⟩
    have HB2 := Aside0.mk (below_step HB.out hb)
    clear HB hb A8
    have HB := HB2
    clear HB2
    go_upto_region 7 with (fail)
    go_step
    (with_reducible refine gate_dst (N := 28) rfl ?_); refine Kd.R_lit Kd.string _ 9 ?hg (N := 28) ?hd (xs := ([(⟨#[83, 117, 110, 100, 97, 121]⟩ : ByteArray), (⟨#[77, 111, 110, 100, 97, 121]⟩ : ByteArray), (⟨#[84, 117, 101, 115, 100, 97, 121]⟩ : ByteArray), (⟨#[87, 101, 100, 110, 101, 115, 100, 97, 121]⟩ : ByteArray), (⟨#[84, 104, 117, 114, 115, 100, 97, 121]⟩ : ByteArray), (⟨#[70, 114, 105, 100, 97, 121]⟩ : ByteArray), (⟨#[83, 97, 116, 117, 114, 100, 97, 121]⟩ : ByteArray)] : List ByteArray)) (inner := [.string (⟨#[83, 117, 110, 100, 97, 121]⟩ : ByteArray), .string (⟨#[77, 111, 110, 100, 97, 121]⟩ : ByteArray), .string (⟨#[84, 117, 101, 115, 100, 97, 121]⟩ : ByteArray), .string (⟨#[87, 101, 100, 110, 101, 115, 100, 97, 121]⟩ : ByteArray), .string (⟨#[84, 104, 117, 114, 115, 100, 97, 121]⟩ : ByteArray), .string (⟨#[70, 114, 105, 100, 97, 121]⟩ : ByteArray), .string (⟨#[83, 97, 116, 117, 114, 100, 97, 121]⟩ : ByteArray)]) (ok := fun _ => True) (okp := fun _ => True) ?hr ?hp (fun _ hk => hk) trivial (Below.refl _ _) (Nat.le_refl _) (by simp) ?_
    (case hd => rfl)
    (case hg => rfl)
    case hr => exact lit_l _ _
    (case hp => exact (Reps.one (show Kd.M Kd.string _ _ _ (⟨#[83, 117, 110, 100, 97, 121]⟩ : ByteArray) [.string (⟨#[83, 117, 110, 100, 97, 121]⟩ : ByteArray)] from rfl) (Reps.one (show Kd.M Kd.string _ _ _ (⟨#[77, 111, 110, 100, 97, 121]⟩ : ByteArray) [.string (⟨#[77, 111, 110, 100, 97, 121]⟩ : ByteArray)] from rfl) (Reps.one (show Kd.M Kd.string _ _ _ (⟨#[84, 117, 101, 115, 100, 97, 121]⟩ : ByteArray) [.string (⟨#[84, 117, 101, 115, 100, 97, 121]⟩ : ByteArray)] from rfl) (Reps.one (show Kd.M Kd.string _ _ _ (⟨#[87, 101, 100, 110, 101, 115, 100, 97, 121]⟩ : ByteArray) [.string (⟨#[87, 101, 100, 110, 101, 115, 100, 97, 121]⟩ : ByteArray)] from rfl) (Reps.one (show Kd.M Kd.string _ _ _ (⟨#[84, 104, 117, 114, 115, 100, 97, 121]⟩ : ByteArray) [.string (⟨#[84, 104, 117, 114, 115, 100, 97, 121]⟩ : ByteArray)] from rfl) (Reps.one (show Kd.M Kd.string _ _ _ (⟨#[70, 114, 105, 100, 97, 121]⟩ : ByteArray) [.string (⟨#[70, 114, 105, 100, 97, 121]⟩ : ByteArray)] from rfl) (Reps.one (show Kd.M Kd.string _ _ _ (⟨#[83, 97, 116, 117, 114, 100, 97, 121]⟩ : ByteArray) [.string (⟨#[83, 97, 116, 117, 114, 100, 97, 121]⟩ : ByteArray)] from rfl) (Reps.none _ _)))))))))
    intro v250 w15 ho16 hb hg_ hnew_; clear hg_ hnew_; rw [← Ny249.out] at ho16; have n0_ := Aside0.mk (Kd.R_lower ho16 (below_size (by repeat (first | (with_reducible first | exact HB.out | apply below_alloc | apply pw_below_drewN | apply below_drew1) | exact HB.out)))); have n1_ := Aside0.mk (below_step (by repeat (first | (with_reducible first | exact HB.out | apply below_alloc | apply pw_below_drewN | apply below_drew1) | exact HB.out)) hb); clear HB; have HO251 := n0_; have HB := n1_; clear n0_ n1_; clear hb ho16
    go_upto_region 8 with (fail)
    go_step
    (with_reducible refine gate_dst (N := 29) rfl ?_); refine Kd.R_lit Kd.string _ 9 ?hg (N := 29) ?hd (xs := ([(⟨#[83, 117, 110]⟩ : ByteArray), (⟨#[77, 111, 110]⟩ : ByteArray), (⟨#[84, 117, 101]⟩ : ByteArray), (⟨#[87, 101, 100]⟩ : ByteArray), (⟨#[84, 104, 117]⟩ : ByteArray), (⟨#[70, 114, 105]⟩ : ByteArray), (⟨#[83, 97, 116]⟩ : ByteArray)] : List ByteArray)) (inner := [.string (⟨#[83, 117, 110]⟩ : ByteArray), .string (⟨#[77, 111, 110]⟩ : ByteArray), .string (⟨#[84, 117, 101]⟩ : ByteArray), .string (⟨#[87, 101, 100]⟩ : ByteArray), .string (⟨#[84, 104, 117]⟩ : ByteArray), .string (⟨#[70, 114, 105]⟩ : ByteArray), .string (⟨#[83, 97, 116]⟩ : ByteArray)]) (ok := fun _ => True) (okp := fun _ => True) ?hr ?hp (fun _ hk => hk) trivial (Below.refl _ _) (Nat.le_refl _) (by simp) ?_
    (case hd => rfl)
    (case hg => rfl)
    case hr => exact lit_s _ _
    (case hp => exact (Reps.one (show Kd.M Kd.string _ _ _ (⟨#[83, 117, 110]⟩ : ByteArray) [.string (⟨#[83, 117, 110]⟩ : ByteArray)] from rfl) (Reps.one (show Kd.M Kd.string _ _ _ (⟨#[77, 111, 110]⟩ : ByteArray) [.string (⟨#[77, 111, 110]⟩ : ByteArray)] from rfl) (Reps.one (show Kd.M Kd.string _ _ _ (⟨#[84, 117, 101]⟩ : ByteArray) [.string (⟨#[84, 117, 101]⟩ : ByteArray)] from rfl) (Reps.one (show Kd.M Kd.string _ _ _ (⟨#[87, 101, 100]⟩ : ByteArray) [.string (⟨#[87, 101, 100]⟩ : ByteArray)] from rfl) (Reps.one (show Kd.M Kd.string _ _ _ (⟨#[84, 104, 117]⟩ : ByteArray) [.string (⟨#[84, 104, 117]⟩ : ByteArray)] from rfl) (Reps.one (show Kd.M Kd.string _ _ _ (⟨#[70, 114, 105]⟩ : ByteArray) [.string (⟨#[70, 114, 105]⟩ : ByteArray)] from rfl) (Reps.one (show Kd.M Kd.string _ _ _ (⟨#[83, 97, 116]⟩ : ByteArray) [.string (⟨#[83, 97, 116]⟩ : ByteArray)] from rfl) (Reps.none _ _)))))))))
    intro v253 w17 ho18 hb hg_ hnew_; clear hg_ hnew_; rw [← Ny252.out] at ho18; have n0_ := Aside0.mk (Kd.R_elder' (by (with_reducible repeat (first | apply Kd.R_alloc | apply Kd.R_drewN | apply Kd.R_drew)); exact HO251.out) (Kd.R_base ho18) hb); have n1_ := Aside0.mk (Kd.R_lower (Kd.R_new' ho18 (Kd.R_lt (by (with_reducible repeat (first | apply Kd.R_alloc | apply Kd.R_drewN | apply Kd.R_drew)); exact HO251.out))) (below_size (by repeat (first | (with_reducible first | exact HB.out | apply below_alloc | apply pw_below_drewN | apply below_drew1) | exact HB.out)))); have n2_ := Aside0.mk (below_step (by repeat (first | (with_reducible first | exact HB.out | apply below_alloc | apply pw_below_drewN | apply below_drew1) | exact HB.out)) hb); clear HO251; clear HB; have HO251 := n0_; have HO254 := n1_; have HB := n2_; clear n0_ n1_ n2_; clear hb ho18
    go_upto_region 9 with (fail)
    have HO_6 := HO251
    have HO_7 := HO254
    clear HO251 HO254
    obtain ⟨hW, hV⟩ := HWV.out
    go_upto_region 11 with (fail)
    clear hW hV
    obtain ⟨sA, h57⟩ := H57.out
    have z57 := HS.out.1
    have x0 : ∀ h : 0 < a57.size, ((a57[0]'h).toNat : Int) = bt a57 0 := fun h => bt_at a57 0 h
    go_upto_if 44 with (fail)
    repeat (go_quiet (fail); go_upto_if 44 with (fail))
    (try simp only [Act.put, List.setIfInBounds_toArray, List.set_cons_zero, List.set_cons_succ])
    go_cut [10] (fun v10 wc => v10 = .string dd ∧ Aside0 (Kd.R Kd.string 9 wc w.heap.size (fun k_ => True ∧ some k_ ≠ (v253 : Value).ownBlock) v250 LO) ∧ Aside0 (Kd.R Kd.string 9 wc w.heap.size (fun k_ => True ∧ some k_ ≠ (v250 : Value).ownBlock) v253 SH) ∧ Aside0 (Below w.heap.size w wc))
    case first => as_aux_lemma =>
      obtain ⟨hO1, _, _, _, zO1, _⟩ := HO.out
      have hdd := HDD.out
      clear AP1 AP2 HFIN HSV HLV HWV HV HS HO HDD
      rcases hdd with ⟨hb, hd⟩ | ⟨hb, hd⟩
      · rw [hb] at x0
        obtain ⟨e7, h7⟩ : ∃ e, a57.extract 1 2 = e := ⟨_, rfl⟩
        rw [h7] at hd
        have z7 : e7.size = 1 := by rw [← h7, ByteArray.size_extract, z57]; rfl
        rw [hb]
        go_wp2
        repeat (go_quiet (fail); try go_wp2)
        go_meet
        case rel => exact ⟨rfl, ⟨by (with_reducible repeat (first | apply Kd.R_alloc | apply Kd.R_drewN | apply Kd.R_drew)); exact HO_6.out⟩, ⟨by (with_reducible repeat (first | apply Kd.R_alloc | apply Kd.R_drewN | apply Kd.R_drew)); exact HO_7.out⟩, ⟨by repeat (first | exact HB.out | apply pw_below_drewN)⟩⟩
      · subst hd
        try rw [hb]
        go_wp2
        repeat (go_quiet (fail); try go_wp2)
        go_meet
        case rel => exact ⟨rfl, ⟨by (with_reducible repeat (first | apply Kd.R_alloc | apply Kd.R_drewN | apply Kd.R_drew)); exact HO_6.out⟩, ⟨by (with_reducible repeat (first | apply Kd.R_alloc | apply Kd.R_drewN | apply Kd.R_drew)); exact HO_7.out⟩, ⟨by repeat (first | exact HB.out | apply pw_below_drewN)⟩⟩
    case rest => as_aux_lemma =>
      clear HB HO_6 HO_7 HDD HWV
      obtain ⟨rfl, HO_6, HO_7, HB⟩ := hcut
      obtain ⟨hO1, hOc, hOd, hOg, zO1, zOc, zOd, zOg⟩ := HO.out
      obtain ⟨_, zdd, zsv, zlv', h3, z3, h8, z8, h17, z17, h12, z12, h14, z14⟩ := HS.out
      obtain ⟨d0, d1, d2⟩ := HV.out
      have ZLV := Lib.hid zlv'
      have HO3 := Lib.hid (And.intro hOc (And.intro hOd (And.intro hOg (And.intro zOc (And.intro zOd (And.intro zOg (And.intro h14 z14)))))))
      clear zlv' hOc hOd hOg zOc zOd zOg h14 z14 HS HO HV
      have HO1 := Lib.hid hO1
      clear hO1
      go_wp2_with fail
      have n0_ := Aside0.mk (Kd.R_drew HO_6.out)
      have n1_ := Aside0.mk (Kd.R_drew HO_7.out)
      have n2_ := Aside0.mk (below_drew1 HB.out)
      clear HO_6
      clear HO_7
      clear HB
      have HO_6 := n0_
      have HO_7 := n1_
      have HB := n2_
      clear n0_ n1_ n2_
      obtain ⟨Ao46, co46, eo46⟩ := Kd.R_slice HO_7.out
      (first | subst eo46 | (injection eo46 with f1_ f2_ f3_; have f4_ := f1_.symm; have f5_ := f3_.symm; clear f1_ f2_ f3_; subst f4_; subst f5_))
      have p255 : 0 ≤ ((V) : Int) := of_decide_eq_true (by first | (with_reducible assumption) | assumption)
      have q255 : (V) < (SH.length : Int) := of_decide_eq_true (by first | (with_reducible assumption) | assumption)
      obtain ⟨ad255, e255, hx255_0⟩ := Kd.at_string (Kd.R_reads' HO_7.out).2.2 (V) p255 q255
      rw [HSV.out] at hx255_0
      cases e255
      replace p255 := eq_true p255
      replace q255 := eq_true q255
      refine start_ (n := 13) (S := fun w' => w'.cell? (ad255.add ((V)).toNat) = some (.string sv)) (ds := []) #[false, false, false, false, false, false, false, false, false, false, false, false, false] (by kernel_rfl) rfl rfl (hx255_0) (fun hHeld => ?_); refine with_tabW FrmW.tab14 FrmW.bits14 (fun HT_ HW_ => ?_)
      generalize wc.drew = w45 at HO_6 HO_7 HB hx255_0 hHeld ⊢
      refine pure_ (i := 0) (N := some 49) (v := ?_) (a' := ?_) #[true, false, false, false, false, false, false, false, false, false, false, false, false] rfl rfl (any_of HT_.out (by kernel_rfl)) (fun _ _ _ h => h) (Or.inl ⟨by rfl, ?_⟩) ?_ ?_
      rotate_left
      · intro w'
        go_simp
        with_reducible rfl
      rotate_left
      · simp only [Act.put, List.setIfInBounds_toArray, List.set_cons_zero, List.set_cons_succ, i64_w, i32_w]
        rfl
      refine pure_ (i := 1) (N := some 50) (v := ?_) (a' := ?_) #[true, true, false, false, false, false, false, false, false, false, false, false, false] rfl rfl (any_of HT_.out (by kernel_rfl)) (fun _ _ _ h => h) (Or.inl ⟨by rfl, ?_⟩) ?_ ?_
      rotate_left
      · intro w'
        go_simp
        with_reducible rfl
      rotate_left
      · simp only [Act.put, List.setIfInBounds_toArray, List.set_cons_zero, List.set_cons_succ, i64_w, i32_w]
        rfl
      refine pure_ (i := 2) (N := some 51) (v := ?_) (a' := ?_) #[true, true, true, false, false, false, false, false, false, false, false, false, false] rfl rfl (any_of HT_.out (by kernel_rfl)) (fun _ _ _ h => h) (Or.inl ⟨by rfl, ?_⟩) ?_ ?_
      rotate_left
      · intro w'
        go_simp
        with_reducible rfl
      rotate_left
      · simp only [Act.put, List.setIfInBounds_toArray, List.set_cons_zero, List.set_cons_succ, i64_w, i32_w]
        rfl
      refine pure_ (i := 4) (N := some 53) (v := ?_) (a' := ?_) #[true, true, true, false, true, false, false, false, false, false, false, false, false] rfl rfl (any_of HT_.out (by kernel_rfl)) (fun _ _ _ h => h) (Or.inl ⟨by rfl, ?_⟩) ?_ ?_
      rotate_left
      · intro w'
        go_simp
        with_reducible rfl
      rotate_left
      · simp only [Act.put, List.setIfInBounds_toArray, List.set_cons_zero, List.set_cons_succ, i64_w, i32_w]
        rfl
      refine pure_ (i := 5) (N := some 54) (v := ?_) (a' := ?_) #[true, true, true, false, true, true, false, false, false, false, false, false, false] rfl rfl (any_of HT_.out (by kernel_rfl)) (fun _ _ _ h => h) (Or.inl ⟨by rfl, ?_⟩) ?_ ?_
      rotate_left
      · intro w'
        go_simp
        with_reducible rfl
      rotate_left
      · simp only [Act.put, List.setIfInBounds_toArray, List.set_cons_zero, List.set_cons_succ, i64_w, i32_w]
        rfl
      refine take_ (i := 3) (N := some 52) (v := ?_) (a' := ?_) #[true, true, true, true, true, true, false, false, false, false, false, false, false] rfl rfl (take_ofW HT_.out HW_.out (by kernel_rfl)) (fun _ _ _ h => h) (Or.inl ⟨by rfl, ?_⟩) hHeld ?_ ?_
      rotate_left
      · intro w' s0
        go_simp
        with_reducible rfl
      rotate_left
      · simp only [Act.put, List.setIfInBounds_toArray, List.set_cons_zero, List.set_cons_succ, i64_w, i32_w]
        rfl
      refine pure_ (i := 6) (N := some 55) (v := ?_) (a' := ?_) #[true, true, true, true, true, true, true, false, false, false, false, false, false] rfl rfl (any_of HT_.out (by kernel_rfl)) (fun _ _ _ h => h) (Or.inl ⟨by rfl, ?_⟩) ?_ ?_
      rotate_left
      · intro w'
        go_simp
        with_reducible rfl
      rotate_left
      · simp only [Act.put, List.setIfInBounds_toArray, List.set_cons_zero, List.set_cons_succ, i64_w, i32_w]
        rfl
      refine one_ (i := 7) (N := some 56) #[true, true, true, true, true, true, true, true, false, false, false, false, false] rfl rfl (one_of HT_.out (by kernel_rfl)) (by decide) (fun K hK => ?_)
      refine goes_ Tryd.func10 (by kernel_rfl) rfl #[.string (sv ++ a3)] (by rfl) rfl rfl (by (try simp only [List.map_toArray, List.map_cons, List.map_nil]); first | done | rfl | (simp only [List.length_drop, List.length_take]; rfl)) ?_
      with_reducible refine (date_Parse.calls k (sv ++ a3) ra rb _ ?side1 AP1.out).mono ?_
      (case side1 => exact GL.below HG.out (by repeat (first | (with_reducible first | exact HB.out | apply below_alloc | apply pw_below_drewN | apply below_drew1) | exact HB.out)))
      rintro e w47 ⟨rfl, hb⟩
      have HS0_ := (hb.cell (World.block_lt_of_cell? _ _ (hHeld))).trans (hHeld)
      refine ⟨_, rfl, ?_⟩
      have n0_ := Aside0.mk (Kd.R_below (by (with_reducible repeat (first | apply Kd.R_alloc | apply Kd.R_drewN | apply Kd.R_drew)); exact HO_6.out) hb)
      have n1_ := Aside0.mk (Kd.R_below (by (with_reducible repeat (first | apply Kd.R_alloc | apply Kd.R_drewN | apply Kd.R_drew)); exact HO_7.out) hb)
      have n2_ := Aside0.mk (below_step (by repeat (first | (with_reducible first | exact HB.out | apply below_alloc | apply pw_below_drewN | apply below_drew1) | exact HB.out)) hb)
      clear HO_6
      clear HO_7
      clear HB
      have HO_6 := n0_
      have HO_7 := n1_
      have HB := n2_
      clear n0_ n1_ n2_
      (try clear hb)
      (try clear hb2)
      (try clear hk)
      (try clear hi)
      refine hK.out _ _ (HS0_) (fun hHeld => ?_)
      clear hK K
      refine norm_ (a' := ?_) ?_ ?_
      rotate_left
      · show Act.put _ (some 56) _ = _
        simp only [Act.put, List.setIfInBounds_toArray, List.set_cons_zero, List.set_cons_succ, i64_w, i32_w]
        rfl
      refine pure_ (i := 8) (N := some 48) (v := ?_) (a' := ?_) #[true, true, true, true, true, true, true, true, true, false, false, false, false] rfl rfl (any_of HT_.out (by kernel_rfl)) (fun _ _ _ h => h) (Or.inl ⟨by rfl, ?_⟩) ?_ ?_
      rotate_left
      · intro w'
        go_simp
        with_reducible rfl
      rotate_left
      · simp only [Act.put, List.setIfInBounds_toArray, List.set_cons_zero, List.set_cons_succ, i64_w, i32_w]
        rfl
      refine pure_ (i := 9) (N := some 57) (v := ?_) (a' := ?_) #[true, true, true, true, true, true, true, true, true, true, false, false, false] rfl rfl (any_of HT_.out (by kernel_rfl)) (fun _ _ _ h => h) (Or.inl ⟨by rfl, ?_⟩) ?_ ?_
      rotate_left
      · intro w'
        go_simp
        with_reducible rfl
      rotate_left
      · simp only [Act.put, List.setIfInBounds_toArray, List.set_cons_zero, List.set_cons_succ, i64_w, i32_w]
        rfl
      refine pure_ (i := 10) (N := some 58) (v := ?_) (a' := ?_) #[true, true, true, true, true, true, true, true, true, true, true, false, false] rfl rfl (any_of HT_.out (by kernel_rfl)) (fun _ _ _ h => h) (Or.inl ⟨by rfl, ?_⟩) ?_ ?_
      rotate_left
      · intro w'
        go_simp
        with_reducible rfl
      rotate_left
      · simp only [Act.put, List.setIfInBounds_toArray, List.set_cons_zero, List.set_cons_succ, i64_w, i32_w]
        rfl
      refine pure_ (i := 11) (N := some 11) (v := ?_) (a' := ?_) #[true, true, true, true, true, true, true, true, true, true, true, true, false] rfl rfl (any_of HT_.out (by kernel_rfl)) (fun _ _ _ h => h) (Or.inl ⟨by rfl, ?_⟩) ?_ ?_
      rotate_left
      · intro w'
        go_simp
        with_reducible rfl
      rotate_left
      · simp only [Act.put, List.setIfInBounds_toArray, List.set_cons_zero, List.set_cons_succ, i64_w, i32_w]
        rfl
      refine pure_ (i := 12) (N := some 12) (v := ?_) (a' := ?_) #[true, true, true, true, true, true, true, true, true, true, true, true, true] rfl rfl (any_of HT_.out (by kernel_rfl)) (fun _ _ _ h => h) (Or.inl ⟨by rfl, ?_⟩) ?_ ?_
      rotate_left
      · intro w'
        go_simp
        with_reducible rfl
      rotate_left
      · simp only [Act.put, List.setIfInBounds_toArray, List.set_cons_zero, List.set_cons_succ, i64_w, i32_w]
        rfl
      refine done_ (done_of HT_.out (by kernel_rfl)) ?_
      go_wp2_with fail
      have hO1 := HO1.out
      have n0_ := Aside0.mk (Kd.R_drew HO_6.out)
      have n1_ := Aside0.mk (Kd.R_drew HO_7.out)
      have n2_ := Aside0.mk (below_drew1 HB.out)
      clear HO_6
      clear HO_7
      clear HB
      have HO_6 := n0_
      have HO_7 := n1_
      have HB := n2_
      clear n0_ n1_ n2_
      have p258 : 0 ≤ ((V) : Int) := of_decide_eq_true (by first | (with_reducible assumption) | assumption)
      have q258 : (V) < (SH.length : Int) := of_decide_eq_true (by first | (with_reducible assumption) | assumption)
      obtain ⟨ad258, e258, hx258_0⟩ := Kd.at_string (Kd.R_reads' HO_7.out).2.2 (V) p258 q258
      rw [HSV.out] at hx258_0
      obtain rfl : ad255 = ad258 := (by injection e258)
      replace p258 := eq_true p258
      replace q258 := eq_true q258
      refine start_ (n := 25) (S := fun w' => w'.cell? (ad255.add ((V)).toNat) = some (.string sv)) (ds := []) #[false, false, false, false, false, false, false, false, false, false, false, false, false, false, false, false, false, false, false, false, false, false, false, false, false] (by kernel_rfl) rfl rfl (hx258_0) (fun hHeld => ?_); refine with_tabW FrmW.tab15 FrmW.bits15 (fun HT_ HW_ => ?_)
      generalize w47.drew = w48 at HO_6 HO_7 HB hx258_0 hHeld ⊢
      refine pure_ (i := 0) (N := some 60) (v := ?_) (a' := ?_) #[true, false, false, false, false, false, false, false, false, false, false, false, false, false, false, false, false, false, false, false, false, false, false, false, false] rfl rfl (any_of HT_.out (by kernel_rfl)) (fun _ _ _ h => h) (Or.inl ⟨by rfl, ?_⟩) ?_ ?_
      rotate_left
      · intro w'
        go_simp
        with_reducible rfl
      rotate_left
      · simp only [Act.put, List.setIfInBounds_toArray, List.set_cons_zero, List.set_cons_succ, i64_w, i32_w]
        rfl
      refine pure_ (i := 1) (N := some 61) (v := ?_) (a' := ?_) #[true, true, false, false, false, false, false, false, false, false, false, false, false, false, false, false, false, false, false, false, false, false, false, false, false] rfl rfl (any_of HT_.out (by kernel_rfl)) (fun _ _ _ h => h) (Or.inl ⟨by rfl, ?_⟩) ?_ ?_
      rotate_left
      · intro w'
        go_simp
        with_reducible rfl
      rotate_left
      · simp only [Act.put, List.setIfInBounds_toArray, List.set_cons_zero, List.set_cons_succ, i64_w, i32_w]
        rfl
      refine pure_ (i := 2) (N := some 62) (v := ?_) (a' := ?_) #[true, true, true, false, false, false, false, false, false, false, false, false, false, false, false, false, false, false, false, false, false, false, false, false, false] rfl rfl (any_of HT_.out (by kernel_rfl)) (fun _ _ _ h => h) (Or.inl ⟨by rfl, ?_⟩) ?_ ?_
      rotate_left
      · intro w'
        go_simp
        with_reducible rfl
      rotate_left
      · simp only [Act.put, List.setIfInBounds_toArray, List.set_cons_zero, List.set_cons_succ, i64_w, i32_w]
        rfl
      refine pure_ (i := 5) (N := some 65) (v := ?_) (a' := ?_) #[true, true, true, false, false, true, false, false, false, false, false, false, false, false, false, false, false, false, false, false, false, false, false, false, false] rfl rfl (any_of HT_.out (by kernel_rfl)) (fun _ _ _ h => h) (Or.inl ⟨by rfl, ?_⟩) ?_ ?_
      rotate_left
      · intro w'
        go_simp
        with_reducible rfl
      rotate_left
      · simp only [Act.put, List.setIfInBounds_toArray, List.set_cons_zero, List.set_cons_succ, i64_w, i32_w]
        rfl
      refine pure_ (i := 6) (N := some 66) (v := ?_) (a' := ?_) #[true, true, true, false, false, true, true, false, false, false, false, false, false, false, false, false, false, false, false, false, false, false, false, false, false] rfl rfl (any_of HT_.out (by kernel_rfl)) (fun _ _ _ h => h) (Or.inl ⟨by rfl, ?_⟩) ?_ ?_
      rotate_left
      · intro w'
        go_simp
        with_reducible rfl
      rotate_left
      · simp only [Act.put, List.setIfInBounds_toArray, List.set_cons_zero, List.set_cons_succ, i64_w, i32_w]
        rfl
      refine pure_ (i := 9) (N := some 69) (v := ?_) (a' := ?_) #[true, true, true, false, false, true, true, false, false, true, false, false, false, false, false, false, false, false, false, false, false, false, false, false, false] rfl rfl (any_of HT_.out (by kernel_rfl)) (fun _ _ _ h => h) (Or.inl ⟨by rfl, ?_⟩) ?_ ?_
      rotate_left
      · intro w'
        go_simp
        with_reducible rfl
      rotate_left
      · simp only [Act.put, List.setIfInBounds_toArray, List.set_cons_zero, List.set_cons_succ, i64_w, i32_w]
        rfl
      refine pure_ (i := 12) (N := some 72) (v := ?_) (a' := ?_) #[true, true, true, false, false, true, true, false, false, true, false, false, true, false, false, false, false, false, false, false, false, false, false, false, false] rfl rfl (any_of HT_.out (by kernel_rfl)) (fun _ _ _ h => h) (Or.inl ⟨by rfl, ?_⟩) ?_ ?_
      rotate_left
      · intro w'
        go_simp
        with_reducible rfl
      rotate_left
      · simp only [Act.put, List.setIfInBounds_toArray, List.set_cons_zero, List.set_cons_succ, i64_w, i32_w]
        rfl
      refine pure_ (i := 13) (N := some 73) (v := ?_) (a' := ?_) #[true, true, true, false, false, true, true, false, false, true, false, false, true, true, false, false, false, false, false, false, false, false, false, false, false] rfl rfl (any_of HT_.out (by kernel_rfl)) (fun _ _ _ h => h) (Or.inl ⟨by rfl, ?_⟩) ?_ ?_
      rotate_left
      · intro w'
        go_simp
        with_reducible rfl
      rotate_left
      · simp only [Act.put, List.setIfInBounds_toArray, List.set_cons_zero, List.set_cons_succ, i64_w, i32_w]
        rfl
      refine pure_ (i := 16) (N := some 76) (v := ?_) (a' := ?_) #[true, true, true, false, false, true, true, false, false, true, false, false, true, true, false, false, true, false, false, false, false, false, false, false, false] rfl rfl (any_of HT_.out (by kernel_rfl)) (fun _ _ _ h => h) (Or.inl ⟨by rfl, ?_⟩) ?_ ?_
      rotate_left
      · intro w'
        go_simp
        with_reducible rfl
      rotate_left
      · simp only [Act.put, List.setIfInBounds_toArray, List.set_cons_zero, List.set_cons_succ, i64_w, i32_w]
        rfl
      refine pure_ (i := 17) (N := some 77) (v := ?_) (a' := ?_) #[true, true, true, false, false, true, true, false, false, true, false, false, true, true, false, false, true, true, false, false, false, false, false, false, false] rfl rfl (any_of HT_.out (by kernel_rfl)) (fun _ _ _ h => h) (Or.inl ⟨by rfl, ?_⟩) ?_ ?_
      rotate_left
      · intro w'
        go_simp
        with_reducible rfl
      rotate_left
      · simp only [Act.put, List.setIfInBounds_toArray, List.set_cons_zero, List.set_cons_succ, i64_w, i32_w]
        rfl
      refine take_ (i := 3) (N := some 63) (v := ?_) (a' := ?_) #[true, true, true, true, false, true, true, false, false, true, false, false, true, true, false, false, true, true, false, false, false, false, false, false, false] rfl rfl (take_ofW HT_.out HW_.out (by kernel_rfl)) (fun _ _ _ h => h) (Or.inl ⟨by rfl, ?_⟩) hHeld ?_ ?_
      rotate_left
      · intro w' s0
        go_simp
        with_reducible rfl
      rotate_left
      · simp only [Act.put, List.setIfInBounds_toArray, List.set_cons_zero, List.set_cons_succ, i64_w, i32_w]
        rfl
      refine pure_ (i := 4) (N := some 64) (v := ?_) (a' := ?_) #[true, true, true, true, true, true, true, false, false, true, false, false, true, true, false, false, true, true, false, false, false, false, false, false, false] rfl rfl (any_of HT_.out (by kernel_rfl)) (fun _ _ _ h => h) (Or.inl ⟨by rfl, ?_⟩) ?_ ?_
      rotate_left
      · intro w'
        go_simp
        with_reducible rfl
      rotate_left
      · simp only [Act.put, List.setIfInBounds_toArray, List.set_cons_zero, List.set_cons_succ, i64_w, i32_w]
        rfl
      refine pure_ (i := 7) (N := some 67) (v := ?_) (a' := ?_) #[true, true, true, true, true, true, true, true, false, true, false, false, true, true, false, false, true, true, false, false, false, false, false, false, false] rfl rfl (any_of HT_.out (by kernel_rfl)) (fun _ _ _ h => h) (Or.inl ⟨by rfl, ?_⟩) ?_ ?_
      rotate_left
      · intro w'
        go_simp
        with_reducible rfl
      rotate_left
      · simp only [Act.put, List.setIfInBounds_toArray, List.set_cons_zero, List.set_cons_succ, i64_w, i32_w]
        rfl
      refine pure_ (i := 8) (N := some 68) (v := ?_) (a' := ?_) #[true, true, true, true, true, true, true, true, true, true, false, false, true, true, false, false, true, true, false, false, false, false, false, false, false] rfl rfl (any_of HT_.out (by kernel_rfl)) (fun _ _ _ h => h) (Or.inl ⟨by rfl, ?_⟩) ?_ ?_
      rotate_left
      · intro w'
        go_simp
        with_reducible rfl
      rotate_left
      · simp only [Act.put, List.setIfInBounds_toArray, List.set_cons_zero, List.set_cons_succ, i64_w, i32_w]
        rfl
      refine pure_ (i := 10) (N := some 70) (v := ?_) (a' := ?_) #[true, true, true, true, true, true, true, true, true, true, true, false, true, true, false, false, true, true, false, false, false, false, false, false, false] rfl rfl (any_of HT_.out (by kernel_rfl)) (fun _ _ _ h => h) (Or.inl ⟨by rfl, ?_⟩) ?_ ?_
      rotate_left
      · intro w'
        go_simp
        with_reducible rfl
      rotate_left
      · simp only [Act.put, List.setIfInBounds_toArray, List.set_cons_zero, List.set_cons_succ, i64_w, i32_w]
        rfl
      refine pure_ (i := 11) (N := some 71) (v := ?_) (a' := ?_) #[true, true, true, true, true, true, true, true, true, true, true, true, true, true, false, false, true, true, false, false, false, false, false, false, false] rfl rfl (any_of HT_.out (by kernel_rfl)) (fun _ _ _ h => h) (Or.inl ⟨by rfl, ?_⟩) ?_ ?_
      rotate_left
      · intro w'
        go_simp
        with_reducible rfl
      rotate_left
      · simp only [Act.put, List.setIfInBounds_toArray, List.set_cons_zero, List.set_cons_succ, i64_w, i32_w]
        rfl
      refine pure_ (i := 14) (N := some 74) (v := ?_) (a' := ?_) #[true, true, true, true, true, true, true, true, true, true, true, true, true, true, true, false, true, true, false, false, false, false, false, false, false] rfl rfl (any_of HT_.out (by kernel_rfl)) (fun _ _ _ h => h) (Or.inl ⟨by rfl, ?_⟩) ?_ ?_
      rotate_left
      · intro w'
        go_simp
        with_reducible rfl
      rotate_left
      · simp only [Act.put, List.setIfInBounds_toArray, List.set_cons_zero, List.set_cons_succ, i64_w, i32_w]
        rfl
      refine pure_ (i := 15) (N := some 75) (v := ?_) (a' := ?_) #[true, true, true, true, true, true, true, true, true, true, true, true, true, true, true, true, true, true, false, false, false, false, false, false, false] rfl rfl (any_of HT_.out (by kernel_rfl)) (fun _ _ _ h => h) (Or.inl ⟨by rfl, ?_⟩) ?_ ?_
      rotate_left
      · intro w'
        go_simp
        with_reducible rfl
      rotate_left
      · simp only [Act.put, List.setIfInBounds_toArray, List.set_cons_zero, List.set_cons_succ, i64_w, i32_w]
        rfl
      refine pure_ (i := 18) (N := some 78) (v := ?_) (a' := ?_) #[true, true, true, true, true, true, true, true, true, true, true, true, true, true, true, true, true, true, true, false, false, false, false, false, false] rfl rfl (any_of HT_.out (by kernel_rfl)) (fun _ _ _ h => h) (Or.inl ⟨by rfl, ?_⟩) ?_ ?_
      rotate_left
      · intro w'
        go_simp
        with_reducible rfl
      rotate_left
      · simp only [Act.put, List.setIfInBounds_toArray, List.set_cons_zero, List.set_cons_succ, i64_w, i32_w]
        rfl
      refine one_ (i := 19) (N := some 79) #[true, true, true, true, true, true, true, true, true, true, true, true, true, true, true, true, true, true, true, true, false, false, false, false, false] rfl rfl (one_of HT_.out (by kernel_rfl)) (by decide) (fun K hK => ?_)
      refine goes_ Tryd.func10 (by kernel_rfl) rfl #[.string ((((((((sv ++ o1) ++ m8) ++ o1) ++ dd) ++ o1) ++ a17) ++ o1) ++ a12)] (by rfl) rfl rfl (by (try simp only [List.map_toArray, List.map_cons, List.map_nil]); first | done | rfl | (simp only [List.length_drop, List.length_take]; rfl)) ?_
      with_reducible refine (date_Parse.calls k ((((((((sv ++ o1) ++ m8) ++ o1) ++ dd) ++ o1) ++ a17) ++ o1) ++ a12) rc rd _ ?side1 AP2.out).mono ?_
      (case side1 => exact GL.below HG.out (by repeat (first | (with_reducible first | exact HB.out | apply below_alloc | apply pw_below_drewN | apply below_drew1) | exact HB.out)))
      rintro e w49 ⟨rfl, hb⟩
      have HS0_ := (hb.cell (World.block_lt_of_cell? _ _ (hHeld))).trans (hHeld)
      refine ⟨_, rfl, ?_⟩
      have n0_ := Aside0.mk (Kd.R_below (by (with_reducible repeat (first | apply Kd.R_alloc | apply Kd.R_drewN | apply Kd.R_drew)); exact HO_6.out) hb)
      have n1_ := Aside0.mk (Kd.R_below (by (with_reducible repeat (first | apply Kd.R_alloc | apply Kd.R_drewN | apply Kd.R_drew)); exact HO_7.out) hb)
      have n2_ := Aside0.mk (below_step (by repeat (first | (with_reducible first | exact HB.out | apply below_alloc | apply pw_below_drewN | apply below_drew1) | exact HB.out)) hb)
      clear HO_6
      clear HO_7
      clear HB
      have HO_6 := n0_
      have HO_7 := n1_
      have HB := n2_
      clear n0_ n1_ n2_
      (try clear hb)
      (try clear hb2)
      (try clear hk)
      (try clear hi)
      refine hK.out _ _ (HS0_) (fun hHeld => ?_)
      clear hK K
      refine norm_ (a' := ?_) ?_ ?_
      rotate_left
      · show Act.put _ (some 79) _ = _
        simp only [Act.put, List.setIfInBounds_toArray, List.set_cons_zero, List.set_cons_succ, i64_w, i32_w]
        rfl
      refine pure_ (i := 20) (N := some 59) (v := ?_) (a' := ?_) #[true, true, true, true, true, true, true, true, true, true, true, true, true, true, true, true, true, true, true, true, true, false, false, false, false] rfl rfl (any_of HT_.out (by kernel_rfl)) (fun _ _ _ h => h) (Or.inl ⟨by rfl, ?_⟩) ?_ ?_
      rotate_left
      · intro w'
        go_simp
        with_reducible rfl
      rotate_left
      · simp only [Act.put, List.setIfInBounds_toArray, List.set_cons_zero, List.set_cons_succ, i64_w, i32_w]
        rfl
      refine pure_ (i := 21) (N := some 80) (v := ?_) (a' := ?_) #[true, true, true, true, true, true, true, true, true, true, true, true, true, true, true, true, true, true, true, true, true, true, false, false, false] rfl rfl (any_of HT_.out (by kernel_rfl)) (fun _ _ _ h => h) (Or.inl ⟨by rfl, ?_⟩) ?_ ?_
      rotate_left
      · intro w'
        go_simp
        with_reducible rfl
      rotate_left
      · simp only [Act.put, List.setIfInBounds_toArray, List.set_cons_zero, List.set_cons_succ, i64_w, i32_w]
        rfl
      refine pure_ (i := 22) (N := some 81) (v := ?_) (a' := ?_) #[true, true, true, true, true, true, true, true, true, true, true, true, true, true, true, true, true, true, true, true, true, true, true, false, false] rfl rfl (any_of HT_.out (by kernel_rfl)) (fun _ _ _ h => h) (Or.inl ⟨by rfl, ?_⟩) ?_ ?_
      rotate_left
      · intro w'
        go_simp
        with_reducible rfl
      rotate_left
      · simp only [Act.put, List.setIfInBounds_toArray, List.set_cons_zero, List.set_cons_succ, i64_w, i32_w]
        rfl
      refine pure_ (i := 23) (N := some 13) (v := ?_) (a' := ?_) #[true, true, true, true, true, true, true, true, true, true, true, true, true, true, true, true, true, true, true, true, true, true, true, true, false] rfl rfl (any_of HT_.out (by kernel_rfl)) (fun _ _ _ h => h) (Or.inl ⟨by rfl, ?_⟩) ?_ ?_
      rotate_left
      · intro w'
        go_simp
        with_reducible rfl
      rotate_left
      · simp only [Act.put, List.setIfInBounds_toArray, List.set_cons_zero, List.set_cons_succ, i64_w, i32_w]
        rfl
      refine pure_ (i := 24) (N := some 14) (v := ?_) (a' := ?_) #[true, true, true, true, true, true, true, true, true, true, true, true, true, true, true, true, true, true, true, true, true, true, true, true, true] rfl rfl (any_of HT_.out (by kernel_rfl)) (fun _ _ _ h => h) (Or.inl ⟨by rfl, ?_⟩) ?_ ?_
      rotate_left
      · intro w'
        go_simp
        with_reducible rfl
      rotate_left
      · simp only [Act.put, List.setIfInBounds_toArray, List.set_cons_zero, List.set_cons_succ, i64_w, i32_w]
        rfl
      refine done_ (done_of HT_.out (by kernel_rfl)) ?_
      clear hO1
      rcases HFIN.out with ⟨hvw, e1, e2, e3, e4, hbig⟩ | ⟨hvw, rfl, rfl⟩
      · subst W
        subst ra
        subst rc
        subst rb
        subst rd
        clear HFIN
        have hw0 : wrap64 ((0 : Int) + 0) = 0 := by rw [w64 (x := (0 : Int) + 0) (by omega) (by omega)]; rfl
        have hw1 : wrap64 (0 : Int) = 0 := w64 (by omega) (by omega)
        rcases hbig with hb | ⟨hb, hP3⟩
        · have hb1 : decide (2145916800 ≤ T) = true := decide_eq_true hb
          clear hb
          go_wp2_with fail
          repeat (go_quiet (fail); try go_wp2_with fail)
          go_ret
          exact ⟨rfl, by repeat (first | (with_reducible first | exact HB.out | apply below_alloc | apply pw_below_drewN | apply below_drew1) | exact HB.out)⟩
        · have hb1 : decide (2145916800 ≤ T) = false := decide_eq_false (by omega)
          have AP3 := Aside0.mk hP3
          clear hb hP3
          go_wp2_with fail
          repeat (go_quiet (fail); try go_wp2_with fail)
          have hO1 := HO1.out
          obtain ⟨hOc, hOd, hOg, zOc, zOd, zOg, h14, z14⟩ := HO3.out
          rcases ZLV.out with zlv | zlv | zlv | zlv
          all_goals as_aux_lemma =>
            have n0_ := Aside0.mk (Kd.R_drew HO_6.out)
            have n1_ := Aside0.mk (below_drew1 HB.out)
            clear HO_6
            clear HB
            have HO_6 := n0_
            have HB := n1_
            clear n0_ n1_
            obtain ⟨Ao76, co76, eo76⟩ := Kd.R_slice HO_6.out
            (first | subst eo76 | (injection eo76 with f1_ f2_ f3_; have f4_ := f1_.symm; have f5_ := f3_.symm; clear f1_ f2_ f3_; subst f4_; subst f5_))
            have p261 : 0 ≤ ((V) : Int) := of_decide_eq_true (by first | (with_reducible assumption) | assumption)
            have q261 : (V) < (LO.length : Int) := of_decide_eq_true (by first | (with_reducible assumption) | assumption)
            obtain ⟨ad261, e261, hx261_0⟩ := Kd.at_string (Kd.R_reads' HO_6.out).2.2 (V) p261 q261
            rw [HLV.out] at hx261_0
            cases e261
            replace p261 := eq_true p261
            replace q261 := eq_true q261
            refine start_ (n := 27) (S := fun w' => w'.cell? (ad261.add ((V)).toNat) = some (.string lv)) (ds := []) #[false, false, false, false, false, false, false, false, false, false, false, false, false, false, false, false, false, false, false, false, false, false, false, false, false, false, false] (by kernel_rfl) rfl rfl (hx261_0) (fun hHeld => ?_); refine with_tabW FrmW.tab22 FrmW.bits22 (fun HT_ HW_ => ?_)
            generalize w49.drew = w75 at HO_6 HB hx261_0 hHeld ⊢
            refine pure_ (i := 0) (N := some 108) (v := ?_) (a' := ?_) #[true, false, false, false, false, false, false, false, false, false, false, false, false, false, false, false, false, false, false, false, false, false, false, false, false, false, false] rfl rfl (any_of HT_.out (by kernel_rfl)) (fun _ _ _ h => h) (Or.inl ⟨by rfl, ?_⟩) ?_ ?_
            rotate_left
            · intro w'
              go_simp
              with_reducible rfl
            rotate_left
            · simp only [Act.put, List.setIfInBounds_toArray, List.set_cons_zero, List.set_cons_succ, i64_w, i32_w]
              rfl
            refine pure_ (i := 1) (N := some 109) (v := ?_) (a' := ?_) #[true, true, false, false, false, false, false, false, false, false, false, false, false, false, false, false, false, false, false, false, false, false, false, false, false, false, false] rfl rfl (any_of HT_.out (by kernel_rfl)) (fun _ _ _ h => h) (Or.inl ⟨by rfl, ?_⟩) ?_ ?_
            rotate_left
            · intro w'
              go_simp
              with_reducible rfl
            rotate_left
            · simp only [Act.put, List.setIfInBounds_toArray, List.set_cons_zero, List.set_cons_succ, i64_w, i32_w]
              rfl
            refine pure_ (i := 2) (N := some 110) (v := ?_) (a' := ?_) #[true, true, true, false, false, false, false, false, false, false, false, false, false, false, false, false, false, false, false, false, false, false, false, false, false, false, false] rfl rfl (any_of HT_.out (by kernel_rfl)) (fun _ _ _ h => h) (Or.inl ⟨by rfl, ?_⟩) ?_ ?_
            rotate_left
            · intro w'
              go_simp
              with_reducible rfl
            rotate_left
            · simp only [Act.put, List.setIfInBounds_toArray, List.set_cons_zero, List.set_cons_succ, i64_w, i32_w]
              rfl
            refine pure_ (i := 5) (N := some 113) (v := ?_) (a' := ?_) #[true, true, true, false, false, true, false, false, false, false, false, false, false, false, false, false, false, false, false, false, false, false, false, false, false, false, false] rfl rfl (any_of HT_.out (by kernel_rfl)) (fun _ _ _ h => h) (Or.inl ⟨by rfl, ?_⟩) ?_ ?_
            rotate_left
            · intro w'
              go_simp
              with_reducible rfl
            rotate_left
            · simp only [Act.put, List.setIfInBounds_toArray, List.set_cons_zero, List.set_cons_succ, i64_w, i32_w]
              rfl
            refine pure_ (i := 6) (N := some 114) (v := ?_) (a' := ?_) #[true, true, true, false, false, true, true, false, false, false, false, false, false, false, false, false, false, false, false, false, false, false, false, false, false, false, false] rfl rfl (any_of HT_.out (by kernel_rfl)) (fun _ _ _ h => h) (Or.inl ⟨by rfl, ?_⟩) ?_ ?_
            rotate_left
            · intro w'
              go_simp
              with_reducible rfl
            rotate_left
            · simp only [Act.put, List.setIfInBounds_toArray, List.set_cons_zero, List.set_cons_succ, i64_w, i32_w]
              rfl
            refine pure_ (i := 9) (N := some 117) (v := ?_) (a' := ?_) #[true, true, true, false, false, true, true, false, false, true, false, false, false, false, false, false, false, false, false, false, false, false, false, false, false, false, false] rfl rfl (any_of HT_.out (by kernel_rfl)) (fun _ _ _ h => h) (Or.inl ⟨by rfl, ?_⟩) ?_ ?_
            rotate_left
            · intro w'
              go_simp
              with_reducible rfl
            rotate_left
            · simp only [Act.put, List.setIfInBounds_toArray, List.set_cons_zero, List.set_cons_succ, i64_w, i32_w]
              rfl
            refine pure_ (i := 10) (N := some 118) (v := ?_) (a' := ?_) #[true, true, true, false, false, true, true, false, false, true, true, false, false, false, false, false, false, false, false, false, false, false, false, false, false, false, false] rfl rfl (any_of HT_.out (by kernel_rfl)) (fun _ _ _ h => h) (Or.inl ⟨by rfl, ?_⟩) ?_ ?_
            rotate_left
            · intro w'
              go_simp
              with_reducible rfl
            rotate_left
            · simp only [Act.put, List.setIfInBounds_toArray, List.set_cons_zero, List.set_cons_succ, i64_w, i32_w]
              rfl
            refine pure_ (i := 13) (N := some 121) (v := ?_) (a' := ?_) #[true, true, true, false, false, true, true, false, false, true, true, false, false, true, false, false, false, false, false, false, false, false, false, false, false, false, false] rfl rfl (any_of HT_.out (by kernel_rfl)) (fun _ _ _ h => h) (Or.inl ⟨by rfl, ?_⟩) ?_ ?_
            rotate_left
            · intro w'
              go_simp
              with_reducible rfl
            rotate_left
            · simp only [Act.put, List.setIfInBounds_toArray, List.set_cons_zero, List.set_cons_succ, i64_w, i32_w]
              rfl
            refine pure_ (i := 14) (N := some 122) (v := ?_) (a' := ?_) #[true, true, true, false, false, true, true, false, false, true, true, false, false, true, true, false, false, false, false, false, false, false, false, false, false, false, false] rfl rfl (any_of HT_.out (by kernel_rfl)) (fun _ _ _ h => h) (Or.inl ⟨by rfl, ?_⟩) ?_ ?_
            rotate_left
            · intro w'
              go_simp
              with_reducible rfl
            rotate_left
            · simp only [Act.put, List.setIfInBounds_toArray, List.set_cons_zero, List.set_cons_succ, i64_w, i32_w]
              rfl
            refine pure_ (i := 17) (N := some 125) (v := ?_) (a' := ?_) #[true, true, true, false, false, true, true, false, false, true, true, false, false, true, true, false, false, true, false, false, false, false, false, false, false, false, false] rfl rfl (any_of HT_.out (by kernel_rfl)) (fun _ _ _ h => h) (Or.inl ⟨by rfl, ?_⟩) ?_ ?_
            rotate_left
            · intro w'
              go_simp
              with_reducible rfl
            rotate_left
            · simp only [Act.put, List.setIfInBounds_toArray, List.set_cons_zero, List.set_cons_succ, i64_w, i32_w]
              rfl
            refine pure_ (i := 18) (N := some 126) (v := ?_) (a' := ?_) #[true, true, true, false, false, true, true, false, false, true, true, false, false, true, true, false, false, true, true, false, false, false, false, false, false, false, false] rfl rfl (any_of HT_.out (by kernel_rfl)) (fun _ _ _ h => h) (Or.inl ⟨by rfl, ?_⟩) ?_ ?_
            rotate_left
            · intro w'
              go_simp
              with_reducible rfl
            rotate_left
            · simp only [Act.put, List.setIfInBounds_toArray, List.set_cons_zero, List.set_cons_succ, i64_w, i32_w]
              rfl
            refine take_ (i := 3) (N := some 111) (v := ?_) (a' := ?_) #[true, true, true, true, false, true, true, false, false, true, true, false, false, true, true, false, false, true, true, false, false, false, false, false, false, false, false] rfl rfl (take_ofW HT_.out HW_.out (by kernel_rfl)) (fun _ _ _ h => h) (Or.inl ⟨by rfl, ?_⟩) hHeld ?_ ?_
            rotate_left
            · intro w' s0
              go_simp
              with_reducible rfl
            rotate_left
            · simp only [Act.put, List.setIfInBounds_toArray, List.set_cons_zero, List.set_cons_succ, i64_w, i32_w]
              rfl
            refine pure_ (i := 4) (N := some 112) (v := ?_) (a' := ?_) #[true, true, true, true, true, true, true, false, false, true, true, false, false, true, true, false, false, true, true, false, false, false, false, false, false, false, false] rfl rfl (any_of HT_.out (by kernel_rfl)) (fun _ _ _ h => h) (Or.inl ⟨by rfl, ?_⟩) ?_ ?_
            rotate_left
            · intro w'
              go_simp
              with_reducible rfl
            rotate_left
            · simp only [Act.put, List.setIfInBounds_toArray, List.set_cons_zero, List.set_cons_succ, i64_w, i32_w]
              rfl
            refine pure_ (i := 7) (N := some 115) (v := ?_) (a' := ?_) #[true, true, true, true, true, true, true, true, false, true, true, false, false, true, true, false, false, true, true, false, false, false, false, false, false, false, false] rfl rfl (any_of HT_.out (by kernel_rfl)) (fun _ _ _ h => h) (Or.inl ⟨by rfl, ?_⟩) ?_ ?_
            rotate_left
            · intro w'
              go_simp
              with_reducible rfl
            rotate_left
            · simp only [Act.put, List.setIfInBounds_toArray, List.set_cons_zero, List.set_cons_succ, i64_w, i32_w]
              rfl
            refine pure_ (i := 8) (N := some 116) (v := ?_) (a' := ?_) #[true, true, true, true, true, true, true, true, true, true, true, false, false, true, true, false, false, true, true, false, false, false, false, false, false, false, false] rfl rfl (any_of HT_.out (by kernel_rfl)) (fun _ _ _ h => h) (Or.inl ⟨by rfl, ?_⟩) ?_ ?_
            rotate_left
            · intro w'
              go_simp
              with_reducible rfl
            rotate_left
            · simp only [Act.put, List.setIfInBounds_toArray, List.set_cons_zero, List.set_cons_succ, i64_w, i32_w]
              rfl
            refine pure_ (i := 11) (N := some 119) (v := ?_) (a' := ?_) #[true, true, true, true, true, true, true, true, true, true, true, true, false, true, true, false, false, true, true, false, false, false, false, false, false, false, false] rfl rfl (any_of HT_.out (by kernel_rfl)) (fun _ _ _ h => h) (Or.inl ⟨by rfl, ?_⟩) ?_ ?_
            rotate_left
            · intro w'
              go_simp
              with_reducible rfl
            rotate_left
            · simp only [Act.put, List.setIfInBounds_toArray, List.set_cons_zero, List.set_cons_succ, i64_w, i32_w]
              rfl
            refine pure_ (i := 12) (N := some 120) (v := ?_) (a' := ?_) #[true, true, true, true, true, true, true, true, true, true, true, true, true, true, true, false, false, true, true, false, false, false, false, false, false, false, false] rfl rfl (any_of HT_.out (by kernel_rfl)) (fun _ _ _ h => h) (Or.inl ⟨by rfl, ?_⟩) ?_ ?_
            rotate_left
            · intro w'
              go_simp
              with_reducible rfl
            rotate_left
            · simp only [Act.put, List.setIfInBounds_toArray, List.set_cons_zero, List.set_cons_succ, i64_w, i32_w]
              rfl
            refine pure_ (i := 15) (N := some 123) (v := ?_) (a' := ?_) #[true, true, true, true, true, true, true, true, true, true, true, true, true, true, true, true, false, true, true, false, false, false, false, false, false, false, false] rfl rfl (any_of HT_.out (by kernel_rfl)) (fun _ _ _ h => h) (Or.inl ⟨by rfl, ?_⟩) ?_ ?_
            rotate_left
            · intro w'
              go_simp
              with_reducible rfl
            rotate_left
            · simp only [Act.put, List.setIfInBounds_toArray, List.set_cons_zero, List.set_cons_succ, i64_w, i32_w]
              rfl
            refine pure_ (i := 16) (N := some 124) (v := ?_) (a' := ?_) #[true, true, true, true, true, true, true, true, true, true, true, true, true, true, true, true, true, true, true, false, false, false, false, false, false, false, false] rfl rfl (any_of HT_.out (by kernel_rfl)) (fun _ _ _ h => h) (Or.inl ⟨by rfl, ?_⟩) ?_ ?_
            rotate_left
            · intro w'
              go_simp
              with_reducible rfl
            rotate_left
            · simp only [Act.put, List.setIfInBounds_toArray, List.set_cons_zero, List.set_cons_succ, i64_w, i32_w]
              rfl
            refine pure_ (i := 19) (N := some 127) (v := ?_) (a' := ?_) #[true, true, true, true, true, true, true, true, true, true, true, true, true, true, true, true, true, true, true, true, false, false, false, false, false, false, false] rfl rfl (any_of HT_.out (by kernel_rfl)) (fun _ _ _ h => h) (Or.inl ⟨by rfl, ?_⟩) ?_ ?_
            rotate_left
            · intro w'
              go_simp
              with_reducible rfl
            rotate_left
            · simp only [Act.put, List.setIfInBounds_toArray, List.set_cons_zero, List.set_cons_succ, i64_w, i32_w]
              rfl
            refine pure_ (i := 20) (N := some 128) (v := ?_) (a' := ?_) #[true, true, true, true, true, true, true, true, true, true, true, true, true, true, true, true, true, true, true, true, true, false, false, false, false, false, false] rfl rfl (any_of HT_.out (by kernel_rfl)) (fun _ _ _ h => h) (Or.inl ⟨by rfl, ?_⟩) ?_ ?_
            rotate_left
            · intro w'
              go_simp
              with_reducible rfl
            rotate_left
            · simp only [Act.put, List.setIfInBounds_toArray, List.set_cons_zero, List.set_cons_succ, i64_w, i32_w]
              rfl
            refine one_ (i := 21) (N := some 129) #[true, true, true, true, true, true, true, true, true, true, true, true, true, true, true, true, true, true, true, true, true, true, false, false, false, false, false] rfl rfl (one_of HT_.out (by kernel_rfl)) (by decide) (fun K hK => ?_)
            refine goes_ Tryd.func10 (by kernel_rfl) rfl #[.string (((((((((lv ++ oc) ++ a57) ++ od) ++ m8) ++ od) ++ a14) ++ o1) ++ a17) ++ og)] (by rfl) rfl rfl (by (try simp only [List.map_toArray, List.map_cons, List.map_nil]); first | done | rfl | (simp only [List.length_drop, List.length_take]; rfl)) ?_
            with_reducible refine (date_Parse.calls k (((((((((lv ++ oc) ++ a57) ++ od) ++ m8) ++ od) ++ a14) ++ o1) ++ a17) ++ og) T 0 _ ?side1 AP3.out).mono ?_
            (case side1 => exact GL.below HG.out (by repeat (first | (with_reducible first | exact HB.out | apply below_alloc | apply pw_below_drewN | apply below_drew1) | exact HB.out)))
            rintro e w77 ⟨rfl, hb⟩
            have HS0_ := (hb.cell (World.block_lt_of_cell? _ _ (hHeld))).trans (hHeld)
            refine ⟨_, rfl, ?_⟩
            have n0_ := Aside0.mk (Kd.R_below (by (with_reducible repeat (first | apply Kd.R_alloc | apply Kd.R_drewN | apply Kd.R_drew)); exact HO_6.out) hb)
            have n1_ := Aside0.mk (below_step (by repeat (first | (with_reducible first | exact HB.out | apply below_alloc | apply pw_below_drewN | apply below_drew1) | exact HB.out)) hb)
            clear HO_6
            clear HB
            have HO_6 := n0_
            have HB := n1_
            clear n0_ n1_
            (try clear hb)
            (try clear hb2)
            (try clear hk)
            (try clear hi)
            refine hK.out _ _ (HS0_) (fun hHeld => ?_)
            clear hK K
            refine norm_ (a' := ?_) ?_ ?_
            rotate_left
            · show Act.put _ (some 129) _ = _
              simp only [Act.put, List.setIfInBounds_toArray, List.set_cons_zero, List.set_cons_succ, i64_w, i32_w]
              rfl
            refine pure_ (i := 22) (N := some 107) (v := ?_) (a' := ?_) #[true, true, true, true, true, true, true, true, true, true, true, true, true, true, true, true, true, true, true, true, true, true, true, false, false, false, false] rfl rfl (any_of HT_.out (by kernel_rfl)) (fun _ _ _ h => h) (Or.inl ⟨by rfl, ?_⟩) ?_ ?_
            rotate_left
            · intro w'
              go_simp
              with_reducible rfl
            rotate_left
            · simp only [Act.put, List.setIfInBounds_toArray, List.set_cons_zero, List.set_cons_succ, i64_w, i32_w]
              rfl
            refine pure_ (i := 23) (N := some 130) (v := ?_) (a' := ?_) #[true, true, true, true, true, true, true, true, true, true, true, true, true, true, true, true, true, true, true, true, true, true, true, true, false, false, false] rfl rfl (any_of HT_.out (by kernel_rfl)) (fun _ _ _ h => h) (Or.inl ⟨by rfl, ?_⟩) ?_ ?_
            rotate_left
            · intro w'
              go_simp
              with_reducible rfl
            rotate_left
            · simp only [Act.put, List.setIfInBounds_toArray, List.set_cons_zero, List.set_cons_succ, i64_w, i32_w]
              rfl
            refine pure_ (i := 24) (N := some 131) (v := ?_) (a' := ?_) #[true, true, true, true, true, true, true, true, true, true, true, true, true, true, true, true, true, true, true, true, true, true, true, true, true, false, false] rfl rfl (any_of HT_.out (by kernel_rfl)) (fun _ _ _ h => h) (Or.inl ⟨by rfl, ?_⟩) ?_ ?_
            rotate_left
            · intro w'
              go_simp
              with_reducible rfl
            rotate_left
            · simp only [Act.put, List.setIfInBounds_toArray, List.set_cons_zero, List.set_cons_succ, i64_w, i32_w]
              rfl
            refine pure_ (i := 25) (N := some 15) (v := ?_) (a' := ?_) #[true, true, true, true, true, true, true, true, true, true, true, true, true, true, true, true, true, true, true, true, true, true, true, true, true, true, false] rfl rfl (any_of HT_.out (by kernel_rfl)) (fun _ _ _ h => h) (Or.inl ⟨by rfl, ?_⟩) ?_ ?_
            rotate_left
            · intro w'
              go_simp
              with_reducible rfl
            rotate_left
            · simp only [Act.put, List.setIfInBounds_toArray, List.set_cons_zero, List.set_cons_succ, i64_w, i32_w]
              rfl
            refine pure_ (i := 26) (N := some 16) (v := ?_) (a' := ?_) #[true, true, true, true, true, true, true, true, true, true, true, true, true, true, true, true, true, true, true, true, true, true, true, true, true, true, true] rfl rfl (any_of HT_.out (by kernel_rfl)) (fun _ _ _ h => h) (Or.inl ⟨by rfl, ?_⟩) ?_ ?_
            rotate_left
            · intro w'
              go_simp
              with_reducible rfl
            rotate_left
            · simp only [Act.put, List.setIfInBounds_toArray, List.set_cons_zero, List.set_cons_succ, i64_w, i32_w]
              rfl
            refine done_ (done_of HT_.out (by kernel_rfl)) ?_
            try go_wp2
            repeat (go_quiet (fail); try go_wp2)
            go_ret
            exact ⟨by first | rfl | simp, by repeat (first | (with_reducible first | exact HB.out | apply below_alloc | apply pw_below_drewN | apply below_drew1) | exact HB.out)⟩
      · have hvw1 : (V == W) = false := beq_eq_false_iff_ne.mpr hvw
        have hvw2 : (V != W) = true := bne_iff_ne.mpr hvw
        clear HFIN hvw
        go_wp2_with fail
        repeat (go_quiet (fail); try go_wp2_with fail)
        go_ret
        exact ⟨rfl, by repeat (first | (with_reducible first | exact HB.out | apply below_alloc | apply pw_below_drewN | apply below_drew1) | exact HB.out)⟩
end Go.Proofs.YtcejglmmjbmafaaDoor.Pure
