/- Words and walks, joined by a program. -/
import Derived.Test.YtcejglmmjbmafaaDoorP23
import Derived.Test.YtcejglmmjbmafaaDoorP29
import Derived.Test.YtcejglmmjbmafaaDoorP25
import Derived.Test.YtcejglmmjbmafaaDoorP24
import Derived.LoopN
import Derived.Test.YtcejglmmjbmafaaDoorP28
import Derived.Test.YtcejglmmjbmafaaDoorP22
import Derived.Test.YtcejglmmjbmafaaDoorP26
/- The dates' reader: Parse. -/
namespace Go.Proofs.YtcejglmmjbmafaaDoor.X
open Go.RowKit Go.Proofs.YtcejglmmjbmafaaDoorW.PrintWords Go.Proofs.YtcejglmmjbmafaaDoorW.PrintLast Go.Proofs.YtcejglmmjbmafaaDoorW.PrintMore
set_option linter.unusedVariables false
set_option linter.unusedSimpArgs false

/-- One moment, held against a text. -/
def parseOne (k : Nat) (a0 : ByteArray) (y mo d ho mi s : Int) : Option (Int × Int) :=
  (date_moment_right.f y mo d ho mi s).bind fun b => if b = true then
    (date_moment_seconds.f k y mo d ho mi s).bind fun t => (date_of.f k t).bind fun z => (date_Text.f k t).bind fun a =>
      if a0 = a then some (t, 0) else (date_late.f y mo d ho mi s z.2.2.2.2.2.2).bind fun b => (date_plain.f y mo d ho mi s z.2.2.2.2.2.2).bind fun c =>
        if (a0 = b ∧ 1970 ≤ y ∧ y < 2070) ∨ a0 = c then some (t, 0) else some (0, 80)
  else some (0, 80)
def date_Parse.f (k : Nat) (a0 : ByteArray) : Option (Int × Int) := (date_candidates.f k a0).bind fun l => match l with
  | [m] => parseOne k a0 m.f0 m.f1 m.f2 m.f3 m.f4 m.f5
  | _ => none
theorem parseOne.mono : ∀ a0 y mo d ho mi s k, LeO (parseOne k a0 y mo d ho mi s) (parseOne (k + 1) a0 y mo d ho mi s) := fun a0 y mo d ho mi s k =>
  LeO.bind (LeO.refl _) fun b => LeO.ite (LeO.bind (date_moment_seconds.mono _ _ _ _ _ _ _) fun t => LeO.bind (date_of.mono _ _) fun z => LeO.bind (date_Text.mono _ _) fun a => LeO.refl _) (LeO.refl _)
theorem date_Parse.mono : ∀ a0 k, LeO (date_Parse.f k a0) (date_Parse.f (k + 1) a0) := fun a0 k => LeO.bind (date_candidates.mono _ _) fun l => by
  split
  · exact parseOne.mono _ _ _ _ _ _ _ _
  · exact LeO.refl _

/-- A moment's six cells. -/
def Six (w : World) (g : Nat) (y mo d ho mi s : Int) : Prop := w.cell? ⟨g, 0, none⟩ = some (.int .i64 y) ∧ w.cell? ⟨g, 1, none⟩ = some (.int .i64 mo) ∧ w.cell? ⟨g, 2, none⟩ = some (.int .i64 d) ∧ w.cell? ⟨g, 3, none⟩ = some (.int .i64 ho) ∧ w.cell? ⟨g, 4, none⟩ = some (.int .i64 mi) ∧ w.cell? ⟨g, 5, none⟩ = some (.int .i64 s)
theorem Six.below {w w' : World} {g : Nat} {y mo d ho mi s : Int} (h : Six w g y mo d ho mi s) (hb : Below w.heap.size w w') : Six w' g y mo d ho mi s :=
  ⟨pw_cell_below hb h.1, pw_cell_below hb h.2.1, pw_cell_below hb h.2.2.1, pw_cell_below hb h.2.2.2.1, pw_cell_below hb h.2.2.2.2.1, pw_cell_below hb h.2.2.2.2.2⟩
theorem Six.new (w : World) (y mo d ho mi s : Int) (t : Nat) : Six (w.alloc (.cells #[.int .i64 y, .int .i64 mo, .int .i64 d, .int .i64 ho, .int .i64 mi, .int .i64 s] t)) w.heap.size y mo d ho mi s :=
  ⟨World.cell?_alloc_new .., World.cell?_alloc_new .., World.cell?_alloc_new .., World.cell?_alloc_new .., World.cell?_alloc_new .., World.cell?_alloc_new ..⟩
theorem one_cells {w : World} {base : Nat} {ok : Nat → Prop} {v : Value} {m : S36} (h : Kd.R k36 36 w base ok v [m]) :
    ∃ g c, v = .slice (some ⟨g, 0, none⟩) 1 c ∧ Six w g m.f0 m.f1 m.f2 m.f3 m.f4 m.f5 := by
  obtain ⟨inner, ho⟩ := Kd.R_own h
  obtain ⟨g, c, hv, _⟩ := ho.form (by simp)
  refine ⟨g, c, hv, ?_⟩
  rw [hv] at h
  obtain ⟨ad, ea, h0, h1, h2, h3, h4, h5⟩ := at_T36 (Kd.R_reads' h).2.2 0 (by decide) (by simp)
  obtain rfl := Option.some.inj ea
  exact ⟨h0, h1, h2, h3, h4, h5⟩
theorem below_of {w w1 : World} (h : Below w.heap.size w w1) (o : Obj) : Below w.heap.size w (w1.alloc o) := h.alloc h.size o

set_option maxHeartbeats 4000000 in
theorem date_Parse.calls (k : Nat) (a0 : ByteArray) (r1 r2 : Int) (w : World) (hG : GL w) (h : date_Parse.f k a0 = some (r1, r2)) :
    Calls Tryd.prog 10 #[.string a0] w fun e w' => e = .returned (.tuple #[.int .i64 r1, .int .i64 r2]) ∧ Below w.heap.size w w' := by
  have hu := Tryd.underlying36
  obtain ⟨l, hl, h⟩ := Option.bind_eq_some_iff.mp h
  split at h
  case h_2 => cases h
  rename_i m
  obtain ⟨y, mo, d, ho, mi, s⟩ := m
  simp only [parseOne] at h
  obtain ⟨b, hb, h⟩ := Option.bind_eq_some_iff.mp h
  have HG := Lib.hid hG
  clear hG
  have Cc := Lib.hid (fun W hW => date_candidates.calls k a0 _ W hW hl)
  have Cr := Lib.hid (fun W => date_moment_right.calls y mo d ho mi s b W hb)
  clear hl hb
  cases b with
  | false =>
    simp only [Bool.false_eq_true, if_false] at h
    obtain ⟨rfl, rfl⟩ := Prod.mk.inj (Option.some.inj h)
    clear h
    go_enter Tryd.func10, Tryd.ntmps10
    go_wp2_with fail
    refine (Cc.out _ HG.out).mono ?_
    rintro e w1 ⟨v, rfl, hR, hb1⟩
    obtain ⟨g, c, rfl, q0, q1, q2, q3, q4, q5⟩ := one_cells hR
    have HB1 := Lib.hid hb1
    clear hR hb1
    go_wp2_with fail
    refine wp_loop_rounds 2 ?_
    rw [rounds_succ]
    go_wp2_with fail
    with_reducible refine (Cr.out _).mono ?_
    rintro e w2 ⟨rfl, hb2⟩
    have HB2 := Lib.hid (below_then (below_of HB1.out _) hb2)
    clear hb2
    go_wp2_with fail
    rw [rounds_succ]
    go_wp2_with fail
    go_ret2
    exact ⟨rfl, HB2.out⟩
  | true =>
    simp only [if_true] at h
    obtain ⟨t, ht, h⟩ := Option.bind_eq_some_iff.mp h
    obtain ⟨⟨y2, mo2, d2, ho2, mi2, s2, wd⟩, hof, h⟩ := Option.bind_eq_some_iff.mp h
    obtain ⟨a, hta, h⟩ := Option.bind_eq_some_iff.mp h
    have Cs := Lib.hid (fun W => date_moment_seconds.calls k y mo d ho mi s t W ht)
    have Co := Lib.hid (fun W => date_of.calls k t y2 mo2 d2 ho2 mi2 s2 wd W hof)
    have Ct := Lib.hid (fun W hW => date_Text.calls k t a W hW hta)
    clear ht hof hta
    have hcase : (a0.toList == a.toList) = true ∧ r1 = t ∧ r2 = 0 ∨ (a0.toList == a.toList) = false ∧ ∃ b c, date_late.f y mo d ho mi s wd = some b ∧ date_plain.f y mo d ho mi s wd = some c ∧ (if (a0 = b ∧ 1970 ≤ y ∧ y < 2070) ∨ a0 = c then some (t, 0) else some (0, 80)) = some (r1, r2) := by
      split at h
      · rename_i e
        obtain ⟨rfl, rfl⟩ := Prod.mk.inj (Option.some.inj h)
        exact .inl ⟨by rw [e]; simp, rfl, rfl⟩
      · rename_i e
        obtain ⟨b, hb, h⟩ := Option.bind_eq_some_iff.mp h
        obtain ⟨c, hc, h⟩ := Option.bind_eq_some_iff.mp h
        exact .inr ⟨(Lib.bytes_beq_false_iff _ _).2 e, b, c, hb, hc, h⟩
    clear h
    rcases hcase with ⟨he, rfl, rfl⟩ | ⟨he, b, c, hb, hc, h⟩
    · go_enter Tryd.func10, Tryd.ntmps10
      go_wp2_with fail
      refine (Cc.out _ HG.out).mono ?_
      rintro e w1 ⟨v, rfl, hR, hb1⟩
      obtain ⟨g, c, rfl, q0, q1, q2, q3, q4, q5⟩ := one_cells hR
      have HB1 := Lib.hid hb1
      clear hR hb1
      go_wp2_with fail
      refine wp_loop_rounds 2 ?_
      rw [rounds_succ]
      go_wp2_with fail
      with_reducible refine (Cr.out _).mono ?_
      rintro e w2 ⟨rfl, hb2⟩
      have HB2 := Lib.hid (below_then (below_of HB1.out _) hb2)
      have S2 := Lib.hid ((Six.new w1 y mo d ho mi s 36).below hb2)
      clear hb2 q0 q1 q2 q3 q4 q5
      obtain ⟨q0, q1, q2, q3, q4, q5⟩ := S2.out
      go_wp2_with fail
      with_reducible refine (Cs.out _).mono ?_
      rintro e w3 ⟨rfl, hb3⟩
      have HB3 := Lib.hid (below_then HB2.out hb3)
      clear hb3 q0 q1 q2 q3 q4 q5
      go_wp2_with fail
      with_reducible refine (Co.out _).mono ?_
      rintro e w4 ⟨rfl, hb4⟩
      have HB4 := Lib.hid (below_then HB3.out hb4)
      clear hb4
      go_wp2_with fail
      refine (Ct.out _ (HG.out.below (below_of HB4.out _))).mono ?_
      rintro e w5 ⟨rfl, hb5⟩
      have HB5 := Lib.hid (below_then (below_of HB4.out _) hb5)
      clear hb5
      go_wp2_with fail
      go_ret2
      exact ⟨rfl, HB5.out⟩
    · have Cl := Lib.hid (fun W hW => date_late.calls y mo d ho mi s wd b W hW hb)
      have Cp := Lib.hid (fun W hW => date_plain.calls y mo d ho mi s wd c W hW hc)
      clear hb hc
      have hcase : (a0.toList == b.toList) = true ∧ decide (1970 ≤ y) = true ∧ decide (y < 2070) = true ∧ r1 = t ∧ r2 = 0 ∨
          ((a0.toList == b.toList) = false ∨ (a0.toList == b.toList) = true ∧ decide (1970 ≤ y) = false ∨ (a0.toList == b.toList) = true ∧ decide (1970 ≤ y) = true ∧ decide (y < 2070) = false) ∧
            ((a0.toList == c.toList) = true ∧ r1 = t ∧ r2 = 0 ∨ (a0.toList == c.toList) = false ∧ r1 = 0 ∧ r2 = 80) := by
        by_cases e1 : a0 = b
        · have z1 : (a0.toList == b.toList) = true := by rw [e1]; simp
          by_cases y0 : 1970 ≤ y
          · by_cases y1 : y < 2070
            · rw [if_pos (.inl ⟨e1, y0, y1⟩)] at h
              obtain ⟨rfl, rfl⟩ := Prod.mk.inj (Option.some.inj h)
              exact .inl ⟨z1, decide_eq_true y0, decide_eq_true y1, rfl, rfl⟩
            · refine .inr ⟨.inr (.inr ⟨z1, decide_eq_true y0, decide_eq_false y1⟩), ?_⟩
              by_cases e2 : a0 = c
              · rw [if_pos (.inr e2)] at h
                obtain ⟨rfl, rfl⟩ := Prod.mk.inj (Option.some.inj h)
                exact .inl ⟨by rw [e2]; simp, rfl, rfl⟩
              · rw [if_neg (fun z => z.elim (fun z => y1 z.2.2) e2)] at h
                obtain ⟨rfl, rfl⟩ := Prod.mk.inj (Option.some.inj h)
                exact .inr ⟨(Lib.bytes_beq_false_iff _ _).2 e2, rfl, rfl⟩
          · refine .inr ⟨.inr (.inl ⟨z1, decide_eq_false y0⟩), ?_⟩
            by_cases e2 : a0 = c
            · rw [if_pos (.inr e2)] at h
              obtain ⟨rfl, rfl⟩ := Prod.mk.inj (Option.some.inj h)
              exact .inl ⟨by rw [e2]; simp, rfl, rfl⟩
            · rw [if_neg (fun z => z.elim (fun z => y0 z.2.1) e2)] at h
              obtain ⟨rfl, rfl⟩ := Prod.mk.inj (Option.some.inj h)
              exact .inr ⟨(Lib.bytes_beq_false_iff _ _).2 e2, rfl, rfl⟩
        · refine .inr ⟨.inl ((Lib.bytes_beq_false_iff _ _).2 e1), ?_⟩
          by_cases e2 : a0 = c
          · rw [if_pos (.inr e2)] at h
            obtain ⟨rfl, rfl⟩ := Prod.mk.inj (Option.some.inj h)
            exact .inl ⟨by rw [e2]; simp, rfl, rfl⟩
          · rw [if_neg (fun z => z.elim (fun z => e1 z.1) e2)] at h
            obtain ⟨rfl, rfl⟩ := Prod.mk.inj (Option.some.inj h)
            exact .inr ⟨(Lib.bytes_beq_false_iff _ _).2 e2, rfl, rfl⟩
      clear h
      go_enter Tryd.func10, Tryd.ntmps10
      go_wp2_with fail
      refine (Cc.out _ HG.out).mono ?_
      rintro e w1 ⟨v, rfl, hR, hb1⟩
      obtain ⟨g, cc, rfl, q0, q1, q2, q3, q4, q5⟩ := one_cells hR
      have HB1 := Lib.hid hb1
      have HC := Lib.hid hcase
      clear hR hb1 hcase
      go_wp2_with fail
      refine wp_loop_rounds 2 ?_
      rw [rounds_succ]
      go_wp2_with fail
      with_reducible refine (Cr.out _).mono ?_
      rintro e w2 ⟨rfl, hb2⟩
      have HB2 := Lib.hid (below_then (below_of HB1.out _) hb2)
      have S2 := Lib.hid ((Six.new w1 y mo d ho mi s 36).below hb2)
      clear hb2 q0 q1 q2 q3 q4 q5
      obtain ⟨q0, q1, q2, q3, q4, q5⟩ := S2.out
      go_wp2_with fail
      with_reducible refine (Cs.out _).mono ?_
      rintro e w3 ⟨rfl, hb3⟩
      have HB3 := Lib.hid (below_then HB2.out hb3)
      have S3 := Lib.hid (S2.out.below hb3)
      clear hb3 q0 q1 q2 q3 q4 q5
      go_wp2_with fail
      with_reducible refine (Co.out _).mono ?_
      rintro e w4 ⟨rfl, hb4⟩
      have HB4 := Lib.hid (below_then HB3.out hb4)
      have S4 := Lib.hid (S3.out.below hb4)
      clear hb4
      go_wp2_with fail
      refine (Ct.out _ (HG.out.below (below_of HB4.out _))).mono ?_
      rintro e w5 ⟨rfl, hb5⟩
      have HB5 := Lib.hid (below_then (below_of HB4.out _) hb5)
      have S5 := Lib.hid ((S4.out.below ((Below.refl _ _).alloc (Nat.le_refl _) _)).below hb5)
      clear hb5
      obtain ⟨q0, q1, q2, q3, q4, q5⟩ := S5.out
      go_wp2_with fail
      refine (Cl.out _ (HG.out.below HB5.out)).mono ?_
      rintro e w6 ⟨rfl, hb6⟩
      have HB6 := Lib.hid (below_then HB5.out hb6)
      have S6 := Lib.hid (S5.out.below hb6)
      clear hb6 q0 q1 q2 q3 q4 q5
      obtain ⟨q0, q1, q2, q3, q4, q5⟩ := S6.out
      rcases HC.out with ⟨z1, z2, z3, rfl, rfl⟩ | ⟨hz, hc⟩
      · go_wp2_with fail
        go_ret2
        exact ⟨rfl, HB6.out⟩
      · rcases hz with z1 | ⟨z1, z2⟩ | ⟨z1, z2, z3⟩
        all_goals
          go_wp2_with fail
          refine (Cp.out _ (HG.out.below HB6.out)).mono ?_
          rintro e w7 ⟨rfl, hb7⟩
          have HB7 := Lib.hid (below_then HB6.out hb7)
          clear hb7
          rcases hc with ⟨x1, rfl, rfl⟩ | ⟨x1, rfl, rfl⟩
          · go_wp2_with fail
            go_ret2
            exact ⟨rfl, HB7.out⟩
          · go_wp2_with fail
            rw [rounds_succ]
            go_wp2_with fail
            go_ret2
            exact ⟨rfl, HB7.out⟩
end Go.Proofs.YtcejglmmjbmafaaDoor.X
/- Plain Lean: what the printed functions of dates read. -/
namespace Go.Proofs.YtcejglmmjbmafaaDoor.Pure
open Go.RowKit Go.Proofs.YtcejglmmjbmafaaDoor.X Go.Proofs.YtcejglmmjbmafaaDoor.Cal Go.Proofs.YtcejglmmjbmafaaDoorW.PrintWords Go.Proofs.YtcejglmmjbmafaaDoorW.PrintLast Go.Proofs.YtcejglmmjbmafaaDoorW.PrintMore
set_option linter.unusedVariables false
set_option linter.unusedSimpArgs false

/-! ### number -/
/-- One byte more. -/
def stepD (n : Int) (b : UInt8) : Int := if 48 ≤ (b.toNat : Int) ∧ (b.toNat : Int) ≤ 57 then 10 * n + ((b.toNat : Int) - 48) else n
def numS (l : List UInt8) (at_ size : Nat) : Int := ((l.drop at_).take size).foldl stepD 0
def bnd : Nat → Int
  | 0 => 100000000
  | c + 1 => bnd c / 10
theorem bnd_le : ∀ c, bnd c ≤ 100000000
  | 0 => by decide
  | c + 1 => by have := bnd_le c; simp only [bnd]; omega
theorem bt_getD (s : ByteArray) (i : Int) (h0 : 0 ≤ i) (h1 : i < s.size) : ∃ b, s.data.toList[i.toNat]? = some b ∧ bt s i = (b.toNat : Int) := by
  have h : i.toNat < s.size := by omega
  refine ⟨s[i.toNat], Lib.data_getElem? s _ h, (bt_at s i h).symm⟩
theorem num_l0 (s : ByteArray) (x1 x2 : Int) (h1 : 0 ≤ x1) (h2 : x1 ≤ 1000000000000) (h3 : 0 ≤ x2) (h4 : x2 ≤ 4) (c : Nat) : ∀ (n i : Int), (c : Int) = x1 + x2 - i → x1 ≤ i → 0 ≤ n → n + 1 ≤ bnd c →
    Ev (fun k => date_reader_number.l0 k x1 x2 n i s) (((s.data.toList.drop i.toNat).take c).foldl stepD n) ∧ 0 ≤ ((s.data.toList.drop i.toNat).take c).foldl stepD n ∧ ((s.data.toList.drop i.toNat).take c).foldl stepD n + 1 ≤ bnd 0 := by
  induction c with
  | zero =>
    intro n i hc hi hn hb
    refine ⟨?_, by simpa using hn, by simpa using hb⟩
    refine Ev.step (f := fun k => date_reader_number.j1 k x1 x2 n i false s) (fun k => ?_) (Ev.step (f := fun _ => some _) (fun k => ?_) (Ev.now _))
    · simp only [date_reader_number.l0]
      rw [w64 (x := x1 + x2) (by omega) (by omega), if_neg (by omega)]
    · simp only [date_reader_number.j1]
      simp
  | succ c ih =>
    intro n i hc hi hn hb
    have hlt : i < x1 + x2 := by omega
    have hbc := bnd_le c
    have hb2 : 10 * n + 10 ≤ bnd c := by simp only [bnd] at hb; omega
    have e1 : (i + 1).toNat = i.toNat + 1 := by omega
    by_cases hs : i < s.size
    · obtain ⟨b, hbl, hbt⟩ := bt_getD s i (by omega) hs
      have hbb := b.toNat_lt
      have hd : (s.data.toList.drop i.toNat).take (c + 1) = b :: (s.data.toList.drop (i + 1).toNat).take c := by
        rw [e1]
        have hlt' : i.toNat < s.data.toList.length := (List.getElem?_eq_some_iff.1 hbl).1
        rw [List.drop_eq_getElem_cons hlt', List.take_succ_cons]
        congr 1
        exact (List.getElem?_eq_some_iff.1 hbl).2
      rw [hd, List.foldl_cons]
      have hst : 0 ≤ stepD n b ∧ stepD n b + 1 ≤ bnd c := by unfold stepD; split <;> omega
      obtain ⟨hev, hr⟩ := ih (stepD n b) (i + 1) (by omega) (by omega) hst.1 hst.2
      refine ⟨?_, hr⟩
      refine Ev.step (f := fun k => date_reader_number.j1 k x1 x2 n i true s) (fun k => ?_) (Ev.step (f := fun k => date_reader_number.l0 k x1 x2 (stepD n b) (i + 1) s) (fun k => ?_) hev)
      · simp only [date_reader_number.l0]
        rw [w64 (x := x1 + x2) (by omega) (by omega), if_pos hlt, decide_eq_true hs]
      · simp only [date_reader_number.j1, if_true]
        rw [if_pos (by omega), if_pos hs, hbt, w64 (x := i + 1) (by omega) (by omega)]
        unfold stepD
        by_cases c1 : (b.toNat : Int) ≥ 48
        · by_cases c2 : (b.toNat : Int) ≤ 57
          · rw [if_pos c1, if_pos c2, if_pos ⟨c1, c2⟩, w64 (x := 10 * n) (by omega) (by omega), w64 (by omega) (by omega)]
            congr 1
            omega
          · rw [if_pos c1, if_neg c2, if_neg (fun z => c2 z.2)]
        · rw [if_neg c1, if_neg (fun z => c1 z.1)]
    · have hd : (s.data.toList.drop i.toNat).take (c + 1) = [] := by
        have h9 : s.data.toList.length = s.size := by simp
        have : s.data.toList.length ≤ i.toNat := by omega
        rw [List.drop_eq_nil_of_le this]
        rfl
      rw [hd]
      refine ⟨?_, by simpa using hn, by have e0 : bnd 0 = 100000000 := rfl; rw [e0]; simp; omega⟩
      refine Ev.step (f := fun k => date_reader_number.j1 k x1 x2 n i false s) (fun k => ?_) (Ev.step (f := fun _ => some _) (fun k => ?_) (Ev.now _))
      · simp only [date_reader_number.l0]
        rw [w64 (x := x1 + x2) (by omega) (by omega), if_pos hlt, decide_eq_false hs]
      · simp only [date_reader_number.j1]
        simp
theorem num_ev (s : ByteArray) (i : Int) (sz : Nat) (h0 : 0 ≤ i) (h1 : i ≤ 1000000000000) (h2 : sz ≤ 4) :
    Ev (fun k => date_reader_number.f k s i sz) (numS s.data.toList i.toNat sz) ∧ 0 ≤ numS s.data.toList i.toNat sz ∧ numS s.data.toList i.toNat sz ≤ 99999999 := by
  have hb : (0 : Int) + 1 ≤ bnd sz := by
    match sz, h2 with
    | 0, _ | 1, _ | 2, _ | 3, _ | 4, _ => decide
  obtain ⟨a, b, c⟩ := num_l0 s i sz h0 h1 (by omega) (by omega) sz 0 i (by omega) (by omega) (by omega) hb
  have e0 : bnd 0 = 100000000 := rfl
  rw [e0] at c
  exact ⟨a, b, by unfold numS; omega⟩

/-! ### month -/
/-- A short month's number, -1 for another text. -/
def mIdx (x : List UInt8) : Int := Lib.idxOfS shortMonths (X.bytes x)
theorem idx_cases (x : ByteArray) : ∀ (zs : List ByteArray) (i : Nat), (Lib.idxFromS zs x i = -1 ∧ ∀ z ∈ zs, z ≠ x) ∨ ∃ k, k < zs.length ∧ Lib.idxFromS zs x i = ((i + k : Nat) : Int) ∧ zs[k]? = some x
  | [], i => .inl ⟨rfl, by simp⟩
  | z :: zs, i => by
    by_cases h : z = x
    · exact .inr ⟨0, by simp, by simp [Lib.idxFromS, h], by simp [h]⟩
    · rcases idx_cases x zs (i + 1) with ⟨h1, h2⟩ | ⟨k, hk, h1, h2⟩
      · exact .inl ⟨by simp [Lib.idxFromS, h, h1], by intro y hy; rcases List.mem_cons.1 hy with rfl | hy; exact h; exact h2 y hy⟩
      · exact .inr ⟨k + 1, by simp; omega, by simp only [Lib.idxFromS, if_neg h, h1]; omega, by simpa using h2⟩
theorem mIdx_cases (x : List UInt8) : mIdx x = -1 ∨ 0 ≤ mIdx x ∧ mIdx x < 12 ∧ x = m3 (mIdx x) := by
  unfold mIdx Lib.idxOfS
  rcases idx_cases (X.bytes x) shortMonths 0 with ⟨h, _⟩ | ⟨k, hk, h, hx⟩
  · exact .inl h
  · have hk' : k < 12 := hk
    rw [h]
    refine .inr ⟨by omega, by omega, ?_⟩
    unfold m3 shortMonth
    have e : ((0 + k : Nat) : Int).toNat = k := by omega
    rw [e, List.getD_eq_getElem?_getD, hx]
    simp [X.bytes]
theorem mIdx_m3 (m : Int) (h0 : 0 ≤ m) (h1 : m < 12) : mIdx (m3 m) = m := by
  obtain ⟨k, rfl⟩ := Int.eq_ofNat_of_zero_le h0
  match k, h1 with
  | 0, _ | 1, _ | 2, _ | 3, _ | 4, _ | 5, _ | 6, _ | 7, _ | 8, _ | 9, _ | 10, _ | 11, _ => decide
  | k + 12, h => omega
theorem m3_len (m : Int) (h0 : 0 ≤ m) (h1 : m < 12) : (m3 m).length = 3 := by
  have := shortMonth_size h0 h1
  unfold m3
  simpa using this
def monS (l : List UInt8) (at_ : Nat) : Int := if l.length < at_ + 3 then -1 else mIdx ((l.drop at_).take 3)
theorem month_f (s : ByteArray) (i : Int) (h0 : 0 ≤ i) (h1 : i ≤ 1000000000000) : date_reader_month.f s i = some (monS s.data.toList i.toNat) := by
  unfold date_reader_month.f monS
  have hl : s.data.toList.length = s.size := by simp
  rw [if_pos (by omega), hl]
  by_cases c : (s.size : Int) < i + 3
  · rw [if_pos c, if_pos (by omega)]
  · rw [if_neg c, if_neg (by omega)]
    unfold mIdx
    rw [eq_bytes s, extract_bytes, bytes_list]
    congr 4
    omega
theorem monS_hi (l : List UInt8) (i : Nat) : -1 ≤ monS l i ∧ monS l i < 12 := by
  unfold monS
  split
  · omega
  · rcases mIdx_cases ((l.drop i).take 3) with h | h <;> omega

/-! ### right, and one moment -/
theorem right_f (y mo d h mi s : Int) (hm : mo < 12) (hh : 0 ≤ h) (hmi : 0 ≤ mi) (hs : 0 ≤ s) : ∃ b, date_moment_right.f y mo d h mi s = some b ∧ (b = true ↔ Tm y mo d h mi s) := by
  unfold date_moment_right.f
  by_cases c1 : y ≥ 1970
  · rw [if_pos c1]
    by_cases c2 : y ≤ 9999
    · rw [if_pos c2]
      by_cases c3 : mo ≥ 0
      · rw [if_pos c3]
        by_cases c4 : d ≥ 1
        · rw [if_pos c4, length_f y mo (by omega)]
          simp only [Option.bind_some]
          by_cases c5 : d ≤ len y mo
          · rw [if_pos c5]
            by_cases c6 : h ≤ 23
            · rw [if_pos c6]
              by_cases c7 : mi ≤ 59
              · rw [if_pos c7]
                refine ⟨_, rfl, ?_⟩
                rw [decide_eq_true_iff]
                exact ⟨fun c8 => ⟨⟨c1, c2, c3, hm, c4, c5⟩, hh, c6, hmi, c7, hs, c8⟩, fun t => t.s1⟩
              · rw [if_neg c7]
                exact ⟨_, rfl, by simp; exact fun t => c7 t.mi1⟩
            · rw [if_neg c6]
              exact ⟨_, rfl, by simp; exact fun t => c6 t.h1⟩
          · rw [if_neg c5]
            exact ⟨_, rfl, by simp; exact fun t => c5 t.ok.d1⟩
        · rw [if_neg c4]
          exact ⟨_, rfl, by simp; exact fun t => c4 t.ok.d0⟩
      · rw [if_neg c3]
        exact ⟨_, rfl, by simp; exact fun t => c3 t.ok.m0⟩
    · rw [if_neg c2]
      exact ⟨_, rfl, by simp; exact fun t => c2 t.ok.y1⟩
  · rw [if_neg c1]
    exact ⟨_, rfl, by simp; exact fun t => c1 t.ok.y0⟩
/-- A text is one of a moment's three. -/
def Says (s : ByteArray) (y mo d h mi sc : Int) : Prop :=
  s = X.bytes (T1 y mo d h mi sc (wk y mo d)) ∨ s = X.bytes (T2 y mo d h mi sc (wk y mo d)) ∧ y < 2070 ∨ s = X.bytes (T3 y mo d h mi sc (wk y mo d))
/-- The end of one moment's trial. -/
def fin (a0 : ByteArray) (y mo d h mi s : Int) (t : Int) (z : Int × Int × Int × Int × Int × Int × Int) (a : ByteArray) : Option (Int × Int) :=
  if a0 = a then some (t, 0) else (date_late.f y mo d h mi s z.2.2.2.2.2.2).bind fun b => (date_plain.f y mo d h mi s z.2.2.2.2.2.2).bind fun c =>
        if (a0 = b ∧ 1970 ≤ y ∧ y < 2070) ∨ a0 = c then some (t, 0) else some (0, 80)
theorem one_ev (a0 : ByteArray) {y mo d h mi s : Int} (t : Tm y mo d h mi s) {r : Int × Int} (hr : fin a0 y mo d h mi s (sec y mo d h mi s) (y, mo, d, h, mi, s, wk y mo d) (X.bytes (T1 y mo d h mi s (wk y mo d))) = some r) :
    Ev (fun k => parseOne k a0 y mo d h mi s) r := by
  obtain ⟨b, hb, hbt⟩ := right_f y mo d h mi s t.ok.m1 t.h0 t.mi0 t.s0
  obtain rfl := hbt.2 t
  obtain ⟨h0, h1, hof⟩ := of_sec t
  have hsec : Ev (fun k => date_moment_seconds.f k y mo d h mi s) (sec y mo d h mi s) := sec_ev y mo d h mi s t.ok ⟨t.h0, t.h1⟩ ⟨t.mi0, t.mi1⟩ ⟨t.s0, t.s1⟩
  have htx := text_ev t (cl_id h0 h1)
  refine Ev.congr (f := fun k => (date_moment_seconds.f k y mo d h mi s).bind fun t => (date_of.f k t).bind fun z => (date_Text.f k t).bind fun a => fin a0 y mo d h mi s t z a) (fun k => ?_) ?_
  · simp only [parseOne, hb, Option.bind_some, if_true]
    rfl
  refine Ev.bind (f := fun k t => (date_of.f k t).bind fun z => (date_Text.f k t).bind fun a => fin a0 y mo d h mi s t z a) hsec ?_
  refine Ev.bind (f := fun k z => (date_Text.f k (sec y mo d h mi s)).bind fun a => fin a0 y mo d h mi s (sec y mo d h mi s) z a) hof ?_
  refine Ev.bind (f := fun k a => fin a0 y mo d h mi s (sec y mo d h mi s) (y, mo, d, h, mi, s, wk y mo d) a) htx ?_
  exact Ev.congr (fun k => hr) (Ev.now _)
theorem one_yes (a0 : ByteArray) {y mo d h mi s : Int} (t : Tm y mo d h mi s) (hs : Says a0 y mo d h mi s) : Ev (fun k => parseOne k a0 y mo d h mi s) (sec y mo d h mi s, 0) := by
  refine one_ev a0 t ?_
  unfold fin
  simp only
  rw [late_f t _ (wk0 y mo d), plain_f t _ (wk0 y mo d)]
  simp only [Option.bind_some]
  rcases hs with hs | ⟨hs, hy⟩ | hs
  · rw [if_pos hs]
  · split
    · rfl
    · rw [if_pos (.inl ⟨hs, t.ok.y0, hy⟩)]
  · split
    · rfl
    · rw [if_pos (.inr hs)]
theorem one_no (a0 : ByteArray) (y mo d h mi s : Int) (hm : mo < 12) (hh : 0 ≤ h) (hmi : 0 ≤ mi) (hs : 0 ≤ s) (hn : ¬ (Tm y mo d h mi s ∧ Says a0 y mo d h mi s)) : Ev (fun k => parseOne k a0 y mo d h mi s) (0, 80) := by
  by_cases t : Tm y mo d h mi s
  · refine one_ev a0 t ?_
    unfold fin
    simp only
    rw [late_f t _ (wk0 y mo d), plain_f t _ (wk0 y mo d)]
    simp only [Option.bind_some]
    rw [if_neg (fun e => hn ⟨t, .inl e⟩), if_neg (fun e => hn ⟨t, e.elim (fun e => .inr (.inl ⟨e.1, e.2.2⟩)) (fun e => .inr (.inr e))⟩)]
  · obtain ⟨b, hb, hbt⟩ := right_f y mo d h mi s hm hh hmi hs
    have hf : b = false := by cases b; rfl; exact absurd (hbt.1 rfl) t
    subst hf
    refine Ev.congr (fun k => ?_) (Ev.now _)
    simp only [parseOne, hb, Option.bind_some]
    simp
end Go.Proofs.YtcejglmmjbmafaaDoor.Pure
-- printed by a program (xp.py, over the kit's print); Lean checks it
namespace Go.Proofs.YtcejglmmjbmafaaDoor.X
open Go.RowKit Go.Proofs.YtcejglmmjbmafaaDoorW.PrintWords Go.Proofs.YtcejglmmjbmafaaDoorW.PrintLast Go.Proofs.YtcejglmmjbmafaaDoorW.PrintMore
attribute [local go_sem] max2_int min2_int max_two min_two max_three min_three max_four min_four   -- for this text's walks alone
set_option linter.unusedVariables false
set_option linter.unusedSimpArgs false

/-! ### ambrylaw9_known: function 8 -/
def ambrylaw9_known.f (k : Nat)  : Option (Bool) := (date_Parse.f k (⟨#[83, 117, 110, 44, 32, 48, 54, 32, 78, 111, 118, 32, 49, 57, 57, 52, 32, 48, 56, 58, 52, 57, 58, 51, 55, 32, 71, 77, 84]⟩ : ByteArray)).bind fun bt206 => ((date_Parse.f k (⟨#[83, 117, 110, 100, 97, 121, 44, 32, 48, 54, 45, 78, 111, 118, 45, 57, 52, 32, 48, 56, 58, 52, 57, 58, 51, 55, 32, 71, 77, 84]⟩ : ByteArray)).bind fun bt208 => ((date_Parse.f k (⟨#[83, 117, 110, 32, 78, 111, 118, 32, 32, 54, 32, 48, 56, 58, 52, 57, 58, 51, 55, 32, 49, 57, 57, 52]⟩ : ByteArray)).bind fun bt210 => ((date_Parse.f k (⟨#[]⟩ : ByteArray)).bind fun bt212 => (if bt206.1 = 784111777 then (if bt208.1 = bt206.1 then (if bt210.1 = bt206.1 then (if (wrap64 ((wrap64 (bt206.2 + bt208.2)) + bt210.2)) = 0 then (if bt212.2 = 80 then ((date_Text.f k bt206.1).bind fun t214 => (some (t214.toList == ([83, 117, 110, 44, 32, 48, 54, 32, 78, 111, 118, 32, 49, 57, 57, 52, 32, 48, 56, 58, 52, 57, 58, 51, 55, 32, 71, 77, 84] : List UInt8)))) else (some false)) else (some false)) else (some false)) else (some false)) else (some false)))))
theorem ambrylaw9_known.mono : ∀ k, LeO (ambrylaw9_known.f k ) (ambrylaw9_known.f (k + 1) ) := by
  intro  k
  unfold ambrylaw9_known.f
  repeat' first
      | (with_reducible exact date_Parse.mono _ _)
      | (with_reducible exact date_Text.mono _ _)
      | (with_reducible exact LeO.refl _)
      | (with_reducible exact LeO.none _)
      | (with_reducible refine LeO.ite ?_ ?_)
      | (with_reducible refine LeO.bind ?_ (fun _ => ?_))
      | exact date_Parse.mono _ _
      | exact date_Text.mono _ _
      | exact LeO.none _
      | refine LeO.ite ?_ ?_
      | refine LeO.bind ?_ (fun _ => ?_)
set_option maxHeartbeats 8000000 in
set_option maxRecDepth 100000 in
theorem ambrylaw9_known.calls (k : Nat)  (r : Bool) (w : World) (hG : GL w) (h : ambrylaw9_known.f k  = some r) :
    Calls Tryd.prog 8 #[] w fun e w' => e = .returned (.bool r) ∧ Below w.heap.size w w' := by
  have HG := Aside0.mk hG
  clear hG
  have HB := Aside0.mk (Below.refl w.heap.size w)
  have H : ((date_Parse.f k (⟨#[83, 117, 110, 44, 32, 48, 54, 32, 78, 111, 118, 32, 49, 57, 57, 52, 32, 48, 56, 58, 52, 57, 58, 51, 55, 32, 71, 77, 84]⟩ : ByteArray)).bind fun bt206 => ((date_Parse.f k (⟨#[83, 117, 110, 100, 97, 121, 44, 32, 48, 54, 45, 78, 111, 118, 45, 57, 52, 32, 48, 56, 58, 52, 57, 58, 51, 55, 32, 71, 77, 84]⟩ : ByteArray)).bind fun bt208 => ((date_Parse.f k (⟨#[83, 117, 110, 32, 78, 111, 118, 32, 32, 54, 32, 48, 56, 58, 52, 57, 58, 51, 55, 32, 49, 57, 57, 52]⟩ : ByteArray)).bind fun bt210 => ((date_Parse.f k (⟨#[]⟩ : ByteArray)).bind fun bt212 => (if bt206.1 = 784111777 then (if bt208.1 = bt206.1 then (if bt210.1 = bt206.1 then (if (wrap64 ((wrap64 (bt206.2 + bt208.2)) + bt210.2)) = 0 then (if bt212.2 = 80 then ((date_Text.f k bt206.1).bind fun t214 => (some (t214.toList == ([83, 117, 110, 44, 32, 48, 54, 32, 78, 111, 118, 32, 49, 57, 57, 52, 32, 48, 56, 58, 52, 57, 58, 51, 55, 32, 71, 77, 84] : List UInt8)))) else (some false)) else (some false)) else (some false)) else (some false)) else (some false)))))) = some r := h
  clear h
  replace H := Option.bind_eq_some_iff.mp H
  obtain ⟨⟨t206, t207⟩, A10, H⟩ := H
  replace H : ((date_Parse.f k (⟨#[83, 117, 110, 100, 97, 121, 44, 32, 48, 54, 45, 78, 111, 118, 45, 57, 52, 32, 48, 56, 58, 52, 57, 58, 51, 55, 32, 71, 77, 84]⟩ : ByteArray)).bind fun bt208 => ((date_Parse.f k (⟨#[83, 117, 110, 32, 78, 111, 118, 32, 32, 54, 32, 48, 56, 58, 52, 57, 58, 51, 55, 32, 49, 57, 57, 52]⟩ : ByteArray)).bind fun bt210 => ((date_Parse.f k (⟨#[]⟩ : ByteArray)).bind fun bt212 => (if t206 = 784111777 then (if bt208.1 = t206 then (if bt210.1 = t206 then (if (wrap64 ((wrap64 (t207 + bt208.2)) + bt210.2)) = 0 then (if bt212.2 = 80 then ((date_Text.f k t206).bind fun t214 => (some (t214.toList == ([83, 117, 110, 44, 32, 48, 54, 32, 78, 111, 118, 32, 49, 57, 57, 52, 32, 48, 56, 58, 52, 57, 58, 51, 55, 32, 71, 77, 84] : List UInt8)))) else (some false)) else (some false)) else (some false)) else (some false)) else (some false))))) = some r := H
  have A1 := Aside0.mk A10
  clear A10
  replace H := Option.bind_eq_some_iff.mp H
  obtain ⟨⟨t208, t209⟩, A20, H⟩ := H
  replace H : ((date_Parse.f k (⟨#[83, 117, 110, 32, 78, 111, 118, 32, 32, 54, 32, 48, 56, 58, 52, 57, 58, 51, 55, 32, 49, 57, 57, 52]⟩ : ByteArray)).bind fun bt210 => ((date_Parse.f k (⟨#[]⟩ : ByteArray)).bind fun bt212 => (if t206 = 784111777 then (if t208 = t206 then (if bt210.1 = t206 then (if (wrap64 ((wrap64 (t207 + t209)) + bt210.2)) = 0 then (if bt212.2 = 80 then ((date_Text.f k t206).bind fun t214 => (some (t214.toList == ([83, 117, 110, 44, 32, 48, 54, 32, 78, 111, 118, 32, 49, 57, 57, 52, 32, 48, 56, 58, 52, 57, 58, 51, 55, 32, 71, 77, 84] : List UInt8)))) else (some false)) else (some false)) else (some false)) else (some false)) else (some false)))) = some r := H
  have A2 := Aside0.mk A20
  clear A20
  replace H := Option.bind_eq_some_iff.mp H
  obtain ⟨⟨t210, t211⟩, A30, H⟩ := H
  replace H : ((date_Parse.f k (⟨#[]⟩ : ByteArray)).bind fun bt212 => (if t206 = 784111777 then (if t208 = t206 then (if t210 = t206 then (if (wrap64 ((wrap64 (t207 + t209)) + t211)) = 0 then (if bt212.2 = 80 then ((date_Text.f k t206).bind fun t214 => (some (t214.toList == ([83, 117, 110, 44, 32, 48, 54, 32, 78, 111, 118, 32, 49, 57, 57, 52, 32, 48, 56, 58, 52, 57, 58, 51, 55, 32, 71, 77, 84] : List UInt8)))) else (some false)) else (some false)) else (some false)) else (some false)) else (some false))) = some r := H
  have A3 := Aside0.mk A30
  clear A30
  replace H := Option.bind_eq_some_iff.mp H
  obtain ⟨⟨t212, t213⟩, A40, H⟩ := H
  replace H : (if t206 = 784111777 then (if t208 = t206 then (if t210 = t206 then (if (wrap64 ((wrap64 (t207 + t209)) + t211)) = 0 then (if t213 = 80 then ((date_Text.f k t206).bind fun t214 => (some (t214.toList == ([83, 117, 110, 44, 32, 48, 54, 32, 78, 111, 118, 32, 49, 57, 57, 52, 32, 48, 56, 58, 52, 57, 58, 51, 55, 32, 71, 77, 84] : List UInt8)))) else (some false)) else (some false)) else (some false)) else (some false)) else (some false)) = some r := H
  have A4 := Aside0.mk A40
  clear A40
  by_cases c5 : t206 = 784111777
  · rw [if_pos c5] at H
    have c5b0 : (t206 == 784111777) = true := beq_iff_eq.mpr c5
    have c5b1 : (t206 != 784111777) = false := bne_eq_false_iff_eq.mpr c5
    clear c5
    by_cases c6 : t208 = t206
    · rw [if_pos c6] at H
      have c6b0 : (t208 == t206) = true := beq_iff_eq.mpr c6
      have c6b1 : (t208 != t206) = false := bne_eq_false_iff_eq.mpr c6
      clear c6
      by_cases c7 : t210 = t206
      · rw [if_pos c7] at H
        have c7b0 : (t210 == t206) = true := beq_iff_eq.mpr c7
        have c7b1 : (t210 != t206) = false := bne_eq_false_iff_eq.mpr c7
        clear c7
        by_cases c8 : (wrap64 ((wrap64 (t207 + t209)) + t211)) = 0
        · rw [if_pos c8] at H
          have c8b0 : ((wrap64 ((wrap64 (t207 + t209)) + t211)) == 0) = true := beq_iff_eq.mpr c8
          have c8b1 : ((wrap64 ((wrap64 (t207 + t209)) + t211)) != 0) = false := bne_eq_false_iff_eq.mpr c8
          clear c8
          by_cases c9 : t213 = 80
          · rw [if_pos c9] at H
            have c9b0 : (t213 == 80) = true := beq_iff_eq.mpr c9
            have c9b1 : (t213 != 80) = false := bne_eq_false_iff_eq.mpr c9
            clear c9
            replace H := Option.bind_eq_some_iff.mp H
            obtain ⟨t214, A100, H⟩ := H
            replace H : (some (t214.toList == ([83, 117, 110, 44, 32, 48, 54, 32, 78, 111, 118, 32, 49, 57, 57, 52, 32, 48, 56, 58, 52, 57, 58, 51, 55, 32, 71, 77, 84] : List UInt8))) = some r := H
            have A10 := Aside0.mk A100
            clear A100
            obtain rfl := Option.some.inj H
            go_enter Tryd.func8, Tryd.ntmps8
            go_wp2_with (first | ((with_reducible refine gate_callee (f := 10) rfl ?_); refine goesL_ (some 10) rfl rfl Tryd.func10 (by kernel_rfl) rfl #[.string (⟨#[83, 117, 110, 44, 32, 48, 54, 32, 78, 111, 118, 32, 49, 57, 57, 52, 32, 48, 56, 58, 52, 57, 58, 51, 55, 32, 71, 77, 84]⟩ : ByteArray)] rfl (by (try simp only [List.map_toArray, List.map_cons, List.map_nil]); first | done | rfl | (simp only [List.length_drop, List.length_take]; rfl)) ?_; (with_reducible refine (date_Parse.calls k (⟨#[83, 117, 110, 44, 32, 48, 54, 32, 78, 111, 118, 32, 49, 57, 57, 52, 32, 48, 56, 58, 52, 57, 58, 51, 55, 32, 71, 77, 84]⟩ : ByteArray) t206 t207 _ ?side1 A1.out).mono ?_); (case side1 => exact GL.below HG.out (by repeat (first | (with_reducible first | exact HB.out | apply below_alloc | apply pw_below_drewN | apply below_drew1) | exact HB.out))); rintro e w11 ⟨rfl, hb⟩; refine ⟨_, rfl, ?_⟩; have n0_ := Aside0.mk (below_step (by repeat (first | (with_reducible first | exact HB.out | apply below_alloc | apply pw_below_drewN | apply below_drew1) | exact HB.out)) hb); clear HB; have HB := n0_; clear n0_; (try clear hb); (try clear hb2); (try clear hk); (try clear hi)) | ((with_reducible refine gate_callee (f := 10) rfl ?_); refine goesL_ (some 14) rfl rfl Tryd.func10 (by kernel_rfl) rfl #[.string (⟨#[83, 117, 110, 100, 97, 121, 44, 32, 48, 54, 45, 78, 111, 118, 45, 57, 52, 32, 48, 56, 58, 52, 57, 58, 51, 55, 32, 71, 77, 84]⟩ : ByteArray)] rfl (by (try simp only [List.map_toArray, List.map_cons, List.map_nil]); first | done | rfl | (simp only [List.length_drop, List.length_take]; rfl)) ?_; (with_reducible refine (date_Parse.calls k (⟨#[83, 117, 110, 100, 97, 121, 44, 32, 48, 54, 45, 78, 111, 118, 45, 57, 52, 32, 48, 56, 58, 52, 57, 58, 51, 55, 32, 71, 77, 84]⟩ : ByteArray) t208 t209 _ ?side1 A2.out).mono ?_); (case side1 => exact GL.below HG.out (by repeat (first | (with_reducible first | exact HB.out | apply below_alloc | apply pw_below_drewN | apply below_drew1) | exact HB.out))); rintro e w12 ⟨rfl, hb⟩; refine ⟨_, rfl, ?_⟩; have n0_ := Aside0.mk (below_step (by repeat (first | (with_reducible first | exact HB.out | apply below_alloc | apply pw_below_drewN | apply below_drew1) | exact HB.out)) hb); clear HB; have HB := n0_; clear n0_; (try clear hb); (try clear hb2); (try clear hk); (try clear hi)) | ((with_reducible refine gate_callee (f := 10) rfl ?_); refine goesL_ (some 18) rfl rfl Tryd.func10 (by kernel_rfl) rfl #[.string (⟨#[83, 117, 110, 32, 78, 111, 118, 32, 32, 54, 32, 48, 56, 58, 52, 57, 58, 51, 55, 32, 49, 57, 57, 52]⟩ : ByteArray)] rfl (by (try simp only [List.map_toArray, List.map_cons, List.map_nil]); first | done | rfl | (simp only [List.length_drop, List.length_take]; rfl)) ?_; (with_reducible refine (date_Parse.calls k (⟨#[83, 117, 110, 32, 78, 111, 118, 32, 32, 54, 32, 48, 56, 58, 52, 57, 58, 51, 55, 32, 49, 57, 57, 52]⟩ : ByteArray) t210 t211 _ ?side1 A3.out).mono ?_); (case side1 => exact GL.below HG.out (by repeat (first | (with_reducible first | exact HB.out | apply below_alloc | apply pw_below_drewN | apply below_drew1) | exact HB.out))); rintro e w13 ⟨rfl, hb⟩; refine ⟨_, rfl, ?_⟩; have n0_ := Aside0.mk (below_step (by repeat (first | (with_reducible first | exact HB.out | apply below_alloc | apply pw_below_drewN | apply below_drew1) | exact HB.out)) hb); clear HB; have HB := n0_; clear n0_; (try clear hb); (try clear hb2); (try clear hk); (try clear hi)) | ((with_reducible refine gate_callee (f := 10) rfl ?_); refine goesL_ (some 22) rfl rfl Tryd.func10 (by kernel_rfl) rfl #[.string (⟨#[]⟩ : ByteArray)] rfl (by (try simp only [List.map_toArray, List.map_cons, List.map_nil]); first | done | rfl | (simp only [List.length_drop, List.length_take]; rfl)) ?_; (with_reducible refine (date_Parse.calls k (⟨#[]⟩ : ByteArray) t212 t213 _ ?side1 A4.out).mono ?_); (case side1 => exact GL.below HG.out (by repeat (first | (with_reducible first | exact HB.out | apply below_alloc | apply pw_below_drewN | apply below_drew1) | exact HB.out))); rintro e w14 ⟨rfl, hb⟩; refine ⟨_, rfl, ?_⟩; have n0_ := Aside0.mk (below_step (by repeat (first | (with_reducible first | exact HB.out | apply below_alloc | apply pw_below_drewN | apply below_drew1) | exact HB.out)) hb); clear HB; have HB := n0_; clear n0_; (try clear hb); (try clear hb2); (try clear hk); (try clear hi)) | (go_at_call 9; (with_reducible refine (date_Text.calls k t206 t214 _ ?side1 A10.out).mono ?_); (case side1 => exact GL.below HG.out (by repeat (first | (with_reducible first | exact HB.out | apply below_alloc | apply pw_below_drewN | apply below_drew1) | exact HB.out))); rintro e w15 ⟨rfl, hb⟩; have n0_ := Aside0.mk (below_step (by repeat (first | (with_reducible first | exact HB.out | apply below_alloc | apply pw_below_drewN | apply below_drew1) | exact HB.out)) hb); clear HB; have HB := n0_; clear n0_; (try clear hb); (try clear hb2); (try clear hk); (try clear hi)))
            go_ret
            exact ⟨by first | rfl | (simp [errW_none, errW_some] <;> rfl) | (simp [*, errW_none, errW_some] <;> rfl), by repeat (first | (with_reducible first | exact HB.out | apply below_alloc | apply pw_below_drewN | apply below_drew1) | exact HB.out)⟩
          · rw [if_neg c9] at H
            have c9b0 : (t213 == 80) = false := beq_eq_false_iff_ne.mpr c9
            have c9b1 : (t213 != 80) = true := bne_iff_ne.mpr c9
            obtain rfl := Option.some.inj H
            go_enter Tryd.func8, Tryd.ntmps8
            go_wp2_with (first | ((with_reducible refine gate_callee (f := 10) rfl ?_); refine goesL_ (some 10) rfl rfl Tryd.func10 (by kernel_rfl) rfl #[.string (⟨#[83, 117, 110, 44, 32, 48, 54, 32, 78, 111, 118, 32, 49, 57, 57, 52, 32, 48, 56, 58, 52, 57, 58, 51, 55, 32, 71, 77, 84]⟩ : ByteArray)] rfl (by (try simp only [List.map_toArray, List.map_cons, List.map_nil]); first | done | rfl | (simp only [List.length_drop, List.length_take]; rfl)) ?_; (with_reducible refine (date_Parse.calls k (⟨#[83, 117, 110, 44, 32, 48, 54, 32, 78, 111, 118, 32, 49, 57, 57, 52, 32, 48, 56, 58, 52, 57, 58, 51, 55, 32, 71, 77, 84]⟩ : ByteArray) t206 t207 _ ?side1 A1.out).mono ?_); (case side1 => exact GL.below HG.out (by repeat (first | (with_reducible first | exact HB.out | apply below_alloc | apply pw_below_drewN | apply below_drew1) | exact HB.out))); rintro e w16 ⟨rfl, hb⟩; refine ⟨_, rfl, ?_⟩; have n0_ := Aside0.mk (below_step (by repeat (first | (with_reducible first | exact HB.out | apply below_alloc | apply pw_below_drewN | apply below_drew1) | exact HB.out)) hb); clear HB; have HB := n0_; clear n0_; (try clear hb); (try clear hb2); (try clear hk); (try clear hi)) | ((with_reducible refine gate_callee (f := 10) rfl ?_); refine goesL_ (some 14) rfl rfl Tryd.func10 (by kernel_rfl) rfl #[.string (⟨#[83, 117, 110, 100, 97, 121, 44, 32, 48, 54, 45, 78, 111, 118, 45, 57, 52, 32, 48, 56, 58, 52, 57, 58, 51, 55, 32, 71, 77, 84]⟩ : ByteArray)] rfl (by (try simp only [List.map_toArray, List.map_cons, List.map_nil]); first | done | rfl | (simp only [List.length_drop, List.length_take]; rfl)) ?_; (with_reducible refine (date_Parse.calls k (⟨#[83, 117, 110, 100, 97, 121, 44, 32, 48, 54, 45, 78, 111, 118, 45, 57, 52, 32, 48, 56, 58, 52, 57, 58, 51, 55, 32, 71, 77, 84]⟩ : ByteArray) t208 t209 _ ?side1 A2.out).mono ?_); (case side1 => exact GL.below HG.out (by repeat (first | (with_reducible first | exact HB.out | apply below_alloc | apply pw_below_drewN | apply below_drew1) | exact HB.out))); rintro e w17 ⟨rfl, hb⟩; refine ⟨_, rfl, ?_⟩; have n0_ := Aside0.mk (below_step (by repeat (first | (with_reducible first | exact HB.out | apply below_alloc | apply pw_below_drewN | apply below_drew1) | exact HB.out)) hb); clear HB; have HB := n0_; clear n0_; (try clear hb); (try clear hb2); (try clear hk); (try clear hi)) | ((with_reducible refine gate_callee (f := 10) rfl ?_); refine goesL_ (some 18) rfl rfl Tryd.func10 (by kernel_rfl) rfl #[.string (⟨#[83, 117, 110, 32, 78, 111, 118, 32, 32, 54, 32, 48, 56, 58, 52, 57, 58, 51, 55, 32, 49, 57, 57, 52]⟩ : ByteArray)] rfl (by (try simp only [List.map_toArray, List.map_cons, List.map_nil]); first | done | rfl | (simp only [List.length_drop, List.length_take]; rfl)) ?_; (with_reducible refine (date_Parse.calls k (⟨#[83, 117, 110, 32, 78, 111, 118, 32, 32, 54, 32, 48, 56, 58, 52, 57, 58, 51, 55, 32, 49, 57, 57, 52]⟩ : ByteArray) t210 t211 _ ?side1 A3.out).mono ?_); (case side1 => exact GL.below HG.out (by repeat (first | (with_reducible first | exact HB.out | apply below_alloc | apply pw_below_drewN | apply below_drew1) | exact HB.out))); rintro e w18 ⟨rfl, hb⟩; refine ⟨_, rfl, ?_⟩; have n0_ := Aside0.mk (below_step (by repeat (first | (with_reducible first | exact HB.out | apply below_alloc | apply pw_below_drewN | apply below_drew1) | exact HB.out)) hb); clear HB; have HB := n0_; clear n0_; (try clear hb); (try clear hb2); (try clear hk); (try clear hi)) | ((with_reducible refine gate_callee (f := 10) rfl ?_); refine goesL_ (some 22) rfl rfl Tryd.func10 (by kernel_rfl) rfl #[.string (⟨#[]⟩ : ByteArray)] rfl (by (try simp only [List.map_toArray, List.map_cons, List.map_nil]); first | done | rfl | (simp only [List.length_drop, List.length_take]; rfl)) ?_; (with_reducible refine (date_Parse.calls k (⟨#[]⟩ : ByteArray) t212 t213 _ ?side1 A4.out).mono ?_); (case side1 => exact GL.below HG.out (by repeat (first | (with_reducible first | exact HB.out | apply below_alloc | apply pw_below_drewN | apply below_drew1) | exact HB.out))); rintro e w19 ⟨rfl, hb⟩; refine ⟨_, rfl, ?_⟩; have n0_ := Aside0.mk (below_step (by repeat (first | (with_reducible first | exact HB.out | apply below_alloc | apply pw_below_drewN | apply below_drew1) | exact HB.out)) hb); clear HB; have HB := n0_; clear n0_; (try clear hb); (try clear hb2); (try clear hk); (try clear hi)))
            go_ret
            exact ⟨by first | rfl | (simp [errW_none, errW_some] <;> rfl) | (simp [*, errW_none, errW_some] <;> rfl), by repeat (first | (with_reducible first | exact HB.out | apply below_alloc | apply pw_below_drewN | apply below_drew1) | exact HB.out)⟩
        · rw [if_neg c8] at H
          have c8b0 : ((wrap64 ((wrap64 (t207 + t209)) + t211)) == 0) = false := beq_eq_false_iff_ne.mpr c8
          have c8b1 : ((wrap64 ((wrap64 (t207 + t209)) + t211)) != 0) = true := bne_iff_ne.mpr c8
          obtain rfl := Option.some.inj H
          go_enter Tryd.func8, Tryd.ntmps8
          go_wp2_with (first | ((with_reducible refine gate_callee (f := 10) rfl ?_); refine goesL_ (some 10) rfl rfl Tryd.func10 (by kernel_rfl) rfl #[.string (⟨#[83, 117, 110, 44, 32, 48, 54, 32, 78, 111, 118, 32, 49, 57, 57, 52, 32, 48, 56, 58, 52, 57, 58, 51, 55, 32, 71, 77, 84]⟩ : ByteArray)] rfl (by (try simp only [List.map_toArray, List.map_cons, List.map_nil]); first | done | rfl | (simp only [List.length_drop, List.length_take]; rfl)) ?_; (with_reducible refine (date_Parse.calls k (⟨#[83, 117, 110, 44, 32, 48, 54, 32, 78, 111, 118, 32, 49, 57, 57, 52, 32, 48, 56, 58, 52, 57, 58, 51, 55, 32, 71, 77, 84]⟩ : ByteArray) t206 t207 _ ?side1 A1.out).mono ?_); (case side1 => exact GL.below HG.out (by repeat (first | (with_reducible first | exact HB.out | apply below_alloc | apply pw_below_drewN | apply below_drew1) | exact HB.out))); rintro e w20 ⟨rfl, hb⟩; refine ⟨_, rfl, ?_⟩; have n0_ := Aside0.mk (below_step (by repeat (first | (with_reducible first | exact HB.out | apply below_alloc | apply pw_below_drewN | apply below_drew1) | exact HB.out)) hb); clear HB; have HB := n0_; clear n0_; (try clear hb); (try clear hb2); (try clear hk); (try clear hi)) | ((with_reducible refine gate_callee (f := 10) rfl ?_); refine goesL_ (some 14) rfl rfl Tryd.func10 (by kernel_rfl) rfl #[.string (⟨#[83, 117, 110, 100, 97, 121, 44, 32, 48, 54, 45, 78, 111, 118, 45, 57, 52, 32, 48, 56, 58, 52, 57, 58, 51, 55, 32, 71, 77, 84]⟩ : ByteArray)] rfl (by (try simp only [List.map_toArray, List.map_cons, List.map_nil]); first | done | rfl | (simp only [List.length_drop, List.length_take]; rfl)) ?_; (with_reducible refine (date_Parse.calls k (⟨#[83, 117, 110, 100, 97, 121, 44, 32, 48, 54, 45, 78, 111, 118, 45, 57, 52, 32, 48, 56, 58, 52, 57, 58, 51, 55, 32, 71, 77, 84]⟩ : ByteArray) t208 t209 _ ?side1 A2.out).mono ?_); (case side1 => exact GL.below HG.out (by repeat (first | (with_reducible first | exact HB.out | apply below_alloc | apply pw_below_drewN | apply below_drew1) | exact HB.out))); rintro e w21 ⟨rfl, hb⟩; refine ⟨_, rfl, ?_⟩; have n0_ := Aside0.mk (below_step (by repeat (first | (with_reducible first | exact HB.out | apply below_alloc | apply pw_below_drewN | apply below_drew1) | exact HB.out)) hb); clear HB; have HB := n0_; clear n0_; (try clear hb); (try clear hb2); (try clear hk); (try clear hi)) | ((with_reducible refine gate_callee (f := 10) rfl ?_); refine goesL_ (some 18) rfl rfl Tryd.func10 (by kernel_rfl) rfl #[.string (⟨#[83, 117, 110, 32, 78, 111, 118, 32, 32, 54, 32, 48, 56, 58, 52, 57, 58, 51, 55, 32, 49, 57, 57, 52]⟩ : ByteArray)] rfl (by (try simp only [List.map_toArray, List.map_cons, List.map_nil]); first | done | rfl | (simp only [List.length_drop, List.length_take]; rfl)) ?_; (with_reducible refine (date_Parse.calls k (⟨#[83, 117, 110, 32, 78, 111, 118, 32, 32, 54, 32, 48, 56, 58, 52, 57, 58, 51, 55, 32, 49, 57, 57, 52]⟩ : ByteArray) t210 t211 _ ?side1 A3.out).mono ?_); (case side1 => exact GL.below HG.out (by repeat (first | (with_reducible first | exact HB.out | apply below_alloc | apply pw_below_drewN | apply below_drew1) | exact HB.out))); rintro e w22 ⟨rfl, hb⟩; refine ⟨_, rfl, ?_⟩; have n0_ := Aside0.mk (below_step (by repeat (first | (with_reducible first | exact HB.out | apply below_alloc | apply pw_below_drewN | apply below_drew1) | exact HB.out)) hb); clear HB; have HB := n0_; clear n0_; (try clear hb); (try clear hb2); (try clear hk); (try clear hi)) | ((with_reducible refine gate_callee (f := 10) rfl ?_); refine goesL_ (some 22) rfl rfl Tryd.func10 (by kernel_rfl) rfl #[.string (⟨#[]⟩ : ByteArray)] rfl (by (try simp only [List.map_toArray, List.map_cons, List.map_nil]); first | done | rfl | (simp only [List.length_drop, List.length_take]; rfl)) ?_; (with_reducible refine (date_Parse.calls k (⟨#[]⟩ : ByteArray) t212 t213 _ ?side1 A4.out).mono ?_); (case side1 => exact GL.below HG.out (by repeat (first | (with_reducible first | exact HB.out | apply below_alloc | apply pw_below_drewN | apply below_drew1) | exact HB.out))); rintro e w23 ⟨rfl, hb⟩; refine ⟨_, rfl, ?_⟩; have n0_ := Aside0.mk (below_step (by repeat (first | (with_reducible first | exact HB.out | apply below_alloc | apply pw_below_drewN | apply below_drew1) | exact HB.out)) hb); clear HB; have HB := n0_; clear n0_; (try clear hb); (try clear hb2); (try clear hk); (try clear hi)))
          go_ret
          exact ⟨by first | rfl | (simp [errW_none, errW_some] <;> rfl) | (simp [*, errW_none, errW_some] <;> rfl), by repeat (first | (with_reducible first | exact HB.out | apply below_alloc | apply pw_below_drewN | apply below_drew1) | exact HB.out)⟩
      · rw [if_neg c7] at H
        have c7b0 : (t210 == t206) = false := beq_eq_false_iff_ne.mpr c7
        have c7b1 : (t210 != t206) = true := bne_iff_ne.mpr c7
        obtain rfl := Option.some.inj H
        go_enter Tryd.func8, Tryd.ntmps8
        go_wp2_with (first | ((with_reducible refine gate_callee (f := 10) rfl ?_); refine goesL_ (some 10) rfl rfl Tryd.func10 (by kernel_rfl) rfl #[.string (⟨#[83, 117, 110, 44, 32, 48, 54, 32, 78, 111, 118, 32, 49, 57, 57, 52, 32, 48, 56, 58, 52, 57, 58, 51, 55, 32, 71, 77, 84]⟩ : ByteArray)] rfl (by (try simp only [List.map_toArray, List.map_cons, List.map_nil]); first | done | rfl | (simp only [List.length_drop, List.length_take]; rfl)) ?_; (with_reducible refine (date_Parse.calls k (⟨#[83, 117, 110, 44, 32, 48, 54, 32, 78, 111, 118, 32, 49, 57, 57, 52, 32, 48, 56, 58, 52, 57, 58, 51, 55, 32, 71, 77, 84]⟩ : ByteArray) t206 t207 _ ?side1 A1.out).mono ?_); (case side1 => exact GL.below HG.out (by repeat (first | (with_reducible first | exact HB.out | apply below_alloc | apply pw_below_drewN | apply below_drew1) | exact HB.out))); rintro e w24 ⟨rfl, hb⟩; refine ⟨_, rfl, ?_⟩; have n0_ := Aside0.mk (below_step (by repeat (first | (with_reducible first | exact HB.out | apply below_alloc | apply pw_below_drewN | apply below_drew1) | exact HB.out)) hb); clear HB; have HB := n0_; clear n0_; (try clear hb); (try clear hb2); (try clear hk); (try clear hi)) | ((with_reducible refine gate_callee (f := 10) rfl ?_); refine goesL_ (some 14) rfl rfl Tryd.func10 (by kernel_rfl) rfl #[.string (⟨#[83, 117, 110, 100, 97, 121, 44, 32, 48, 54, 45, 78, 111, 118, 45, 57, 52, 32, 48, 56, 58, 52, 57, 58, 51, 55, 32, 71, 77, 84]⟩ : ByteArray)] rfl (by (try simp only [List.map_toArray, List.map_cons, List.map_nil]); first | done | rfl | (simp only [List.length_drop, List.length_take]; rfl)) ?_; (with_reducible refine (date_Parse.calls k (⟨#[83, 117, 110, 100, 97, 121, 44, 32, 48, 54, 45, 78, 111, 118, 45, 57, 52, 32, 48, 56, 58, 52, 57, 58, 51, 55, 32, 71, 77, 84]⟩ : ByteArray) t208 t209 _ ?side1 A2.out).mono ?_); (case side1 => exact GL.below HG.out (by repeat (first | (with_reducible first | exact HB.out | apply below_alloc | apply pw_below_drewN | apply below_drew1) | exact HB.out))); rintro e w25 ⟨rfl, hb⟩; refine ⟨_, rfl, ?_⟩; have n0_ := Aside0.mk (below_step (by repeat (first | (with_reducible first | exact HB.out | apply below_alloc | apply pw_below_drewN | apply below_drew1) | exact HB.out)) hb); clear HB; have HB := n0_; clear n0_; (try clear hb); (try clear hb2); (try clear hk); (try clear hi)) | ((with_reducible refine gate_callee (f := 10) rfl ?_); refine goesL_ (some 18) rfl rfl Tryd.func10 (by kernel_rfl) rfl #[.string (⟨#[83, 117, 110, 32, 78, 111, 118, 32, 32, 54, 32, 48, 56, 58, 52, 57, 58, 51, 55, 32, 49, 57, 57, 52]⟩ : ByteArray)] rfl (by (try simp only [List.map_toArray, List.map_cons, List.map_nil]); first | done | rfl | (simp only [List.length_drop, List.length_take]; rfl)) ?_; (with_reducible refine (date_Parse.calls k (⟨#[83, 117, 110, 32, 78, 111, 118, 32, 32, 54, 32, 48, 56, 58, 52, 57, 58, 51, 55, 32, 49, 57, 57, 52]⟩ : ByteArray) t210 t211 _ ?side1 A3.out).mono ?_); (case side1 => exact GL.below HG.out (by repeat (first | (with_reducible first | exact HB.out | apply below_alloc | apply pw_below_drewN | apply below_drew1) | exact HB.out))); rintro e w26 ⟨rfl, hb⟩; refine ⟨_, rfl, ?_⟩; have n0_ := Aside0.mk (below_step (by repeat (first | (with_reducible first | exact HB.out | apply below_alloc | apply pw_below_drewN | apply below_drew1) | exact HB.out)) hb); clear HB; have HB := n0_; clear n0_; (try clear hb); (try clear hb2); (try clear hk); (try clear hi)) | ((with_reducible refine gate_callee (f := 10) rfl ?_); refine goesL_ (some 22) rfl rfl Tryd.func10 (by kernel_rfl) rfl #[.string (⟨#[]⟩ : ByteArray)] rfl (by (try simp only [List.map_toArray, List.map_cons, List.map_nil]); first | done | rfl | (simp only [List.length_drop, List.length_take]; rfl)) ?_; (with_reducible refine (date_Parse.calls k (⟨#[]⟩ : ByteArray) t212 t213 _ ?side1 A4.out).mono ?_); (case side1 => exact GL.below HG.out (by repeat (first | (with_reducible first | exact HB.out | apply below_alloc | apply pw_below_drewN | apply below_drew1) | exact HB.out))); rintro e w27 ⟨rfl, hb⟩; refine ⟨_, rfl, ?_⟩; have n0_ := Aside0.mk (below_step (by repeat (first | (with_reducible first | exact HB.out | apply below_alloc | apply pw_below_drewN | apply below_drew1) | exact HB.out)) hb); clear HB; have HB := n0_; clear n0_; (try clear hb); (try clear hb2); (try clear hk); (try clear hi)))
        go_ret
        exact ⟨by first | rfl | (simp [errW_none, errW_some] <;> rfl) | (simp [*, errW_none, errW_some] <;> rfl), by repeat (first | (with_reducible first | exact HB.out | apply below_alloc | apply pw_below_drewN | apply below_drew1) | exact HB.out)⟩
    · rw [if_neg c6] at H
      have c6b0 : (t208 == t206) = false := beq_eq_false_iff_ne.mpr c6
      have c6b1 : (t208 != t206) = true := bne_iff_ne.mpr c6
      obtain rfl := Option.some.inj H
      go_enter Tryd.func8, Tryd.ntmps8
      go_wp2_with (first | ((with_reducible refine gate_callee (f := 10) rfl ?_); refine goesL_ (some 10) rfl rfl Tryd.func10 (by kernel_rfl) rfl #[.string (⟨#[83, 117, 110, 44, 32, 48, 54, 32, 78, 111, 118, 32, 49, 57, 57, 52, 32, 48, 56, 58, 52, 57, 58, 51, 55, 32, 71, 77, 84]⟩ : ByteArray)] rfl (by (try simp only [List.map_toArray, List.map_cons, List.map_nil]); first | done | rfl | (simp only [List.length_drop, List.length_take]; rfl)) ?_; (with_reducible refine (date_Parse.calls k (⟨#[83, 117, 110, 44, 32, 48, 54, 32, 78, 111, 118, 32, 49, 57, 57, 52, 32, 48, 56, 58, 52, 57, 58, 51, 55, 32, 71, 77, 84]⟩ : ByteArray) t206 t207 _ ?side1 A1.out).mono ?_); (case side1 => exact GL.below HG.out (by repeat (first | (with_reducible first | exact HB.out | apply below_alloc | apply pw_below_drewN | apply below_drew1) | exact HB.out))); rintro e w28 ⟨rfl, hb⟩; refine ⟨_, rfl, ?_⟩; have n0_ := Aside0.mk (below_step (by repeat (first | (with_reducible first | exact HB.out | apply below_alloc | apply pw_below_drewN | apply below_drew1) | exact HB.out)) hb); clear HB; have HB := n0_; clear n0_; (try clear hb); (try clear hb2); (try clear hk); (try clear hi)) | ((with_reducible refine gate_callee (f := 10) rfl ?_); refine goesL_ (some 14) rfl rfl Tryd.func10 (by kernel_rfl) rfl #[.string (⟨#[83, 117, 110, 100, 97, 121, 44, 32, 48, 54, 45, 78, 111, 118, 45, 57, 52, 32, 48, 56, 58, 52, 57, 58, 51, 55, 32, 71, 77, 84]⟩ : ByteArray)] rfl (by (try simp only [List.map_toArray, List.map_cons, List.map_nil]); first | done | rfl | (simp only [List.length_drop, List.length_take]; rfl)) ?_; (with_reducible refine (date_Parse.calls k (⟨#[83, 117, 110, 100, 97, 121, 44, 32, 48, 54, 45, 78, 111, 118, 45, 57, 52, 32, 48, 56, 58, 52, 57, 58, 51, 55, 32, 71, 77, 84]⟩ : ByteArray) t208 t209 _ ?side1 A2.out).mono ?_); (case side1 => exact GL.below HG.out (by repeat (first | (with_reducible first | exact HB.out | apply below_alloc | apply pw_below_drewN | apply below_drew1) | exact HB.out))); rintro e w29 ⟨rfl, hb⟩; refine ⟨_, rfl, ?_⟩; have n0_ := Aside0.mk (below_step (by repeat (first | (with_reducible first | exact HB.out | apply below_alloc | apply pw_below_drewN | apply below_drew1) | exact HB.out)) hb); clear HB; have HB := n0_; clear n0_; (try clear hb); (try clear hb2); (try clear hk); (try clear hi)) | ((with_reducible refine gate_callee (f := 10) rfl ?_); refine goesL_ (some 18) rfl rfl Tryd.func10 (by kernel_rfl) rfl #[.string (⟨#[83, 117, 110, 32, 78, 111, 118, 32, 32, 54, 32, 48, 56, 58, 52, 57, 58, 51, 55, 32, 49, 57, 57, 52]⟩ : ByteArray)] rfl (by (try simp only [List.map_toArray, List.map_cons, List.map_nil]); first | done | rfl | (simp only [List.length_drop, List.length_take]; rfl)) ?_; (with_reducible refine (date_Parse.calls k (⟨#[83, 117, 110, 32, 78, 111, 118, 32, 32, 54, 32, 48, 56, 58, 52, 57, 58, 51, 55, 32, 49, 57, 57, 52]⟩ : ByteArray) t210 t211 _ ?side1 A3.out).mono ?_); (case side1 => exact GL.below HG.out (by repeat (first | (with_reducible first | exact HB.out | apply below_alloc | apply pw_below_drewN | apply below_drew1) | exact HB.out))); rintro e w30 ⟨rfl, hb⟩; refine ⟨_, rfl, ?_⟩; have n0_ := Aside0.mk (below_step (by repeat (first | (with_reducible first | exact HB.out | apply below_alloc | apply pw_below_drewN | apply below_drew1) | exact HB.out)) hb); clear HB; have HB := n0_; clear n0_; (try clear hb); (try clear hb2); (try clear hk); (try clear hi)) | ((with_reducible refine gate_callee (f := 10) rfl ?_); refine goesL_ (some 22) rfl rfl Tryd.func10 (by kernel_rfl) rfl #[.string (⟨#[]⟩ : ByteArray)] rfl (by (try simp only [List.map_toArray, List.map_cons, List.map_nil]); first | done | rfl | (simp only [List.length_drop, List.length_take]; rfl)) ?_; (with_reducible refine (date_Parse.calls k (⟨#[]⟩ : ByteArray) t212 t213 _ ?side1 A4.out).mono ?_); (case side1 => exact GL.below HG.out (by repeat (first | (with_reducible first | exact HB.out | apply below_alloc | apply pw_below_drewN | apply below_drew1) | exact HB.out))); rintro e w31 ⟨rfl, hb⟩; refine ⟨_, rfl, ?_⟩; have n0_ := Aside0.mk (below_step (by repeat (first | (with_reducible first | exact HB.out | apply below_alloc | apply pw_below_drewN | apply below_drew1) | exact HB.out)) hb); clear HB; have HB := n0_; clear n0_; (try clear hb); (try clear hb2); (try clear hk); (try clear hi)))
      go_ret
      exact ⟨by first | rfl | (simp [errW_none, errW_some] <;> rfl) | (simp [*, errW_none, errW_some] <;> rfl), by repeat (first | (with_reducible first | exact HB.out | apply below_alloc | apply pw_below_drewN | apply below_drew1) | exact HB.out)⟩
  · rw [if_neg c5] at H
    have c5b0 : (t206 == 784111777) = false := beq_eq_false_iff_ne.mpr c5
    have c5b1 : (t206 != 784111777) = true := bne_iff_ne.mpr c5
    obtain rfl := Option.some.inj H
    go_enter Tryd.func8, Tryd.ntmps8
    go_wp2_with (first | ((with_reducible refine gate_callee (f := 10) rfl ?_); refine goesL_ (some 10) rfl rfl Tryd.func10 (by kernel_rfl) rfl #[.string (⟨#[83, 117, 110, 44, 32, 48, 54, 32, 78, 111, 118, 32, 49, 57, 57, 52, 32, 48, 56, 58, 52, 57, 58, 51, 55, 32, 71, 77, 84]⟩ : ByteArray)] rfl (by (try simp only [List.map_toArray, List.map_cons, List.map_nil]); first | done | rfl | (simp only [List.length_drop, List.length_take]; rfl)) ?_; (with_reducible refine (date_Parse.calls k (⟨#[83, 117, 110, 44, 32, 48, 54, 32, 78, 111, 118, 32, 49, 57, 57, 52, 32, 48, 56, 58, 52, 57, 58, 51, 55, 32, 71, 77, 84]⟩ : ByteArray) t206 t207 _ ?side1 A1.out).mono ?_); (case side1 => exact GL.below HG.out (by repeat (first | (with_reducible first | exact HB.out | apply below_alloc | apply pw_below_drewN | apply below_drew1) | exact HB.out))); rintro e w32 ⟨rfl, hb⟩; refine ⟨_, rfl, ?_⟩; have n0_ := Aside0.mk (below_step (by repeat (first | (with_reducible first | exact HB.out | apply below_alloc | apply pw_below_drewN | apply below_drew1) | exact HB.out)) hb); clear HB; have HB := n0_; clear n0_; (try clear hb); (try clear hb2); (try clear hk); (try clear hi)) | ((with_reducible refine gate_callee (f := 10) rfl ?_); refine goesL_ (some 14) rfl rfl Tryd.func10 (by kernel_rfl) rfl #[.string (⟨#[83, 117, 110, 100, 97, 121, 44, 32, 48, 54, 45, 78, 111, 118, 45, 57, 52, 32, 48, 56, 58, 52, 57, 58, 51, 55, 32, 71, 77, 84]⟩ : ByteArray)] rfl (by (try simp only [List.map_toArray, List.map_cons, List.map_nil]); first | done | rfl | (simp only [List.length_drop, List.length_take]; rfl)) ?_; (with_reducible refine (date_Parse.calls k (⟨#[83, 117, 110, 100, 97, 121, 44, 32, 48, 54, 45, 78, 111, 118, 45, 57, 52, 32, 48, 56, 58, 52, 57, 58, 51, 55, 32, 71, 77, 84]⟩ : ByteArray) t208 t209 _ ?side1 A2.out).mono ?_); (case side1 => exact GL.below HG.out (by repeat (first | (with_reducible first | exact HB.out | apply below_alloc | apply pw_below_drewN | apply below_drew1) | exact HB.out))); rintro e w33 ⟨rfl, hb⟩; refine ⟨_, rfl, ?_⟩; have n0_ := Aside0.mk (below_step (by repeat (first | (with_reducible first | exact HB.out | apply below_alloc | apply pw_below_drewN | apply below_drew1) | exact HB.out)) hb); clear HB; have HB := n0_; clear n0_; (try clear hb); (try clear hb2); (try clear hk); (try clear hi)) | ((with_reducible refine gate_callee (f := 10) rfl ?_); refine goesL_ (some 18) rfl rfl Tryd.func10 (by kernel_rfl) rfl #[.string (⟨#[83, 117, 110, 32, 78, 111, 118, 32, 32, 54, 32, 48, 56, 58, 52, 57, 58, 51, 55, 32, 49, 57, 57, 52]⟩ : ByteArray)] rfl (by (try simp only [List.map_toArray, List.map_cons, List.map_nil]); first | done | rfl | (simp only [List.length_drop, List.length_take]; rfl)) ?_; (with_reducible refine (date_Parse.calls k (⟨#[83, 117, 110, 32, 78, 111, 118, 32, 32, 54, 32, 48, 56, 58, 52, 57, 58, 51, 55, 32, 49, 57, 57, 52]⟩ : ByteArray) t210 t211 _ ?side1 A3.out).mono ?_); (case side1 => exact GL.below HG.out (by repeat (first | (with_reducible first | exact HB.out | apply below_alloc | apply pw_below_drewN | apply below_drew1) | exact HB.out))); rintro e w34 ⟨rfl, hb⟩; refine ⟨_, rfl, ?_⟩; have n0_ := Aside0.mk (below_step (by repeat (first | (with_reducible first | exact HB.out | apply below_alloc | apply pw_below_drewN | apply below_drew1) | exact HB.out)) hb); clear HB; have HB := n0_; clear n0_; (try clear hb); (try clear hb2); (try clear hk); (try clear hi)) | ((with_reducible refine gate_callee (f := 10) rfl ?_); refine goesL_ (some 22) rfl rfl Tryd.func10 (by kernel_rfl) rfl #[.string (⟨#[]⟩ : ByteArray)] rfl (by (try simp only [List.map_toArray, List.map_cons, List.map_nil]); first | done | rfl | (simp only [List.length_drop, List.length_take]; rfl)) ?_; (with_reducible refine (date_Parse.calls k (⟨#[]⟩ : ByteArray) t212 t213 _ ?side1 A4.out).mono ?_); (case side1 => exact GL.below HG.out (by repeat (first | (with_reducible first | exact HB.out | apply below_alloc | apply pw_below_drewN | apply below_drew1) | exact HB.out))); rintro e w35 ⟨rfl, hb⟩; refine ⟨_, rfl, ?_⟩; have n0_ := Aside0.mk (below_step (by repeat (first | (with_reducible first | exact HB.out | apply below_alloc | apply pw_below_drewN | apply below_drew1) | exact HB.out)) hb); clear HB; have HB := n0_; clear n0_; (try clear hb); (try clear hb2); (try clear hk); (try clear hi)))
    go_ret
    exact ⟨by first | rfl | (simp [errW_none, errW_some] <;> rfl) | (simp [*, errW_none, errW_some] <;> rfl), by repeat (first | (with_reducible first | exact HB.out | apply below_alloc | apply pw_below_drewN | apply below_drew1) | exact HB.out)⟩

end Go.Proofs.YtcejglmmjbmafaaDoor.X
/- Plain Lean: what date.Parse makes of any text. -/
namespace Go.Proofs.YtcejglmmjbmafaaDoor.Pure
open Go.RowKit Go.Proofs.YtcejglmmjbmafaaDoor.X Go.Proofs.YtcejglmmjbmafaaDoor.Cal Go.Proofs.YtcejglmmjbmafaaDoorW.PrintWords Go.Proofs.YtcejglmmjbmafaaDoorW.PrintLast Go.Proofs.YtcejglmmjbmafaaDoorW.PrintMore
set_option linter.unusedVariables false
set_option linter.unusedSimpArgs false

theorem idx_hit : ∀ (l r : List UInt8), (∀ b ∈ l, b ≠ 44) → Lib.indexByte (l ++ 44 :: r) 44 = l.length
  | [], r, _ => by simp [Lib.indexByte]
  | b :: l, r, h => by
    have hb : b ≠ 44 := h b (by simp)
    have ih := idx_hit l r (fun x hx => h x (by simp [hx]))
    have hn : ((l.length : Int) == -1) = false := by simp
    simp only [List.cons_append, Lib.indexByte, ih, hn]
    simp [hb]
theorem idx_none : ∀ (l : List UInt8), (∀ b ∈ l, b ≠ 44) → Lib.indexByte l 44 = -1
  | [], _ => rfl
  | b :: l, h => by
    have hb : b ≠ 44 := h b (by simp)
    have ih := idx_none l (fun x hx => h x (by simp [hx]))
    simp [Lib.indexByte, hb, ih]
theorem idx_range : ∀ (l : List UInt8) (c : UInt8), -1 ≤ Lib.indexByte l c ∧ Lib.indexByte l c < (l.length : Int) 
  | [], _ => by simp [Lib.indexByte]
  | b :: l, c => by
    have ih := idx_range l c
    simp only [Lib.indexByte, List.length_cons]
    split
    · omega
    · split
      · omega
      · omega

/-- A year of two digits. -/
def yr (n : Int) : Int := if n + 1900 < 1970 then n + 2000 else n + 1900
/-- What is read ahead of the trial. -/
def candI (l : List UInt8) (i : Int) : S36 :=
  if i < 0 then ⟨numS l 20 4, monS l 4, numS l 8 2, numS l 11 2, numS l 14 2, numS l 17 2⟩
  else if i = 3 then ⟨numS l 12 4, monS l 8, numS l 5 2, numS l 17 2, numS l 20 2, numS l 23 2⟩
  else ⟨yr (numS l (i + 9).toNat 2), monS l (i + 5).toNat, numS l (i + 2).toNat 2, numS l (i + 12).toNat 2, numS l (i + 15).toNat 2, numS l (i + 18).toNat 2⟩
theorem numS_nn (l : List UInt8) (a sz : Nat) : 0 ≤ numS l a sz := by
  unfold numS
  have : ∀ (l : List UInt8) (n : Int), 0 ≤ n → 0 ≤ l.foldl stepD n := by
    intro l
    induction l with
    | nil => intro n h; exact h
    | cons b l ih => intro n h; exact ih _ (by unfold stepD; split <;> omega)
  exact this _ _ (by omega)
theorem num_e (s : ByteArray) (i : Int) (sz : Nat) (h0 : 0 ≤ i) (h1 : i ≤ 1000000000000) (h2 : sz ≤ 4) : Ev (fun k => date_reader_number.f k s i sz) (numS s.data.toList i.toNat sz) := (num_ev s i sz h0 h1 h2).1
theorem num_hi (s : ByteArray) (i : Int) (sz : Nat) (h0 : 0 ≤ i) (h1 : i ≤ 1000000000000) (h2 : sz ≤ 4) : numS s.data.toList i.toNat sz ≤ 99999999 := (num_ev s i sz h0 h1 h2).2.2
theorem clockE (s : ByteArray) (y mo d i : Int) (h0 : 0 ≤ i) (h1 : i ≤ 100000000000) :
    Ev (fun k => date_reader_clock.f k s y mo d 0 0 0 i) (y, mo, d, numS s.data.toList i.toNat 2, numS s.data.toList (i + 3).toNat 2, numS s.data.toList (i + 6).toNat 2) := by
  have e3 : wrap64 (i + 3) = i + 3 := w64 (by omega) (by omega)
  have e6 : wrap64 (i + 6) = i + 6 := w64 (by omega) (by omega)
  refine Ev.congr (f := fun k => (date_reader_number.f k s i 2).bind fun t105 => ((date_reader_number.f k s (i + 3) 2).bind fun t106 => ((date_reader_number.f k s (i + 6) 2).bind fun t107 => (some (y, mo, d, t105, t106, t107))))) (fun k => by simp only [date_reader_clock.f, e3, e6]) ?_
  refine Ev.bind (f := fun k t105 => ((date_reader_number.f k s (i + 3) 2).bind fun t106 => ((date_reader_number.f k s (i + 6) 2).bind fun t107 => (some (y, mo, d, t105, t106, t107))))) (num_e s i 2 h0 (by omega) (by omega)) ?_
  refine Ev.bind (f := fun k t106 => ((date_reader_number.f k s (i + 6) 2).bind fun t107 => (some (y, mo, d, numS s.data.toList i.toNat 2, t106, t107)))) (num_e s (i + 3) 2 (by omega) (by omega) (by omega)) ?_
  refine Ev.bind (f := fun k t107 => some (y, mo, d, numS s.data.toList i.toNat 2, numS s.data.toList (i + 3).toNat 2, t107)) (num_e s (i + 6) 2 (by omega) (by omega) (by omega)) (Ev.now _)
/-- A year, a month, a day and a clock, at four places. -/
theorem fourE (s : ByteArray) (y : Nat → Option Int) (Y m d c : Int) (hy : Ev y Y) (hm : 0 ≤ m) (hm1 : m ≤ 100000000000) (hd : 0 ≤ d) (hd1 : d ≤ 100000000000) (hc : 0 ≤ c) (hc1 : c ≤ 100000000000) :
    Ev (fun k => (y k).bind fun t1 => (date_reader_month.f s m).bind fun t2 => (date_reader_number.f k s d 2).bind fun t3 => (date_reader_clock.f k s t1 t2 t3 0 0 0 c).bind fun b => some [(⟨b.1, b.2.1, b.2.2.1, b.2.2.2.1, b.2.2.2.2.1, b.2.2.2.2.2⟩ : S36)])
      [⟨Y, monS s.data.toList m.toNat, numS s.data.toList d.toNat 2, numS s.data.toList c.toNat 2, numS s.data.toList (c + 3).toNat 2, numS s.data.toList (c + 6).toNat 2⟩] := by
  refine Ev.bind (f := fun k t1 => (date_reader_month.f s m).bind fun t2 => (date_reader_number.f k s d 2).bind fun t3 => (date_reader_clock.f k s t1 t2 t3 0 0 0 c).bind fun b => some [(⟨b.1, b.2.1, b.2.2.1, b.2.2.2.1, b.2.2.2.2.1, b.2.2.2.2.2⟩ : S36)]) hy ?_
  refine Ev.congr (f := fun k => (date_reader_number.f k s d 2).bind fun t3 => (date_reader_clock.f k s Y (monS s.data.toList m.toNat) t3 0 0 0 c).bind fun b => some [(⟨b.1, b.2.1, b.2.2.1, b.2.2.2.1, b.2.2.2.2.1, b.2.2.2.2.2⟩ : S36)]) (fun k => by rw [month_f s m hm (by omega)]; rfl) ?_
  refine Ev.bind (f := fun k t3 => (date_reader_clock.f k s Y (monS s.data.toList m.toNat) t3 0 0 0 c).bind fun b => some [(⟨b.1, b.2.1, b.2.2.1, b.2.2.2.1, b.2.2.2.2.1, b.2.2.2.2.2⟩ : S36)]) (num_e s d 2 hd (by omega) (by omega)) ?_
  refine Ev.bind (f := fun k b => some [(⟨b.1, b.2.1, b.2.2.1, b.2.2.2.1, b.2.2.2.2.1, b.2.2.2.2.2⟩ : S36)]) (clockE s Y (monS s.data.toList m.toNat) (numS s.data.toList d.toNat 2) c hc hc1) (Ev.now _)
theorem cand_ev (s : ByteArray) (hs : s.size ≤ 1000000000) : Ev (fun k => date_candidates.f k s) [candI s.data.toList (Lib.indexByte s.data.toList 44)] := by
  have hr := idx_range s.data.toList 44
  have hl : s.data.toList.length = s.size := by simp
  generalize hi : Lib.indexByte s.data.toList 44 = i at hr
  have hidx : strings_IndexByte.f s 44 = some i := by rw [← hi]; rfl
  unfold candI
  by_cases c1 : i < 0
  · rw [if_pos c1]
    refine Ev.congr (fun k => ?_) (fourE s (fun k => date_reader_number.f k s 20 4) _ 4 8 11 (num_e s 20 4 (by omega) (by omega) (by omega)) (by omega) (by omega) (by omega) (by omega) (by omega) (by omega))
    simp only [date_candidates.f, hidx, Option.bind_some]
    rw [if_pos c1]
  · by_cases c3 : i = 3
    · rw [if_neg c1, if_pos c3]
      refine Ev.congr (fun k => ?_) (fourE s (fun k => date_reader_number.f k s 12 4) _ 8 5 17 (num_e s 12 4 (by omega) (by omega) (by omega)) (by omega) (by omega) (by omega) (by omega) (by omega) (by omega))
      simp only [date_candidates.f, hidx, Option.bind_some]
      rw [if_neg c1, if_pos c3]
    · rw [if_neg c1, if_neg c3]
      have hn := numS_nn s.data.toList (i + 9).toNat 2
      have hh := num_hi s (i + 9) 2 (by omega) (by omega) (by omega)
      have hnum := num_e s (i + 9) 2 (by omega) (by omega) (by omega)
      have e2 : wrap64 (i + 2) = i + 2 := w64 (by omega) (by omega)
      have e5 : wrap64 (i + 5) = i + 5 := w64 (by omega) (by omega)
      have e9 : wrap64 (i + 9) = i + 9 := w64 (by omega) (by omega)
      have e12 : wrap64 (i + 12) = i + 12 := w64 (by omega) (by omega)
      have a1 : i + 12 + 3 = i + 15 := by omega
      have a2 : i + 12 + 6 = i + 18 := by omega
      have H := fourE s (fun _ => some (yr (numS s.data.toList (i + 9).toNat 2))) _ (i + 5) (i + 2) (i + 12) (Ev.now _) (by omega) (by omega) (by omega) (by omega) (by omega) (by omega)
      rw [a1, a2] at H
      refine Ev.congr (fun k => ?_) (Ev.bind (f := fun k _ => (some (yr (numS s.data.toList (i + 9).toNat 2))).bind fun t1 => (date_reader_month.f s (i + 5)).bind fun t2 => (date_reader_number.f k s (i + 2) 2).bind fun t3 => (date_reader_clock.f k s t1 t2 t3 0 0 0 (i + 12)).bind fun b => some [(⟨b.1, b.2.1, b.2.2.1, b.2.2.2.1, b.2.2.2.2.1, b.2.2.2.2.2⟩ : S36)]) hnum H)
      simp only [date_candidates.f, hidx, Option.bind_some, e2, e5, e9, e12]
      rw [if_neg c1, if_neg c3]
      rcases hq : date_reader_number.f k s (i + 9) 2 with _ | v
      · rfl
      · have hv : v = numS s.data.toList (i + 9).toNat 2 := by
          obtain ⟨K, hK⟩ := hnum
          have h1 := at_rounds (g := fun k => date_reader_number.f k s (i + 9) ((2 : Nat) : Int)) (fun k => date_reader_number.mono _ _ _ k) (Nat.le_max_left k K) hq
          have h2 := hK _ (Nat.le_max_right k K)
          exact Option.some.inj (h1.symm.trans h2)
        rw [hv]
        simp only [Option.bind_some]
        have w1 : wrap64 (numS s.data.toList (i + 9).toNat 2 + 1900) = numS s.data.toList (i + 9).toNat 2 + 1900 := w64 (by omega) (by omega)
        have w2 : wrap64 (numS s.data.toList (i + 9).toNat 2 + 1900 + 100) = numS s.data.toList (i + 9).toNat 2 + 2000 := by rw [w64 (by omega) (by omega)]; omega
        rw [w1, w2]
        unfold yr
        by_cases c4 : numS s.data.toList (i + 9).toNat 2 + 1900 < 1970
        · rw [if_pos c4, if_pos c4]
        · rw [if_neg c4, if_neg c4]
theorem cand_ok (l : List UInt8) (i : Int) : (candI l i).f1 < 12 ∧ 0 ≤ (candI l i).f3 ∧ 0 ≤ (candI l i).f4 ∧ 0 ≤ (candI l i).f5 := by
  unfold candI
  split
  · exact ⟨(monS_hi _ _).2, numS_nn _ _ _, numS_nn _ _ _, numS_nn _ _ _⟩
  · split
    · exact ⟨(monS_hi _ _).2, numS_nn _ _ _, numS_nn _ _ _, numS_nn _ _ _⟩
    · exact ⟨(monS_hi _ _).2, numS_nn _ _ _, numS_nn _ _ _, numS_nn _ _ _⟩
theorem parse_at (s : ByteArray) (hs : s.size ≤ 1000000000) {m : S36} (hm : candI s.data.toList (Lib.indexByte s.data.toList 44) = m) {r : Int × Int} (h : Ev (fun k => parseOne k s m.f0 m.f1 m.f2 m.f3 m.f4 m.f5) r) : Ev (fun k => date_Parse.f k s) r := by
  have hc := cand_ev s hs
  rw [hm] at hc
  exact Ev.bind (f := fun k l => match l with | [m] => parseOne k s m.f0 m.f1 m.f2 m.f3 m.f4 m.f5 | _ => none) hc h
/-- A text that is no time's is refused. -/
theorem parse_no (s : ByteArray) (hs : s.size ≤ 1000000000) (hn : ∀ y mo d h mi sc, Tm y mo d h mi sc → ¬ Says s y mo d h mi sc) : Ev (fun k => date_Parse.f k s) (0, 80) := by
  refine parse_at s hs rfl ?_
  obtain ⟨h1, h2, h3, h4⟩ := cand_ok s.data.toList (Lib.indexByte s.data.toList 44)
  exact one_no s _ _ _ _ _ _ h1 h2 h3 h4 (fun z => hn _ _ _ _ _ _ z.1 z.2)

/-! ### What is said is read -/
theorem stepD_dg (n x : Int) (h0 : 0 ≤ x) (h9 : x ≤ 9) : stepD n (dg x) = 10 * n + x := by
  unfold stepD
  rw [dg_nat h0 h9, if_pos (by omega)]
  omega
theorem stepD_32 (n : Int) : stepD n 32 = n := by
  unfold stepD
  rw [if_neg (by decide)]
theorem two_num (n : Int) (h0 : 0 ≤ n) (h1 : n ≤ 99) : (tw n).foldl stepD 0 = n := by
  simp only [tw, List.foldl_cons, List.foldl_nil]
  rw [stepD_dg _ _ (by omega) (by omega), stepD_dg _ _ (by omega) (by omega)]
  omega
theorem two_num' (n : Int) (h0 : 0 ≤ n) : (tw n).foldl stepD 0 = n % 100 := by
  simp only [tw, List.foldl_cons, List.foldl_nil]
  rw [stepD_dg _ _ (by omega) (by omega), stepD_dg _ _ (by omega) (by omega)]
  omega
theorem four_num (y : Int) (h0 : 0 ≤ y) (h1 : y ≤ 9999) : (tw (y / 100) ++ tw y).foldl stepD 0 = y := by
  simp only [tw, List.cons_append, List.nil_append, List.foldl_cons, List.foldl_nil]
  rw [stepD_dg _ _ (by omega) (by omega), stepD_dg _ _ (by omega) (by omega), stepD_dg _ _ (by omega) (by omega), stepD_dg _ _ (by omega) (by omega)]
  omega
theorem dg_ne (x : Int) (h0 : 0 ≤ x) (h9 : x ≤ 9) : dg x ≠ 44 := by
  intro h
  have := dg_nat h0 h9
  rw [h] at this
  simp at this
  omega
theorem tw_two (n : Int) : ∃ a b, tw n = [a, b] ∧ a ≠ 44 ∧ b ≠ 44 := ⟨_, _, rfl, dg_ne _ (by omega) (by omega), dg_ne _ (by omega) (by omega)⟩
theorem dl_two (d : Int) (h0 : 0 ≤ d) : ∃ a b, dl d = [a, b] ∧ a ≠ 44 ∧ b ≠ 44 := by
  unfold dl
  split
  · exact ⟨_, _, rfl, by decide, dg_ne _ h0 (by omega)⟩
  · exact tw_two d
theorem dl_num (d : Int) (h0 : 0 ≤ d) (h1 : d ≤ 99) : (dl d).foldl stepD 0 = d := by
  unfold dl
  split
  · simp only [List.foldl_cons, List.foldl_nil]
    rw [stepD_32, stepD_dg _ _ h0 (by omega)]
    omega
  · exact two_num d h0 h1
theorem sd_three (w : Int) (hw : 0 ≤ w ∧ w < 7) : ∃ a b c, sd w = [a, b, c] ∧ a ≠ 44 ∧ b ≠ 44 ∧ c ≠ 44 := by
  obtain ⟨h0, h1⟩ := hw
  obtain ⟨n, rfl⟩ := Int.eq_ofNat_of_zero_le h0
  match n, h1 with
  | 0, _ | 1, _ | 2, _ | 3, _ | 4, _ | 5, _ | 6, _ => exact ⟨_, _, _, rfl, by decide, by decide, by decide⟩
  | n + 7, h => omega
theorem m3_three (m : Int) (h0 : 0 ≤ m) (h1 : m < 12) : ∃ a b c, m3 m = [a, b, c] ∧ a ≠ 44 ∧ b ≠ 44 ∧ c ≠ 44 := by
  obtain ⟨n, rfl⟩ := Int.eq_ofNat_of_zero_le h0
  match n, h1 with
  | 0, _ | 1, _ | 2, _ | 3, _ | 4, _ | 5, _ | 6, _ | 7, _ | 8, _ | 9, _ | 10, _ | 11, _ => exact ⟨_, _, _, rfl, by decide, by decide, by decide⟩
  | n + 12, h => omega
theorem ld_ok (w : Int) (hw : 0 ≤ w ∧ w < 7) : 6 ≤ (ld w).length ∧ (ld w).length ≤ 9 ∧ ∀ b ∈ ld w, b ≠ 44 := by
  obtain ⟨h0, h1⟩ := hw
  obtain ⟨n, rfl⟩ := Int.eq_ofNat_of_zero_le h0
  match n, h1 with
  | 0, _ | 1, _ | 2, _ | 3, _ | 4, _ | 5, _ | 6, _ => exact ⟨by decide, by decide, by decide⟩
  | n + 7, h => omega
theorem numS_at (l r t : List UInt8) (a sz : Nat) (h : (l.drop a).take sz = r) {n : Int} (hr : r.foldl stepD 0 = n) : numS l a sz = n := by
  unfold numS
  rw [h, hr]
theorem monS_at (l : List UInt8) (m : Int) (a : Nat) (h0 : 0 ≤ m) (h1 : m < 12) (h : (l.drop a).take 3 = m3 m) : monS l a = m := by
  unfold monS
  have hl := congrArg List.length h
  rw [m3_len m h0 h1] at hl
  simp only [List.length_take, List.length_drop] at hl
  rw [if_neg (by omega), h, mIdx_m3 m h0 h1]
theorem cand_T1 {y mo d h mi s : Int} (t : Tm y mo d h mi s) (w : Int) (hw : 0 ≤ w ∧ w < 7) :
    candI (T1 y mo d h mi s w) (Lib.indexByte (T1 y mo d h mi s w) 44) = ⟨y, mo, d, h, mi, s⟩ := by
  obtain ⟨a, b, c, es, ha, hb, hc⟩ := sd_three w hw
  obtain ⟨p, q, r, em, _⟩ := m3_three mo t.ok.m0 t.ok.m1
  have hi : Lib.indexByte (T1 y mo d h mi s w) 44 = 3 := by
    have := idx_hit [a, b, c] (32 :: (tw d ++ [32] ++ m3 mo ++ [32] ++ tw (y / 100) ++ tw y ++ [32] ++ ck h mi s ++ [32, 71, 77, 84])) (by simp [ha, hb, hc])
    unfold T1
    rw [es]
    simpa using this
  have hd := t.d
  have n1 := four_num y (Int.le_trans (by decide) t.ok.y0) t.ok.y1
  have n2 := two_num d (by omega) (by omega)
  have n3 := two_num h t.h0 (Int.le_trans t.h1 (by decide))
  have n4 := two_num mi t.mi0 (Int.le_trans t.mi1 (by decide))
  have n5 := two_num s t.s0 (Int.le_trans t.s1 (by decide))
  have mm : monS (T1 y mo d h mi s w) 8 = mo := monS_at _ _ 8 t.ok.m0 t.ok.m1 (by
    obtain ⟨d1, d2, e1, _⟩ := tw_two d
    unfold T1
    rw [es, em, e1]
    rfl)
  rw [hi]
  unfold candI
  rw [if_neg (by decide), if_pos rfl, mm]
  unfold T1 ck
  obtain ⟨d1, d2, e1, _⟩ := tw_two d
  obtain ⟨d3, d4, e2, _⟩ := tw_two h
  obtain ⟨d5, d6, e3, _⟩ := tw_two mi
  obtain ⟨d7, d8, e4, _⟩ := tw_two s
  obtain ⟨d9, d10, e5, _⟩ := tw_two (y / 100)
  obtain ⟨d11, d12, e6, _⟩ := tw_two y
  rw [e5, e6] at n1
  rw [e1] at n2
  rw [e2] at n3
  rw [e3] at n4
  rw [e4] at n5
  rw [es, em, e1, e2, e3, e4, e5, e6]
  rw [numS_at _ ([d9, d10] ++ [d11, d12]) [] 12 4 rfl n1, numS_at _ [d1, d2] [] 5 2 rfl n2, numS_at _ [d3, d4] [] 17 2 rfl n3, numS_at _ [d5, d6] [] 20 2 rfl n4, numS_at _ [d7, d8] [] 23 2 rfl n5]
theorem cand_T3 {y mo d h mi s : Int} (t : Tm y mo d h mi s) (w : Int) (hw : 0 ≤ w ∧ w < 7) :
    candI (T3 y mo d h mi s w) (Lib.indexByte (T3 y mo d h mi s w) 44) = ⟨y, mo, d, h, mi, s⟩ := by
  obtain ⟨a, b, c, es, ha, hb, hc⟩ := sd_three w hw
  obtain ⟨p, q, r, em, hp, hq, hr⟩ := m3_three mo t.ok.m0 t.ok.m1
  have hd := t.d
  have n1 := four_num y (Int.le_trans (by decide) t.ok.y0) t.ok.y1
  have n2 := dl_num d (by omega) (by omega)
  have n3 := two_num h t.h0 (Int.le_trans t.h1 (by decide))
  have n4 := two_num mi t.mi0 (Int.le_trans t.mi1 (by decide))
  have n5 := two_num s t.s0 (Int.le_trans t.s1 (by decide))
  have mm : monS (T3 y mo d h mi s w) 4 = mo := monS_at _ _ 4 t.ok.m0 t.ok.m1 (by
    unfold T3
    rw [es, em]
    rfl)
  obtain ⟨d1, d2, e1, x1, x2⟩ := dl_two d (by omega)
  obtain ⟨d3, d4, e2, x3, x4⟩ := tw_two h
  obtain ⟨d5, d6, e3, x5, x6⟩ := tw_two mi
  obtain ⟨d7, d8, e4, x7, x8⟩ := tw_two s
  obtain ⟨d9, d10, e5, x9, x10⟩ := tw_two (y / 100)
  obtain ⟨d11, d12, e6, x11, x12⟩ := tw_two y
  have hi : Lib.indexByte (T3 y mo d h mi s w) 44 = -1 := by
    refine idx_none _ ?_
    unfold T3 ck
    rw [es, em, e1, e2, e3, e4, e5, e6]
    simp [ha, hb, hc, hp, hq, hr, x1, x2, x3, x4, x5, x6, x7, x8, x9, x10, x11, x12]
  rw [hi]
  unfold candI
  rw [if_pos (by decide), mm]
  unfold T3 ck
  rw [e5, e6] at n1
  rw [e1] at n2
  rw [e2] at n3
  rw [e3] at n4
  rw [e4] at n5
  rw [es, em, e1, e2, e3, e4, e5, e6]
  rw [numS_at _ ([d9, d10] ++ [d11, d12]) [] 20 4 rfl n1, numS_at _ [d1, d2] [] 8 2 rfl n2, numS_at _ [d3, d4] [] 11 2 rfl n3, numS_at _ [d5, d6] [] 14 2 rfl n4, numS_at _ [d7, d8] [] 17 2 rfl n5]
theorem drop_more (l r : List UInt8) (k : Nat) (n : Int) (hn : n = k) : (l ++ r).drop ((l.length : Int) + n).toNat = r.drop k := by
  have : ((l.length : Int) + n).toNat = l.length + k := by omega
  rw [this, List.drop_append]
  simp
theorem cand_T2 {y mo d h mi s : Int} (t : Tm y mo d h mi s) (hy : y < 2070) (w : Int) (hw : 0 ≤ w ∧ w < 7) :
    candI (T2 y mo d h mi s w) (Lib.indexByte (T2 y mo d h mi s w) 44) = ⟨y, mo, d, h, mi, s⟩ := by
  obtain ⟨hl0, hl1, hl⟩ := ld_ok w hw
  obtain ⟨p, q, r, em, _⟩ := m3_three mo t.ok.m0 t.ok.m1
  have hd := t.d
  have hy0 := t.ok.y0
  have n1 := two_num' y (by omega)
  have n2 := two_num d (by omega) (by omega)
  have n3 := two_num h t.h0 (Int.le_trans t.h1 (by decide))
  have n4 := two_num mi t.mi0 (Int.le_trans t.mi1 (by decide))
  have n5 := two_num s t.s0 (Int.le_trans t.s1 (by decide))
  obtain ⟨d1, d2, e1, _⟩ := tw_two d
  obtain ⟨d3, d4, e2, _⟩ := tw_two h
  obtain ⟨d5, d6, e3, _⟩ := tw_two mi
  obtain ⟨d7, d8, e4, _⟩ := tw_two s
  obtain ⟨d11, d12, e6, _⟩ := tw_two y
  rw [e6] at n1
  rw [e1] at n2
  rw [e2] at n3
  rw [e3] at n4
  rw [e4] at n5
  have e : T2 y mo d h mi s w = ld w ++ (44 :: 32 :: ([d1, d2] ++ [45] ++ [p, q, r] ++ [45] ++ [d11, d12] ++ [32] ++ ([d3, d4] ++ [58] ++ [d5, d6] ++ [58] ++ [d7, d8]) ++ [32, 71, 77, 84])) := by
    unfold T2 ck
    rw [em, e1, e2, e3, e4, e6]
    simp
  have hi : Lib.indexByte (T2 y mo d h mi s w) 44 = (ld w).length := by
    rw [e]
    exact idx_hit _ _ hl
  rw [hi, e]
  unfold candI
  rw [if_neg (by omega), if_neg (by omega)]
  have mm : monS (ld w ++ (44 :: 32 :: ([d1, d2] ++ [45] ++ [p, q, r] ++ [45] ++ [d11, d12] ++ [32] ++ ([d3, d4] ++ [58] ++ [d5, d6] ++ [58] ++ [d7, d8]) ++ [32, 71, 77, 84]))) (((ld w).length : Int) + 5).toNat = mo :=
    monS_at _ _ _ t.ok.m0 t.ok.m1 (by rw [em, drop_more _ _ 5 5 rfl]; rfl)
  rw [mm, numS_at _ [d11, d12] [] (((ld w).length : Int) + 9).toNat 2 (by rw [drop_more _ _ 9 9 rfl]; rfl) n1, numS_at _ [d1, d2] [] (((ld w).length : Int) + 2).toNat 2 (by rw [drop_more _ _ 2 2 rfl]; rfl) n2,
    numS_at _ [d3, d4] [] (((ld w).length : Int) + 12).toNat 2 (by rw [drop_more _ _ 12 12 rfl]; rfl) n3, numS_at _ [d5, d6] [] (((ld w).length : Int) + 15).toNat 2 (by rw [drop_more _ _ 15 15 rfl]; rfl) n4,
    numS_at _ [d7, d8] [] (((ld w).length : Int) + 18).toNat 2 (by rw [drop_more _ _ 18 18 rfl]; rfl) n5]
  have : yr (y % 100) = y := by unfold yr; split <;> omega
  rw [this]
theorem says_cand {a : ByteArray} {y mo d h mi s : Int} (t : Tm y mo d h mi s) (hs : Says a y mo d h mi s) : candI a.data.toList (Lib.indexByte a.data.toList 44) = ⟨y, mo, d, h, mi, s⟩ := by
  rcases hs with rfl | ⟨rfl, hy⟩ | rfl
  · rw [bytes_list]; exact cand_T1 t _ (wk0 _ _ _)
  · rw [bytes_list]; exact cand_T2 t hy _ (wk0 _ _ _)
  · rw [bytes_list]; exact cand_T3 t _ (wk0 _ _ _)
theorem says_size {a : ByteArray} {y mo d h mi s : Int} (t : Tm y mo d h mi s) (hs : Says a y mo d h mi s) : a.size ≤ 40 := by
  obtain ⟨a', b', c', es, _⟩ := sd_three _ (wk0 y mo d)
  obtain ⟨p, q, r, em, _⟩ := m3_three mo t.ok.m0 t.ok.m1
  obtain ⟨u, v, ed, _⟩ := dl_two d (Int.le_trans (by decide) t.d.1)
  obtain ⟨hl0, hl1, hl⟩ := ld_ok _ (wk0 y mo d)
  rcases hs with rfl | ⟨rfl, hy⟩ | rfl
  · simp [bytes_size, T1, es, em, tw, ck]
  · simp [bytes_size, T2, em, tw, ck]; omega
  · simp [bytes_size, T3, es, em, ed, tw, ck]
/-- A text of a time is read as that time. -/
theorem parse_yes {a : ByteArray} {y mo d h mi s : Int} (t : Tm y mo d h mi s) (hs : Says a y mo d h mi s) : Ev (fun k => date_Parse.f k a) (sec y mo d h mi s, 0) :=
  parse_at a (by have := says_size t hs; omega) (says_cand t hs) (one_yes a t hs)
/-- A text is of one moment alone. -/
theorem says_one {a : ByteArray} {y mo d h mi s y' mo' d' h' mi' s' : Int} (t : Tm y mo d h mi s) (hs : Says a y mo d h mi s) (t' : Tm y' mo' d' h' mi' s') (hs' : Says a y' mo' d' h' mi' s') :
    y = y' ∧ mo = mo' ∧ d = d' ∧ h = h' ∧ mi = mi' ∧ s = s' := by
  have e := (says_cand t hs).symm.trans (says_cand t' hs')
  simpa using e
theorem parse_no0 : Ev (fun k => date_Parse.f k (⟨#[]⟩ : ByteArray)) (0, 80) := by
  refine parse_no _ (by decide) ?_
  intro y mo d h mi s t hs
  obtain ⟨a', b', c', es, _⟩ := sd_three _ (wk0 y mo d)
  obtain ⟨hl0, hl1, hl⟩ := ld_ok _ (wk0 y mo d)
  rcases hs with hs | ⟨hs, hy⟩ | hs
  · have := congrArg ByteArray.size hs
    have e0 : (⟨#[]⟩ : ByteArray).size = 0 := rfl
    simp [bytes_size, T1, es] at this
    omega
  · have := congrArg ByteArray.size hs
    have e0 : (⟨#[]⟩ : ByteArray).size = 0 := rfl
    simp [bytes_size, T2, es] at this
    omega
  · have := congrArg ByteArray.size hs
    have e0 : (⟨#[]⟩ : ByteArray).size = 0 := rfl
    simp [bytes_size, T3, es] at this
    omega
/-- 'known' holds. -/
theorem known_ev : Ev (fun k => ambrylaw9_known.f k) true := by
  have t : Tm 1994 10 6 8 49 37 := ⟨⟨by decide, by decide, by decide, by decide, by decide, by decide⟩, by decide, by decide, by decide, by decide, by decide, by decide⟩
  have es : sec 1994 10 6 8 49 37 = 784111777 := by decide
  have p1 := parse_yes (a := (⟨#[83, 117, 110, 44, 32, 48, 54, 32, 78, 111, 118, 32, 49, 57, 57, 52, 32, 48, 56, 58, 52, 57, 58, 51, 55, 32, 71, 77, 84]⟩ : ByteArray)) t (.inl (by decide))
  have p2 := parse_yes (a := (⟨#[83, 117, 110, 100, 97, 121, 44, 32, 48, 54, 45, 78, 111, 118, 45, 57, 52, 32, 48, 56, 58, 52, 57, 58, 51, 55, 32, 71, 77, 84]⟩ : ByteArray)) t (.inr (.inl ⟨by decide, by decide⟩))
  have p3 := parse_yes (a := (⟨#[83, 117, 110, 32, 78, 111, 118, 32, 32, 54, 32, 48, 56, 58, 52, 57, 58, 51, 55, 32, 49, 57, 57, 52]⟩ : ByteArray)) t (.inr (.inr (by decide)))
  have p4 := parse_no0
  have p5 := text_ev t (x := 784111777) (by decide)
  rw [es] at p1 p2 p3
  obtain ⟨k1, h1⟩ := p1
  obtain ⟨k2, h2⟩ := p2
  obtain ⟨k3, h3⟩ := p3
  obtain ⟨k4, h4⟩ := p4
  obtain ⟨k5, h5⟩ := p5
  refine ⟨k1 + k2 + k3 + k4 + k5, fun k hk => ?_⟩
  have e1 := h1 k (by omega)
  have e2 := h2 k (by omega)
  have e3 := h3 k (by omega)
  have e4 := h4 k (by omega)
  have e5 := h5 k (by omega)
  simp only at e1 e2 e3 e4 e5
  simp only [ambrylaw9_known.f, e1, e2, e3, e4, Option.bind_some, e5, if_true, bytes_toList]
  have ew : wrap64 (wrap64 ((0 : Int) + 0) + 0) = 0 := by rw [w64 (x := (0 : Int) + 0) (by omega) (by omega), w64 (by omega) (by omega)]; rfl
  rw [if_pos ew]
  congr 1
end Go.Proofs.YtcejglmmjbmafaaDoor.Pure
/- Plain Lean: the document's text of a time is the program's. -/
namespace Go.Proofs.YtcejglmmjbmafaaDoor.Pure
open Go.RowKit Go.Proofs.YtcejglmmjbmafaaDoor.X Go.Proofs.YtcejglmmjbmafaaDoor.Cal Go.Proofs.YtcejglmmjbmafaaDoorW.PrintWords Go.Proofs.YtcejglmmjbmafaaDoorW.PrintLast Go.Proofs.YtcejglmmjbmafaaDoorW.PrintMore
set_option linter.unusedVariables false
set_option linter.unusedSimpArgs false

def rdays : List ByteArray := [(⟨#[83, 117, 110]⟩ : ByteArray), (⟨#[77, 111, 110]⟩ : ByteArray), (⟨#[84, 117, 101]⟩ : ByteArray), (⟨#[87, 101, 100]⟩ : ByteArray), (⟨#[84, 104, 117]⟩ : ByteArray), (⟨#[70, 114, 105]⟩ : ByteArray), (⟨#[83, 97, 116]⟩ : ByteArray)]
def rmonths : List ByteArray := [(⟨#[74, 97, 110]⟩ : ByteArray), (⟨#[70, 101, 98]⟩ : ByteArray), (⟨#[77, 97, 114]⟩ : ByteArray), (⟨#[65, 112, 114]⟩ : ByteArray), (⟨#[77, 97, 121]⟩ : ByteArray), (⟨#[74, 117, 110]⟩ : ByteArray), (⟨#[74, 117, 108]⟩ : ByteArray), (⟨#[65, 117, 103]⟩ : ByteArray), (⟨#[83, 101, 112]⟩ : ByteArray), (⟨#[79, 99, 116]⟩ : ByteArray), (⟨#[78, 111, 118]⟩ : ByteArray), (⟨#[68, 101, 99]⟩ : ByteArray)]
theorem rdays_f : ambryref9_days.f = some rdays := rfl
theorem rmonths_f : ambryref9_months.f = some rmonths := rfl
theorem rdays_at (w : Int) (h0 : 0 ≤ w) (h1 : w < 7) : rdOf ByteArray.empty rdays w = X.bytes (sd w) := by
  obtain ⟨n, rfl⟩ := Int.eq_ofNat_of_zero_le h0
  match n, h1 with
  | 0, _ | 1, _ | 2, _ | 3, _ | 4, _ | 5, _ | 6, _ => rfl
  | n + 7, h => omega
theorem rmonths_at (w : Int) (h0 : 0 ≤ w) (h1 : w < 12) : rdOf ByteArray.empty rmonths w = X.bytes (m3 w) := by
  obtain ⟨n, rfl⟩ := Int.eq_ofNat_of_zero_le h0
  match n, h1 with
  | 0, _ | 1, _ | 2, _ | 3, _ | 4, _ | 5, _ | 6, _ | 7, _ | 8, _ | 9, _ | 10, _ | 11, _ => rfl
  | n + 12, h => omega
theorem tw_mod (y : Int) : tw (y % 100) = tw y := by
  unfold tw
  rw [show y % 100 / 10 % 10 = y / 10 % 10 by omega, show y % 100 % 10 = y % 10 by omega]
theorem rtext_l1 (n y r : Int) (hy0 : 1970 ≤ y) (hy1 : y ≤ 9999) (hn : n < dys (y + 1)) (hn0 : 0 ≤ n) (hn1 : n ≤ 2932896) (hr0 : 0 ≤ r) (hr1 : r < 86400) (c : Nat) : ∀ (m : Int), (c : Int) = 12 - m → 0 ≤ m → m < 12 → dys y + cum y m ≤ n →
    ∃ m' d, Ok y m' d ∧ num y m' d = n ∧ Ev (fun k => ambryref9_Text.l1 k n r y (n - dys y - cum y m) (m + 1)) (X.bytes (T1 y m' d (r / 3600) (r / 60 % 60) (r % 60) ((n + 4) % 7))) := by
  induction c with
  | zero => intro m hc h0 h1; omega
  | succ c ih =>
    intro m hc h0 h1 hle
    have hs := cum_succ y m h0 h1
    have hl := len_lo y m
    have hh := len_hi y m
    have hb := cum_pos y m h0 (by omega)
    have hd0 : 0 ≤ dys y := by have := dys_le hy0; rw [dys_1970] at this; exact this
    have em : m + 1 - 1 = m := by omega
    have hlen : ambryref9_length.f y (m + 1) = some (len y m) := by rw [rlength_f y (m + 1) (by omega) (by omega) (by omega), em]
    by_cases hg : len y m ≤ n - dys y - cum y m
    · have hm : m + 1 < 12 := by
        by_cases e : m = 11
        · subst e
          have := cum_12 y
          have := dys_succ y
          have e12 : (11 : Int) + 1 = 12 := rfl
          rw [e12] at hs
          omega
        · omega
      obtain ⟨m', d, ho, hnum, hev⟩ := ih (m + 1) (by omega) (by omega) hm (by omega)
      refine ⟨m', d, ho, hnum, Ev.step (f := fun k => ambryref9_Text.l1 k n r y (n - dys y - cum y (m + 1)) (m + 1 + 1)) (fun k => ?_) hev⟩
      simp only [ambryref9_Text.l1, hlen, Option.bind_some]
      rw [if_pos hg, w64 (x := m + 1 + 1) (by omega) (by omega), w64 (by omega) (by omega), hs]
      congr 1
      omega
    · refine ⟨m, n - dys y - cum y m + 1, ⟨hy0, hy1, h0, h1, by omega, by omega⟩, by unfold num; omega, Ev.step (f := fun _ => some _) (fun k => ?_) (Ev.now _)⟩
      simp only [ambryref9_Text.l1, hlen, Option.bind_some, rdays_f, rmonths_f]
      have l7 : (rdays.length : Int) = 7 := rfl
      have l12 : (rmonths.length : Int) = 12 := rfl
      rw [if_neg hg, w64 (x := n + 4) (by omega) (by omega), tmod_nn 7 (by omega), w64 (x := n - dys y - cum y m + 1) (by omega) (by omega), w64 (x := m + 1 - 1) (by omega) (by omega), em, tdiv_nn 100 (by omega), w64 (x := y / 100) (by omega) (by omega), tmod_nn 100 (by omega), tdiv_nn 3600 hr0, tdiv_nn 60 hr0, tmod_nn 60 hr0, w64 (x := r / 3600) (by omega) (by omega), w64 (x := r / 60) (by omega) (by omega), tmod_nn 60 (by omega), l7, l12,
        rdays_at ((n + 4) % 7) (by omega) (by omega), rmonths_at m h0 h1, rtwo_f (n - dys y - cum y m + 1) (by omega) (by omega), rtwo_f (y / 100) (by omega) (by omega), rtwo_f (y % 100) (by omega) (by omega), rtwo_f (r / 3600) (by omega) (by omega), rtwo_f (r / 60 % 60) (by omega) (by omega), rtwo_f (r % 60) (by omega) (by omega)]
      rw [if_pos (by omega), if_pos (by omega)]
      simp only [Option.bind_some]
      obtain ⟨a, b, c', es, _⟩ := sd_three ((n + 4) % 7) ⟨by omega, by omega⟩
      obtain ⟨p, q, r', e3, _⟩ := m3_three m h0 h1
      unfold T1 ck
      rw [es, e3, tw_mod]
      obtain ⟨d1, d2, e1, _⟩ := tw_two (n - dys y - cum y m + 1)
      obtain ⟨d3, d4, e2, _⟩ := tw_two (r / 3600)
      obtain ⟨d5, d6, e4, _⟩ := tw_two (r / 60 % 60)
      obtain ⟨d7, d8, e5, _⟩ := tw_two (r % 60)
      obtain ⟨d9, d10, e6, _⟩ := tw_two (y / 100)
      obtain ⟨d11, d12, e7, _⟩ := tw_two y
      rw [e1, e2, e4, e5, e6, e7]
      simp only [lit_bytes, bytes_append, bytes_size]
      repeat rw [if_pos (by first | exact h0 | exact h1 | simp)]
      congr 2
theorem rtext_l0 (n r : Int) (hn0 : 0 ≤ n) (hn1 : n ≤ 2932896) (hr0 : 0 ≤ r) (hr1 : r < 86400) (c : Nat) : ∀ (y : Int), (c : Int) = 10000 - y → 1970 ≤ y → y ≤ 9999 → dys y ≤ n →
    ∃ y' m' d, Ok y' m' d ∧ num y' m' d = n ∧ Ev (fun k => ambryref9_Text.l0 k n r y) (X.bytes (T1 y' m' d (r / 3600) (r / 60 % 60) (r % 60) ((n + 4) % 7))) := by
  induction c with
  | zero => intro y hc h0 h1; omega
  | succ c ih =>
    intro y hc h0 h1 hle
    by_cases hg : dys (y + 1) ≤ n
    · have hm : y + 1 ≤ 9999 := by
        by_cases e : y = 9999
        · subst e
          have := dys_10000
          have e12 : (9999 : Int) + 1 = 10000 := rfl
          rw [e12] at hg
          omega
        · omega
      obtain ⟨y', m', d, ho, hnum, hev⟩ := ih (y + 1) (by omega) (by omega) hm hg
      refine ⟨y', m', d, ho, hnum, Ev.step (f := fun k => ambryref9_Text.l0 k n r (y + 1)) (fun k => ?_) hev⟩
      simp only [ambryref9_Text.l0]
      rw [w64 (x := y + 1) (by omega) (by omega), ahead_f (y + 1) (by omega) (by omega)]
      simp only [Option.bind_some]
      rw [if_pos hg]
    · obtain ⟨m', d, ho, hnum, hev⟩ := rtext_l1 n y r h0 h1 (by omega) hn0 hn1 hr0 hr1 12 0 (by omega) (by omega) (by omega) (by rw [cum_0]; omega)
      refine ⟨y, m', d, ho, hnum, Ev.step (f := fun k => ambryref9_Text.l1 k n r y (n - dys y - cum y 0) (0 + 1)) (fun k => ?_) hev⟩
      simp only [ambryref9_Text.l0]
      rw [w64 (x := y + 1) (by omega) (by omega), ahead_f (y + 1) (by omega) (by omega), ahead_f y h0 (by omega)]
      simp only [Option.bind_some]
      have hd0 : 0 ≤ dys y := by have := dys_le h0; rw [dys_1970] at this; exact this
      rw [if_neg hg, cum_0, w64 (by omega) (by omega)]
      congr 1
      omega
/-- The document's text. -/
theorem rtext_ev {y mo d h mi s : Int} (t : Tm y mo d h mi s) {x : Int} (hx : cl x = sec y mo d h mi s) : Ev (fun k => ambryref9_Text.f k x) (X.bytes (T1 y mo d h mi s (wk y mo d))) := by
  obtain ⟨h0, h1, _⟩ := of_sec t
  have hb := t.ok.bound
  have := t.h0; have := t.h1; have := t.mi0; have := t.mi1; have := t.s0; have := t.s1
  generalize hS : sec y mo d h mi s = S at h0 h1 hx
  obtain ⟨y', mo', d', ho, hn, hev⟩ := rtext_l0 (S / 86400) (S % 86400) (by omega) (by omega) (by omega) (by omega) (10000 - (1970 + S / 86400 / 366)).toNat (1970 + S / 86400 / 366) (by omega) (by omega) (by omega) (guess _ (by omega))
  have hnn : num y' mo' d' = num y mo d := by rw [hn, ← hS]; unfold sec; omega
  obtain ⟨rfl, rfl, rfl⟩ := num_inj ho t.ok hnn
  have e1 : S % 86400 / 3600 = h := by rw [← hS]; unfold sec; omega
  have e2 : S % 86400 / 60 % 60 = mi := by rw [← hS]; unfold sec; omega
  have e3 : S % 86400 % 60 = s := by rw [← hS]; unfold sec; omega
  rw [e1, e2, e3] at hev
  have ew : (S / 86400 + 4) % 7 = wk y' mo' d' := by unfold wk; rw [hn]
  rw [ew] at hev
  refine Ev.congr (fun k => ?_) hev
  simp only [ambryref9_Text.f]
  rw [show mn (mx x 0) 253402300799 = S from hx]
end Go.Proofs.YtcejglmmjbmafaaDoor.Pure
-- printed by a program (xp.py, over the kit's print); Lean checks it
namespace Go.Proofs.YtcejglmmjbmafaaDoor.X
open Go.RowKit Go.Proofs.YtcejglmmjbmafaaDoorW.PrintWords Go.Proofs.YtcejglmmjbmafaaDoorW.PrintLast Go.Proofs.YtcejglmmjbmafaaDoorW.PrintMore
attribute [local go_sem] max2_int min2_int max_two min_two max_three min_three max_four min_four   -- for this text's walks alone
set_option linter.unusedVariables false
set_option linter.unusedSimpArgs false

/-! ### ambryref9_digits: function 28 -/
def ambryref9_digits.l0 : Nat → ByteArray → Int → Int → Option (Int × Bool)
  | 0, _, _, _ => none
  | k + 1, x0, x4, x5 => if x5 < (x0.size : Int) then (if 0 ≤ x5 then (if (bt x0 x5) < 48 then (some (0, false)) else (if (bt x0 x5) > 57 then (some (0, false)) else (ambryref9_digits.l0 k x0 (wrap64 ((wrap64 (10 * x4)) + (((bt x0 x5) - 48) % 256))) (wrap64 (x5 + 1))))) else (none)) else (some (x4, decide ((x0.size : Int) > 0)))
def ambryref9_digits.f (k : Nat) (a0 : ByteArray) : Option (Int × Bool) := ambryref9_digits.l0 k a0 0 0
theorem ambryref9_digits.mono_l : ∀ k, (∀ y0 y1 y2, LeO (ambryref9_digits.l0 k y0 y1 y2) (ambryref9_digits.l0 (k + 1) y0 y1 y2))
  | 0 => fun _ _ _ r h => by simp [ambryref9_digits.l0] at h
  | k + 1 => by
    have ih0 := ambryref9_digits.mono_l k
    · intro y0 y1 y2
      unfold ambryref9_digits.l0
      repeat' first
      | (with_reducible exact ih0 _ _ _)
      | (with_reducible exact LeO.refl _)
      | (with_reducible exact LeO.none _)
      | (with_reducible refine LeO.ite ?_ ?_)
      | (with_reducible refine LeO.bind ?_ (fun _ => ?_))
      | exact ih0 _ _ _
      | exact LeO.none _
      | refine LeO.ite ?_ ?_
      | refine LeO.bind ?_ (fun _ => ?_)
theorem ambryref9_digits.mono : ∀ a0 k, LeO (ambryref9_digits.f k a0) (ambryref9_digits.f (k + 1) a0) := by
  intro a0 k
  have ih0 := ambryref9_digits.mono_l k
  unfold ambryref9_digits.f
  repeat' first
      | (with_reducible exact ih0 _ _ _)
      | (with_reducible exact LeO.refl _)
      | (with_reducible exact LeO.none _)
      | (with_reducible refine LeO.ite ?_ ?_)
      | (with_reducible refine LeO.bind ?_ (fun _ => ?_))
      | exact ih0 _ _ _
      | exact LeO.none _
      | refine LeO.ite ?_ ?_
      | refine LeO.bind ?_ (fun _ => ?_)
set_option maxHeartbeats 8000000 in
set_option maxRecDepth 100000 in
theorem ambryref9_digits.calls (k : Nat) (a0 : ByteArray) (r1 : Int) (r2 : Bool) (w : World) (h : ambryref9_digits.f k a0 = some (r1, r2)) :
    Calls Tryd.prog 28 #[.string a0] w fun e w' => e = .returned (.tuple #[.int .i64 r1, .bool r2]) ∧ Drawn0 w w' := by
  have H : (ambryref9_digits.l0 k a0 0 0) = some (r1, r2) := h
  clear h
  have H' := Aside0.mk H
  clear H
  go_enter Tryd.func28, Tryd.ntmps28
  go_wp2
  go_loopg [4, 5] k (fun kq v4 v5 w' => ∃ (x4_1 : Int) (x5_1 : Int), v4 = .int .i64 x4_1 ∧ v5 = .int .i64 x5_1 ∧ Aside0 (ambryref9_digits.l0 kq a0 x4_1 x5_1 = some (r1, r2)) ∧ Aside0 (kq ≤ k) ∧ Drawn0 w w')
  case atStart => exact ⟨(0), (0), (by first | rfl | (simp; done) | (simp [*]; done)), (by first | rfl | (simp; done) | (simp [*]; done)), H', ⟨Nat.le_refl _⟩, by repeat (first | exact Drawn0.refl _ | apply Drawn0.step)⟩
  case round =>
    clear H'
    obtain ⟨x4_1, x5_1, rfl, rfl, HA, HK1, ⟨m1, rfl⟩⟩ := hrel
    cases gk with
    | zero => exact absurd HA.out (by simp [ambryref9_digits.l0])
    | succ k1 =>
      have H := HA.out
      clear HA
      simp only [ambryref9_digits.l0] at H
      by_cases c2 : x5_1 < (a0.size : Int)
      · rw [if_pos c2] at H
        have c2b0 : decide (x5_1 < (a0.size : Int)) = true := decide_eq_true c2
        clear c2
        by_cases c3 : 0 ≤ x5_1
        · rw [if_pos c3] at H
          have c3b0 : decide (0 ≤ x5_1) = true := decide_eq_true c3
          clear c3
          by_cases c5 : (bt a0 x5_1) < 48
          · rw [if_pos c5] at H
            have c5b0 : decide ((bt a0 x5_1) < 48) = true := decide_eq_true c5
            clear c5
            simp only [Option.some.injEq, Prod.mk.injEq] at H
            obtain ⟨rfl, rfl⟩ := H
            have p4 : 0 ≤ (x5_1 : Int) := of_decide_eq_true (by first | (with_reducible assumption) | assumption)
            have q4 : x5_1 < (a0.size : Int) := of_decide_eq_true (by first | (with_reducible assumption) | assumption)
            have hx4 := bt_at a0 x5_1
            replace p4 := eq_true p4
            replace q4 := eq_true q4
            go_wp2
            go_ret2
            exact ⟨by first | rfl | (simp; done) | (simp [*]; done), by repeat (first | exact Drawn0.refl _ | apply Drawn0.step)⟩
          · rw [if_neg c5] at H
            have c5b0 : decide ((bt a0 x5_1) < 48) = false := decide_eq_false c5
            clear c5
            by_cases c7 : (bt a0 x5_1) > 57
            · rw [if_pos c7] at H
              have c7b0 : decide (57 < (bt a0 x5_1)) = true := decide_eq_true c7
              clear c7
              simp only [Option.some.injEq, Prod.mk.injEq] at H
              obtain ⟨rfl, rfl⟩ := H
              have p4 : 0 ≤ (x5_1 : Int) := of_decide_eq_true (by first | (with_reducible assumption) | assumption)
              have q4 : x5_1 < (a0.size : Int) := of_decide_eq_true (by first | (with_reducible assumption) | assumption)
              have hx4 := bt_at a0 x5_1
              replace p4 := eq_true p4
              replace q4 := eq_true q4
              have p6 : 0 ≤ (x5_1 : Int) := of_decide_eq_true (by first | (with_reducible assumption) | assumption)
              have q6 : x5_1 < (a0.size : Int) := of_decide_eq_true (by first | (with_reducible assumption) | assumption)
              have hx6 := bt_at a0 x5_1
              replace p6 := eq_true p6
              replace q6 := eq_true q6
              go_wp2
              go_ret2
              exact ⟨by first | rfl | (simp; done) | (simp [*]; done), by repeat (first | exact Drawn0.refl _ | apply Drawn0.step)⟩
            · rw [if_neg c7] at H
              have c7b0 : decide (57 < (bt a0 x5_1)) = false := decide_eq_false c7
              clear c7
              have H' := Aside0.mk H
              clear H
              have p4 : 0 ≤ (x5_1 : Int) := of_decide_eq_true (by first | (with_reducible assumption) | assumption)
              have q4 : x5_1 < (a0.size : Int) := of_decide_eq_true (by first | (with_reducible assumption) | assumption)
              have hx4 := bt_at a0 x5_1
              replace p4 := eq_true p4
              replace q4 := eq_true q4
              have p6 : 0 ≤ (x5_1 : Int) := of_decide_eq_true (by first | (with_reducible assumption) | assumption)
              have q6 : x5_1 < (a0.size : Int) := of_decide_eq_true (by first | (with_reducible assumption) | assumption)
              have hx6 := bt_at a0 x5_1
              replace p6 := eq_true p6
              replace q6 := eq_true q6
              have p8 : 0 ≤ (x5_1 : Int) := of_decide_eq_true (by first | (with_reducible assumption) | assumption)
              have q8 : x5_1 < (a0.size : Int) := of_decide_eq_true (by first | (with_reducible assumption) | assumption)
              have hx8 := bt_at a0 x5_1
              replace p8 := eq_true p8
              replace q8 := eq_true q8
              go_wp2
              go_roundg k1
              case measure => have := HK1.out; omega
              case rel => exact ⟨(wrap64 ((wrap64 (10 * x4_1)) + (((bt a0 x5_1) - 48) % 256))), (wrap64 (x5_1 + 1)), (by first | rfl | (simp; done) | (simp [*]; done)), (by first | rfl | (simp; done) | (simp [*]; done)), H', ⟨by have := HK1.out; omega⟩, by repeat (first | exact Drawn0.refl _ | apply Drawn0.step)⟩
        · rw [if_neg c3] at H
          exact absurd H (by simp)
      · rw [if_neg c2] at H
        have c2b0 : decide (x5_1 < (a0.size : Int)) = false := decide_eq_false c2
        clear c2
        simp only [Option.some.injEq, Prod.mk.injEq] at H
        obtain ⟨rfl, rfl⟩ := H
        go_wp2
        go_ret2
        exact ⟨by first | rfl | (simp; done) | (simp [*]; done), by repeat (first | exact Drawn0.refl _ | apply Drawn0.step)⟩

end Go.Proofs.YtcejglmmjbmafaaDoor.X
-- printed by a program (xp.py, over the kit's print); Lean checks it
namespace Go.Proofs.YtcejglmmjbmafaaDoor.X
open Go.RowKit Go.Proofs.YtcejglmmjbmafaaDoorW.PrintWords Go.Proofs.YtcejglmmjbmafaaDoorW.PrintLast Go.Proofs.YtcejglmmjbmafaaDoorW.PrintMore
attribute [local go_sem] max2_int min2_int max_two min_two max_three min_three max_four min_four   -- for this text's walks alone
set_option linter.unusedVariables false
set_option linter.unusedSimpArgs false

/-! ### ambryref9_clock: function 42 -/
def ambryref9_clock.j0 : Nat → ByteArray → Bool → Option (Int × Bool)
  | 0, _, _ => none
  | k + 1, x0, x22 => if x22 = true then (some (0, false)) else (if 0 ≤ 2 then (if 2 ≤ (x0.size : Int) then ((ambryref9_digits.f k (x0.extract 0 2)).bind fun bt184 => (if 3 ≤ 5 then (if 5 ≤ (x0.size : Int) then ((ambryref9_digits.f k (x0.extract 3 5)).bind fun bt186 => (if 6 ≤ (x0.size : Int) then ((ambryref9_digits.f k (x0.extract 6 x0.size)).bind fun bt188 => (if bt184.2 = true then (if bt186.2 = true then (if bt188.2 = true then (if bt184.1 ≤ 23 then (if bt186.1 ≤ 59 then (some (wrap64 ((wrap64 ((wrap64 (bt184.1 * 3600)) + (wrap64 (bt186.1 * 60)))) + bt188.1), decide (bt188.1 ≤ 59))) else (some (wrap64 ((wrap64 ((wrap64 (bt184.1 * 3600)) + (wrap64 (bt186.1 * 60)))) + bt188.1), false))) else (some (wrap64 ((wrap64 ((wrap64 (bt184.1 * 3600)) + (wrap64 (bt186.1 * 60)))) + bt188.1), false))) else (some (wrap64 ((wrap64 ((wrap64 (bt184.1 * 3600)) + (wrap64 (bt186.1 * 60)))) + bt188.1), false))) else (some (wrap64 ((wrap64 ((wrap64 (bt184.1 * 3600)) + (wrap64 (bt186.1 * 60)))) + bt188.1), false))) else (some (wrap64 ((wrap64 ((wrap64 (bt184.1 * 3600)) + (wrap64 (bt186.1 * 60)))) + bt188.1), false)))) else (none))) else (none)) else (none))) else (none)) else (none))
def ambryref9_clock.f (k : Nat) (a0 : ByteArray) : Option (Int × Bool) := if (a0.size : Int) = 8 then (if 2 < (a0.size : Int) then (if (bt a0 2) = 58 then (if 5 < (a0.size : Int) then (ambryref9_clock.j0 k a0 ((bt a0 5) != 58)) else (none)) else (ambryref9_clock.j0 k a0 true)) else (none)) else (ambryref9_clock.j0 k a0 true)
theorem ambryref9_clock.mono_l : ∀ k, (∀ y0 y1, LeO (ambryref9_clock.j0 k y0 y1) (ambryref9_clock.j0 (k + 1) y0 y1))
  | 0 => fun _ _ r h => by simp [ambryref9_clock.j0] at h
  | k + 1 => by
    have ih0 := ambryref9_clock.mono_l k
    · intro y0 y1
      unfold ambryref9_clock.j0
      repeat' first
      | (with_reducible exact ih0 _ _)
      | (with_reducible exact ambryref9_digits.mono _ _)
      | (with_reducible exact LeO.refl _)
      | (with_reducible exact LeO.none _)
      | (with_reducible refine LeO.ite ?_ ?_)
      | (with_reducible refine LeO.bind ?_ (fun _ => ?_))
      | exact ih0 _ _
      | exact ambryref9_digits.mono _ _
      | exact LeO.none _
      | refine LeO.ite ?_ ?_
      | refine LeO.bind ?_ (fun _ => ?_)
theorem ambryref9_clock.mono : ∀ a0 k, LeO (ambryref9_clock.f k a0) (ambryref9_clock.f (k + 1) a0) := by
  intro a0 k
  have ih0 := ambryref9_clock.mono_l k
  unfold ambryref9_clock.f
  repeat' first
      | (with_reducible exact ih0 _ _)
      | (with_reducible exact ambryref9_digits.mono _ _)
      | (with_reducible exact LeO.refl _)
      | (with_reducible exact LeO.none _)
      | (with_reducible refine LeO.ite ?_ ?_)
      | (with_reducible refine LeO.bind ?_ (fun _ => ?_))
      | exact ih0 _ _
      | exact ambryref9_digits.mono _ _
      | exact LeO.none _
      | refine LeO.ite ?_ ?_
      | refine LeO.bind ?_ (fun _ => ?_)
set_option maxHeartbeats 8000000 in
set_option maxRecDepth 100000 in
theorem ambryref9_clock.calls (k : Nat) (a0 : ByteArray) (r1 : Int) (r2 : Bool) (w : World) (h : ambryref9_clock.f k a0 = some (r1, r2)) :
    Calls Tryd.prog 42 #[.string a0] w fun e w' => e = .returned (.tuple #[.int .i64 r1, .bool r2]) ∧ Drawn0 w w' := by
  have H : (if (a0.size : Int) = 8 then (if 2 < (a0.size : Int) then (if (bt a0 2) = 58 then (if 5 < (a0.size : Int) then (ambryref9_clock.j0 k a0 ((bt a0 5) != 58)) else (none)) else (ambryref9_clock.j0 k a0 true)) else (none)) else (ambryref9_clock.j0 k a0 true)) = some (r1, r2) := h
  clear h
  have HC2 := Aside0.mk H
  clear H
  go_enter Tryd.func42, Tryd.ntmps42
  go_upto_region 1 with (fail)
  go_cut [22] (fun v22 wc => ∃ (kq : Nat) (x22_1 : Bool), v22 = .bool x22_1 ∧ Aside0 (ambryref9_clock.j0 kq a0 x22_1 = some (r1, r2)) ∧ Aside0 (kq ≤ k) ∧ Drawn0 w wc)
  case first =>
    have H := HC2.out
    clear HC2
    by_cases c3 : (a0.size : Int) = 8
    · rw [if_pos c3] at H
      have c3b0 : ((a0.size : Int) == 8) = true := beq_iff_eq.mpr c3
      have c3b1 : ((a0.size : Int) != 8) = false := bne_eq_false_iff_eq.mpr c3
      clear c3
      (first | rw [c3b0] | (simp only [i64_w, i32_w]; rw [c3b0]) | skip)
      by_cases c4 : 2 < (a0.size : Int)
      · rw [if_pos c4] at H
        have c4b0 : decide (2 < (a0.size : Int)) = true := decide_eq_true c4
        have c4b1 : decide (2 < a0.size) = true := decide_eq_true (by omega)
        clear c4
        by_cases c6 : (bt a0 2) = 58
        · rw [if_pos c6] at H
          have c6b0 : ((bt a0 2) == 58) = true := beq_iff_eq.mpr c6
          have c6b1 : ((bt a0 2) != 58) = false := bne_eq_false_iff_eq.mpr c6
          clear c6
          by_cases c7 : 5 < (a0.size : Int)
          · rw [if_pos c7] at H
            have c7b0 : decide (5 < (a0.size : Int)) = true := decide_eq_true c7
            have c7b1 : decide (5 < a0.size) = true := decide_eq_true (by omega)
            clear c7
            have H' := Aside0.mk H
            clear H
            have p5 : 0 ≤ (2 : Int) := (by omega)
            have q5 : 2 < a0.size := (by have : (2 : Int) < (a0.size : Int) := of_decide_eq_true (by first | (with_reducible assumption) | assumption); omega)
            have hx5 : ∀ h : 2 < a0.size, ((a0[2]'h).toNat : Int) = bt a0 2 := bt_at a0 2
            clear p5
            have qi5 : (2 < (a0.size : Int)) = True := eq_true (of_decide_eq_true (by first | (with_reducible assumption) | assumption))
            replace q5 := eq_true q5
            have p8 : 0 ≤ (5 : Int) := (by omega)
            have q8 : 5 < a0.size := (by have : (5 : Int) < (a0.size : Int) := of_decide_eq_true (by first | (with_reducible assumption) | assumption); omega)
            have hx8 : ∀ h : 5 < a0.size, ((a0[5]'h).toNat : Int) = bt a0 5 := bt_at a0 5
            clear p8
            have qi8 : (5 < (a0.size : Int)) = True := eq_true (of_decide_eq_true (by first | (with_reducible assumption) | assumption))
            replace q8 := eq_true q8
            go_wp2
            go_meet
            case rel => exact ⟨_, (((bt a0 5) != 58)), (by first | rfl | (simp; done) | (simp [*]; done)), H', ⟨by first | omega | exact Nat.le_refl _⟩, by repeat (first | exact Drawn0.refl _ | apply Drawn0.step)⟩
          · rw [if_neg c7] at H
            exact absurd H (by simp)
        · rw [if_neg c6] at H
          have c6b0 : ((bt a0 2) == 58) = false := beq_eq_false_iff_ne.mpr c6
          have c6b1 : ((bt a0 2) != 58) = true := bne_iff_ne.mpr c6
          have H' := Aside0.mk H
          clear H
          have p5 : 0 ≤ (2 : Int) := (by omega)
          have q5 : 2 < a0.size := (by have : (2 : Int) < (a0.size : Int) := of_decide_eq_true (by first | (with_reducible assumption) | assumption); omega)
          have hx5 : ∀ h : 2 < a0.size, ((a0[2]'h).toNat : Int) = bt a0 2 := bt_at a0 2
          clear p5
          have qi5 : (2 < (a0.size : Int)) = True := eq_true (of_decide_eq_true (by first | (with_reducible assumption) | assumption))
          replace q5 := eq_true q5
          go_wp2
          go_meet
          case rel => exact ⟨_, (true), (by first | rfl | (simp; done) | (simp [*]; done)), H', ⟨by first | omega | exact Nat.le_refl _⟩, by repeat (first | exact Drawn0.refl _ | apply Drawn0.step)⟩
      · rw [if_neg c4] at H
        exact absurd H (by simp)
    · rw [if_neg c3] at H
      have c3b0 : ((a0.size : Int) == 8) = false := beq_eq_false_iff_ne.mpr c3
      have c3b1 : ((a0.size : Int) != 8) = true := bne_iff_ne.mpr c3
      (first | rw [c3b0] | (simp only [i64_w, i32_w]; rw [c3b0]) | skip)
      have H' := Aside0.mk H
      clear H
      go_wp2
      go_meet
      case rel => exact ⟨_, (true), (by first | rfl | (simp; done) | (simp [*]; done)), H', ⟨by first | omega | exact Nat.le_refl _⟩, by repeat (first | exact Drawn0.refl _ | apply Drawn0.step)⟩
  case rest =>
    clear HC2
    try clear p2
    try clear c3
    try clear c3b0
    try clear c3b1
    try clear c4
    try clear c4b0
    try clear c4b1
    try clear p5
    try clear q5
    try clear hx5
    try clear qi5
    try clear c6
    try clear c6b0
    try clear c6b1
    try clear c7
    try clear c7b0
    try clear c7b1
    try clear p8
    try clear q8
    try clear hx8
    try clear qi8
    try clear p5
    try clear p8
    try clear q5
    try clear q8
    obtain ⟨kq, x22_1, rfl, HA, HJ1, ⟨mc1, rfl⟩⟩ := hcut
    cases kq with
    | zero => exact absurd HA.out (by simp [ambryref9_clock.j0])
    | succ kj1 =>
      have H := HA.out
      clear HA
      simp only [ambryref9_clock.j0] at H
      by_cases c9 : x22_1 = true
      · subst c9
        have H1 : (some (0, false)) = some (r1, r2) := by rw [if_pos rfl] at H; exact H
        clear H
        have H := H1
        clear H1
        simp only [Option.some.injEq, Prod.mk.injEq] at H
        obtain ⟨rfl, rfl⟩ := H
        go_wp2
        go_ret2
        exact ⟨by first | rfl | (simp; done) | (simp [*]; done), by repeat (first | exact Drawn0.refl _ | apply Drawn0.step)⟩
      · replace c9 := Bool.eq_false_iff.mpr c9
        subst c9
        have H1 : (if 0 ≤ 2 then (if 2 ≤ (a0.size : Int) then ((ambryref9_digits.f kj1 (a0.extract 0 2)).bind fun bt184 => (if 3 ≤ 5 then (if 5 ≤ (a0.size : Int) then ((ambryref9_digits.f kj1 (a0.extract 3 5)).bind fun bt186 => (if 6 ≤ (a0.size : Int) then ((ambryref9_digits.f kj1 (a0.extract 6 a0.size)).bind fun bt188 => (if bt184.2 = true then (if bt186.2 = true then (if bt188.2 = true then (if bt184.1 ≤ 23 then (if bt186.1 ≤ 59 then (some (wrap64 ((wrap64 ((wrap64 (bt184.1 * 3600)) + (wrap64 (bt186.1 * 60)))) + bt188.1), decide (bt188.1 ≤ 59))) else (some (wrap64 ((wrap64 ((wrap64 (bt184.1 * 3600)) + (wrap64 (bt186.1 * 60)))) + bt188.1), false))) else (some (wrap64 ((wrap64 ((wrap64 (bt184.1 * 3600)) + (wrap64 (bt186.1 * 60)))) + bt188.1), false))) else (some (wrap64 ((wrap64 ((wrap64 (bt184.1 * 3600)) + (wrap64 (bt186.1 * 60)))) + bt188.1), false))) else (some (wrap64 ((wrap64 ((wrap64 (bt184.1 * 3600)) + (wrap64 (bt186.1 * 60)))) + bt188.1), false))) else (some (wrap64 ((wrap64 ((wrap64 (bt184.1 * 3600)) + (wrap64 (bt186.1 * 60)))) + bt188.1), false)))) else (none))) else (none)) else (none))) else (none)) else (none)) = some (r1, r2) := by rw [if_neg (show ¬ (false = true) by decide)] at H; exact H
        clear H
        have H := H1
        clear H1
        by_cases c10 : 0 ≤ 2
        · rw [if_pos c10] at H
          have c10b0 := eq_true c10
          have c10b1 : decide (0 ≤ 2) = true := decide_eq_true c10
          clear c10
          by_cases c11 : 2 ≤ (a0.size : Int)
          · rw [if_pos c11] at H
            have c11b0 := eq_true c11
            have c11b1 : decide (2 ≤ (a0.size : Int)) = true := decide_eq_true c11
            clear c11
            replace H := Option.bind_eq_some_iff.mp H
            obtain ⟨⟨t184, t185⟩, A120, H⟩ := H
            replace H : (if 3 ≤ 5 then (if 5 ≤ (a0.size : Int) then ((ambryref9_digits.f kj1 (a0.extract 3 5)).bind fun bt186 => (if 6 ≤ (a0.size : Int) then ((ambryref9_digits.f kj1 (a0.extract 6 a0.size)).bind fun bt188 => (if t185 = true then (if bt186.2 = true then (if bt188.2 = true then (if t184 ≤ 23 then (if bt186.1 ≤ 59 then (some (wrap64 ((wrap64 ((wrap64 (t184 * 3600)) + (wrap64 (bt186.1 * 60)))) + bt188.1), decide (bt188.1 ≤ 59))) else (some (wrap64 ((wrap64 ((wrap64 (t184 * 3600)) + (wrap64 (bt186.1 * 60)))) + bt188.1), false))) else (some (wrap64 ((wrap64 ((wrap64 (t184 * 3600)) + (wrap64 (bt186.1 * 60)))) + bt188.1), false))) else (some (wrap64 ((wrap64 ((wrap64 (t184 * 3600)) + (wrap64 (bt186.1 * 60)))) + bt188.1), false))) else (some (wrap64 ((wrap64 ((wrap64 (t184 * 3600)) + (wrap64 (bt186.1 * 60)))) + bt188.1), false))) else (some (wrap64 ((wrap64 ((wrap64 (t184 * 3600)) + (wrap64 (bt186.1 * 60)))) + bt188.1), false)))) else (none))) else (none)) else (none)) = some (r1, r2) := H
            have A12 := Aside0.mk A120
            clear A120
            by_cases c13 : 3 ≤ 5
            · rw [if_pos c13] at H
              have c13b0 := eq_true c13
              have c13b1 : decide (3 ≤ 5) = true := decide_eq_true c13
              clear c13
              by_cases c14 : 5 ≤ (a0.size : Int)
              · rw [if_pos c14] at H
                have c14b0 := eq_true c14
                have c14b1 : decide (5 ≤ (a0.size : Int)) = true := decide_eq_true c14
                clear c14
                replace H := Option.bind_eq_some_iff.mp H
                obtain ⟨⟨t186, t187⟩, A150, H⟩ := H
                replace H : (if 6 ≤ (a0.size : Int) then ((ambryref9_digits.f kj1 (a0.extract 6 a0.size)).bind fun bt188 => (if t185 = true then (if t187 = true then (if bt188.2 = true then (if t184 ≤ 23 then (if t186 ≤ 59 then (some (wrap64 ((wrap64 ((wrap64 (t184 * 3600)) + (wrap64 (t186 * 60)))) + bt188.1), decide (bt188.1 ≤ 59))) else (some (wrap64 ((wrap64 ((wrap64 (t184 * 3600)) + (wrap64 (t186 * 60)))) + bt188.1), false))) else (some (wrap64 ((wrap64 ((wrap64 (t184 * 3600)) + (wrap64 (t186 * 60)))) + bt188.1), false))) else (some (wrap64 ((wrap64 ((wrap64 (t184 * 3600)) + (wrap64 (t186 * 60)))) + bt188.1), false))) else (some (wrap64 ((wrap64 ((wrap64 (t184 * 3600)) + (wrap64 (t186 * 60)))) + bt188.1), false))) else (some (wrap64 ((wrap64 ((wrap64 (t184 * 3600)) + (wrap64 (t186 * 60)))) + bt188.1), false)))) else (none)) = some (r1, r2) := H
                have A15 := Aside0.mk A150
                clear A150
                by_cases c16 : 6 ≤ (a0.size : Int)
                · rw [if_pos c16] at H
                  have c16b0 := eq_true c16
                  have c16b1 : decide (6 ≤ (a0.size : Int)) = true := decide_eq_true c16
                  clear c16
                  replace H := Option.bind_eq_some_iff.mp H
                  obtain ⟨⟨t188, t189⟩, A170, H⟩ := H
                  replace H : (if t185 = true then (if t187 = true then (if t189 = true then (if t184 ≤ 23 then (if t186 ≤ 59 then (some (wrap64 ((wrap64 ((wrap64 (t184 * 3600)) + (wrap64 (t186 * 60)))) + t188), decide (t188 ≤ 59))) else (some (wrap64 ((wrap64 ((wrap64 (t184 * 3600)) + (wrap64 (t186 * 60)))) + t188), false))) else (some (wrap64 ((wrap64 ((wrap64 (t184 * 3600)) + (wrap64 (t186 * 60)))) + t188), false))) else (some (wrap64 ((wrap64 ((wrap64 (t184 * 3600)) + (wrap64 (t186 * 60)))) + t188), false))) else (some (wrap64 ((wrap64 ((wrap64 (t184 * 3600)) + (wrap64 (t186 * 60)))) + t188), false))) else (some (wrap64 ((wrap64 ((wrap64 (t184 * 3600)) + (wrap64 (t186 * 60)))) + t188), false))) = some (r1, r2) := H
                  have A17 := Aside0.mk A170
                  clear A170
                  by_cases c18 : t185 = true
                  · subst c18
                    have H1 : (if t187 = true then (if t189 = true then (if t184 ≤ 23 then (if t186 ≤ 59 then (some (wrap64 ((wrap64 ((wrap64 (t184 * 3600)) + (wrap64 (t186 * 60)))) + t188), decide (t188 ≤ 59))) else (some (wrap64 ((wrap64 ((wrap64 (t184 * 3600)) + (wrap64 (t186 * 60)))) + t188), false))) else (some (wrap64 ((wrap64 ((wrap64 (t184 * 3600)) + (wrap64 (t186 * 60)))) + t188), false))) else (some (wrap64 ((wrap64 ((wrap64 (t184 * 3600)) + (wrap64 (t186 * 60)))) + t188), false))) else (some (wrap64 ((wrap64 ((wrap64 (t184 * 3600)) + (wrap64 (t186 * 60)))) + t188), false))) = some (r1, r2) := by rw [if_pos rfl] at H; exact H
                    clear H
                    have H := H1
                    clear H1
                    by_cases c19 : t187 = true
                    · subst c19
                      have H1 : (if t189 = true then (if t184 ≤ 23 then (if t186 ≤ 59 then (some (wrap64 ((wrap64 ((wrap64 (t184 * 3600)) + (wrap64 (t186 * 60)))) + t188), decide (t188 ≤ 59))) else (some (wrap64 ((wrap64 ((wrap64 (t184 * 3600)) + (wrap64 (t186 * 60)))) + t188), false))) else (some (wrap64 ((wrap64 ((wrap64 (t184 * 3600)) + (wrap64 (t186 * 60)))) + t188), false))) else (some (wrap64 ((wrap64 ((wrap64 (t184 * 3600)) + (wrap64 (t186 * 60)))) + t188), false))) = some (r1, r2) := by rw [if_pos rfl] at H; exact H
                      clear H
                      have H := H1
                      clear H1
                      by_cases c20 : t189 = true
                      · subst c20
                        have H1 : (if t184 ≤ 23 then (if t186 ≤ 59 then (some (wrap64 ((wrap64 ((wrap64 (t184 * 3600)) + (wrap64 (t186 * 60)))) + t188), decide (t188 ≤ 59))) else (some (wrap64 ((wrap64 ((wrap64 (t184 * 3600)) + (wrap64 (t186 * 60)))) + t188), false))) else (some (wrap64 ((wrap64 ((wrap64 (t184 * 3600)) + (wrap64 (t186 * 60)))) + t188), false))) = some (r1, r2) := by rw [if_pos rfl] at H; exact H
                        clear H
                        have H := H1
                        clear H1
                        by_cases c21 : t184 ≤ 23
                        · rw [if_pos c21] at H
                          have c21b0 : decide (t184 ≤ 23) = true := decide_eq_true c21
                          clear c21
                          by_cases c22 : t186 ≤ 59
                          · rw [if_pos c22] at H
                            have c22b0 : decide (t186 ≤ 59) = true := decide_eq_true c22
                            clear c22
                            simp only [Option.some.injEq, Prod.mk.injEq] at H
                            obtain ⟨rfl, rfl⟩ := H
                            go_wp2_with (first | ((with_reducible refine gate_callee (f := 28) rfl ?_); refine goesL_ (some 26) rfl rfl Tryd.func28 (by kernel_rfl) rfl #[.string (a0.extract 0 2)] rfl (by (try simp only [List.map_toArray, List.map_cons, List.map_nil]); first | done | rfl | (simp only [List.length_drop, List.length_take]; rfl)) ?_; (with_reducible refine (ambryref9_digits.calls kj1 (a0.extract 0 2) t184 true _ A12.out).mono ?_); rintro e w' ⟨rfl, ⟨nd, rfl⟩⟩; refine ⟨_, rfl, ?_⟩) | ((with_reducible refine gate_callee (f := 28) rfl ?_); refine goesL_ (some 32) rfl rfl Tryd.func28 (by kernel_rfl) rfl #[.string (a0.extract 3 5)] rfl (by (try simp only [List.map_toArray, List.map_cons, List.map_nil]); first | done | rfl | (simp only [List.length_drop, List.length_take]; rfl)) ?_; (with_reducible refine (ambryref9_digits.calls kj1 (a0.extract 3 5) t186 true _ A15.out).mono ?_); rintro e w' ⟨rfl, ⟨nd, rfl⟩⟩; refine ⟨_, rfl, ?_⟩) | ((with_reducible refine gate_callee (f := 28) rfl ?_); refine goesL_ (some 38) rfl rfl Tryd.func28 (by kernel_rfl) rfl #[.string (a0.extract 6 a0.size)] rfl (by (try simp only [List.map_toArray, List.map_cons, List.map_nil]); first | done | rfl | (simp only [List.length_drop, List.length_take]; rfl)) ?_; (with_reducible refine (ambryref9_digits.calls kj1 (a0.extract 6 a0.size) t188 true _ A17.out).mono ?_); rintro e w' ⟨rfl, ⟨nd, rfl⟩⟩; refine ⟨_, rfl, ?_⟩))
                            go_ret2
                            exact ⟨by first | rfl | (simp; done) | (simp [*]; done), by repeat (first | exact Drawn0.refl _ | apply Drawn0.step)⟩
                          · rw [if_neg c22] at H
                            have c22b0 : decide (t186 ≤ 59) = false := decide_eq_false c22
                            clear c22
                            simp only [Option.some.injEq, Prod.mk.injEq] at H
                            obtain ⟨rfl, rfl⟩ := H
                            go_wp2_with (first | ((with_reducible refine gate_callee (f := 28) rfl ?_); refine goesL_ (some 26) rfl rfl Tryd.func28 (by kernel_rfl) rfl #[.string (a0.extract 0 2)] rfl (by (try simp only [List.map_toArray, List.map_cons, List.map_nil]); first | done | rfl | (simp only [List.length_drop, List.length_take]; rfl)) ?_; (with_reducible refine (ambryref9_digits.calls kj1 (a0.extract 0 2) t184 true _ A12.out).mono ?_); rintro e w' ⟨rfl, ⟨nd, rfl⟩⟩; refine ⟨_, rfl, ?_⟩) | ((with_reducible refine gate_callee (f := 28) rfl ?_); refine goesL_ (some 32) rfl rfl Tryd.func28 (by kernel_rfl) rfl #[.string (a0.extract 3 5)] rfl (by (try simp only [List.map_toArray, List.map_cons, List.map_nil]); first | done | rfl | (simp only [List.length_drop, List.length_take]; rfl)) ?_; (with_reducible refine (ambryref9_digits.calls kj1 (a0.extract 3 5) t186 true _ A15.out).mono ?_); rintro e w' ⟨rfl, ⟨nd, rfl⟩⟩; refine ⟨_, rfl, ?_⟩) | ((with_reducible refine gate_callee (f := 28) rfl ?_); refine goesL_ (some 38) rfl rfl Tryd.func28 (by kernel_rfl) rfl #[.string (a0.extract 6 a0.size)] rfl (by (try simp only [List.map_toArray, List.map_cons, List.map_nil]); first | done | rfl | (simp only [List.length_drop, List.length_take]; rfl)) ?_; (with_reducible refine (ambryref9_digits.calls kj1 (a0.extract 6 a0.size) t188 true _ A17.out).mono ?_); rintro e w' ⟨rfl, ⟨nd, rfl⟩⟩; refine ⟨_, rfl, ?_⟩))
                            go_ret2
                            exact ⟨by first | rfl | (simp; done) | (simp [*]; done), by repeat (first | exact Drawn0.refl _ | apply Drawn0.step)⟩
                        · rw [if_neg c21] at H
                          have c21b0 : decide (t184 ≤ 23) = false := decide_eq_false c21
                          clear c21
                          simp only [Option.some.injEq, Prod.mk.injEq] at H
                          obtain ⟨rfl, rfl⟩ := H
                          go_wp2_with (first | ((with_reducible refine gate_callee (f := 28) rfl ?_); refine goesL_ (some 26) rfl rfl Tryd.func28 (by kernel_rfl) rfl #[.string (a0.extract 0 2)] rfl (by (try simp only [List.map_toArray, List.map_cons, List.map_nil]); first | done | rfl | (simp only [List.length_drop, List.length_take]; rfl)) ?_; (with_reducible refine (ambryref9_digits.calls kj1 (a0.extract 0 2) t184 true _ A12.out).mono ?_); rintro e w' ⟨rfl, ⟨nd, rfl⟩⟩; refine ⟨_, rfl, ?_⟩) | ((with_reducible refine gate_callee (f := 28) rfl ?_); refine goesL_ (some 32) rfl rfl Tryd.func28 (by kernel_rfl) rfl #[.string (a0.extract 3 5)] rfl (by (try simp only [List.map_toArray, List.map_cons, List.map_nil]); first | done | rfl | (simp only [List.length_drop, List.length_take]; rfl)) ?_; (with_reducible refine (ambryref9_digits.calls kj1 (a0.extract 3 5) t186 true _ A15.out).mono ?_); rintro e w' ⟨rfl, ⟨nd, rfl⟩⟩; refine ⟨_, rfl, ?_⟩) | ((with_reducible refine gate_callee (f := 28) rfl ?_); refine goesL_ (some 38) rfl rfl Tryd.func28 (by kernel_rfl) rfl #[.string (a0.extract 6 a0.size)] rfl (by (try simp only [List.map_toArray, List.map_cons, List.map_nil]); first | done | rfl | (simp only [List.length_drop, List.length_take]; rfl)) ?_; (with_reducible refine (ambryref9_digits.calls kj1 (a0.extract 6 a0.size) t188 true _ A17.out).mono ?_); rintro e w' ⟨rfl, ⟨nd, rfl⟩⟩; refine ⟨_, rfl, ?_⟩))
                          go_ret2
                          exact ⟨by first | rfl | (simp; done) | (simp [*]; done), by repeat (first | exact Drawn0.refl _ | apply Drawn0.step)⟩
                      · replace c20 := Bool.eq_false_iff.mpr c20
                        subst c20
                        have H1 : (some (wrap64 ((wrap64 ((wrap64 (t184 * 3600)) + (wrap64 (t186 * 60)))) + t188), false)) = some (r1, r2) := by rw [if_neg (show ¬ (false = true) by decide)] at H; exact H
                        clear H
                        have H := H1
                        clear H1
                        simp only [Option.some.injEq, Prod.mk.injEq] at H
                        obtain ⟨rfl, rfl⟩ := H
                        go_wp2_with (first | ((with_reducible refine gate_callee (f := 28) rfl ?_); refine goesL_ (some 26) rfl rfl Tryd.func28 (by kernel_rfl) rfl #[.string (a0.extract 0 2)] rfl (by (try simp only [List.map_toArray, List.map_cons, List.map_nil]); first | done | rfl | (simp only [List.length_drop, List.length_take]; rfl)) ?_; (with_reducible refine (ambryref9_digits.calls kj1 (a0.extract 0 2) t184 true _ A12.out).mono ?_); rintro e w' ⟨rfl, ⟨nd, rfl⟩⟩; refine ⟨_, rfl, ?_⟩) | ((with_reducible refine gate_callee (f := 28) rfl ?_); refine goesL_ (some 32) rfl rfl Tryd.func28 (by kernel_rfl) rfl #[.string (a0.extract 3 5)] rfl (by (try simp only [List.map_toArray, List.map_cons, List.map_nil]); first | done | rfl | (simp only [List.length_drop, List.length_take]; rfl)) ?_; (with_reducible refine (ambryref9_digits.calls kj1 (a0.extract 3 5) t186 true _ A15.out).mono ?_); rintro e w' ⟨rfl, ⟨nd, rfl⟩⟩; refine ⟨_, rfl, ?_⟩) | ((with_reducible refine gate_callee (f := 28) rfl ?_); refine goesL_ (some 38) rfl rfl Tryd.func28 (by kernel_rfl) rfl #[.string (a0.extract 6 a0.size)] rfl (by (try simp only [List.map_toArray, List.map_cons, List.map_nil]); first | done | rfl | (simp only [List.length_drop, List.length_take]; rfl)) ?_; (with_reducible refine (ambryref9_digits.calls kj1 (a0.extract 6 a0.size) t188 false _ A17.out).mono ?_); rintro e w' ⟨rfl, ⟨nd, rfl⟩⟩; refine ⟨_, rfl, ?_⟩))
                        go_ret2
                        exact ⟨by first | rfl | (simp; done) | (simp [*]; done), by repeat (first | exact Drawn0.refl _ | apply Drawn0.step)⟩
                    · replace c19 := Bool.eq_false_iff.mpr c19
                      subst c19
                      have H1 : (some (wrap64 ((wrap64 ((wrap64 (t184 * 3600)) + (wrap64 (t186 * 60)))) + t188), false)) = some (r1, r2) := by rw [if_neg (show ¬ (false = true) by decide)] at H; exact H
                      clear H
                      have H := H1
                      clear H1
                      simp only [Option.some.injEq, Prod.mk.injEq] at H
                      obtain ⟨rfl, rfl⟩ := H
                      go_wp2_with (first | ((with_reducible refine gate_callee (f := 28) rfl ?_); refine goesL_ (some 26) rfl rfl Tryd.func28 (by kernel_rfl) rfl #[.string (a0.extract 0 2)] rfl (by (try simp only [List.map_toArray, List.map_cons, List.map_nil]); first | done | rfl | (simp only [List.length_drop, List.length_take]; rfl)) ?_; (with_reducible refine (ambryref9_digits.calls kj1 (a0.extract 0 2) t184 true _ A12.out).mono ?_); rintro e w' ⟨rfl, ⟨nd, rfl⟩⟩; refine ⟨_, rfl, ?_⟩) | ((with_reducible refine gate_callee (f := 28) rfl ?_); refine goesL_ (some 32) rfl rfl Tryd.func28 (by kernel_rfl) rfl #[.string (a0.extract 3 5)] rfl (by (try simp only [List.map_toArray, List.map_cons, List.map_nil]); first | done | rfl | (simp only [List.length_drop, List.length_take]; rfl)) ?_; (with_reducible refine (ambryref9_digits.calls kj1 (a0.extract 3 5) t186 false _ A15.out).mono ?_); rintro e w' ⟨rfl, ⟨nd, rfl⟩⟩; refine ⟨_, rfl, ?_⟩) | ((with_reducible refine gate_callee (f := 28) rfl ?_); refine goesL_ (some 38) rfl rfl Tryd.func28 (by kernel_rfl) rfl #[.string (a0.extract 6 a0.size)] rfl (by (try simp only [List.map_toArray, List.map_cons, List.map_nil]); first | done | rfl | (simp only [List.length_drop, List.length_take]; rfl)) ?_; (with_reducible refine (ambryref9_digits.calls kj1 (a0.extract 6 a0.size) t188 t189 _ A17.out).mono ?_); rintro e w' ⟨rfl, ⟨nd, rfl⟩⟩; refine ⟨_, rfl, ?_⟩))
                      go_ret2
                      exact ⟨by first | rfl | (simp; done) | (simp [*]; done), by repeat (first | exact Drawn0.refl _ | apply Drawn0.step)⟩
                  · replace c18 := Bool.eq_false_iff.mpr c18
                    subst c18
                    have H1 : (some (wrap64 ((wrap64 ((wrap64 (t184 * 3600)) + (wrap64 (t186 * 60)))) + t188), false)) = some (r1, r2) := by rw [if_neg (show ¬ (false = true) by decide)] at H; exact H
                    clear H
                    have H := H1
                    clear H1
                    simp only [Option.some.injEq, Prod.mk.injEq] at H
                    obtain ⟨rfl, rfl⟩ := H
                    go_wp2_with (first | ((with_reducible refine gate_callee (f := 28) rfl ?_); refine goesL_ (some 26) rfl rfl Tryd.func28 (by kernel_rfl) rfl #[.string (a0.extract 0 2)] rfl (by (try simp only [List.map_toArray, List.map_cons, List.map_nil]); first | done | rfl | (simp only [List.length_drop, List.length_take]; rfl)) ?_; (with_reducible refine (ambryref9_digits.calls kj1 (a0.extract 0 2) t184 false _ A12.out).mono ?_); rintro e w' ⟨rfl, ⟨nd, rfl⟩⟩; refine ⟨_, rfl, ?_⟩) | ((with_reducible refine gate_callee (f := 28) rfl ?_); refine goesL_ (some 32) rfl rfl Tryd.func28 (by kernel_rfl) rfl #[.string (a0.extract 3 5)] rfl (by (try simp only [List.map_toArray, List.map_cons, List.map_nil]); first | done | rfl | (simp only [List.length_drop, List.length_take]; rfl)) ?_; (with_reducible refine (ambryref9_digits.calls kj1 (a0.extract 3 5) t186 t187 _ A15.out).mono ?_); rintro e w' ⟨rfl, ⟨nd, rfl⟩⟩; refine ⟨_, rfl, ?_⟩) | ((with_reducible refine gate_callee (f := 28) rfl ?_); refine goesL_ (some 38) rfl rfl Tryd.func28 (by kernel_rfl) rfl #[.string (a0.extract 6 a0.size)] rfl (by (try simp only [List.map_toArray, List.map_cons, List.map_nil]); first | done | rfl | (simp only [List.length_drop, List.length_take]; rfl)) ?_; (with_reducible refine (ambryref9_digits.calls kj1 (a0.extract 6 a0.size) t188 t189 _ A17.out).mono ?_); rintro e w' ⟨rfl, ⟨nd, rfl⟩⟩; refine ⟨_, rfl, ?_⟩))
                    go_ret2
                    exact ⟨by first | rfl | (simp; done) | (simp [*]; done), by repeat (first | exact Drawn0.refl _ | apply Drawn0.step)⟩
                · rw [if_neg c16] at H
                  exact absurd H (by simp)
              · rw [if_neg c14] at H
                exact absurd H (by simp)
            · rw [if_neg c13] at H
              exact absurd H (by simp)
          · rw [if_neg c11] at H
            exact absurd H (by simp)
        · rw [if_neg c10] at H
          exact absurd H (by simp)

end Go.Proofs.YtcejglmmjbmafaaDoor.X
-- printed by a program (xp.py, over the kit's print); Lean checks it
namespace Go.Proofs.YtcejglmmjbmafaaDoor.X
open Go.RowKit Go.Proofs.YtcejglmmjbmafaaDoorW.PrintWords Go.Proofs.YtcejglmmjbmafaaDoorW.PrintLast Go.Proofs.YtcejglmmjbmafaaDoorW.PrintMore
attribute [local go_sem] max2_int min2_int max_two min_two max_three min_three max_four min_four   -- for this text's walks alone
set_option linter.unusedVariables false
set_option linter.unusedSimpArgs false

/-! ### ambryref9_day: function 43 -/
def ambryref9_day.l0 : Nat → Int → Int → Int → Int → Int → Option (Int)
  | 0, _, _, _, _, _ => none
  | k + 1, x0, x1, x2, x7, x8 => if x8 < x1 then ((ambryref9_length.f x0 x8).bind fun t191 => (ambryref9_day.l0 k x0 x1 x2 (wrap64 (x7 + t191)) (wrap64 (x8 + 1)))) else (some (wrap64 (x7 + (wrap64 (x2 - 1)))))
def ambryref9_day.f (k : Nat) (a0 : Int) (a1 : Int) (a2 : Int) : Option (Int) := (ambryref9_ahead.f a0).bind fun t190 => (ambryref9_day.l0 k a0 a1 a2 t190 1)
theorem ambryref9_day.mono_l : ∀ k, (∀ y0 y1 y2 y3 y4, LeO (ambryref9_day.l0 k y0 y1 y2 y3 y4) (ambryref9_day.l0 (k + 1) y0 y1 y2 y3 y4))
  | 0 => fun _ _ _ _ _ r h => by simp [ambryref9_day.l0] at h
  | k + 1 => by
    have ih0 := ambryref9_day.mono_l k
    · intro y0 y1 y2 y3 y4
      unfold ambryref9_day.l0
      repeat' first
      | (with_reducible exact ih0 _ _ _ _ _)
      | (with_reducible exact LeO.refl _)
      | (with_reducible exact LeO.none _)
      | (with_reducible refine LeO.ite ?_ ?_)
      | (with_reducible refine LeO.bind ?_ (fun _ => ?_))
      | exact ih0 _ _ _ _ _
      | exact LeO.none _
      | refine LeO.ite ?_ ?_
      | refine LeO.bind ?_ (fun _ => ?_)
theorem ambryref9_day.mono : ∀ a0 a1 a2 k, LeO (ambryref9_day.f k a0 a1 a2) (ambryref9_day.f (k + 1) a0 a1 a2) := by
  intro a0 a1 a2 k
  have ih0 := ambryref9_day.mono_l k
  unfold ambryref9_day.f
  repeat' first
      | (with_reducible exact ih0 _ _ _ _ _)
      | (with_reducible exact LeO.refl _)
      | (with_reducible exact LeO.none _)
      | (with_reducible refine LeO.ite ?_ ?_)
      | (with_reducible refine LeO.bind ?_ (fun _ => ?_))
      | exact ih0 _ _ _ _ _
      | exact LeO.none _
      | refine LeO.ite ?_ ?_
      | refine LeO.bind ?_ (fun _ => ?_)
set_option maxHeartbeats 8000000 in
set_option maxRecDepth 100000 in
theorem ambryref9_day.calls (k : Nat) (a0 : Int) (a1 : Int) (a2 : Int) (r : Int) (w : World) (h : ambryref9_day.f k a0 a1 a2 = some r) :
    Calls Tryd.prog 43 #[.int .i64 a0, .int .i64 a1, .int .i64 a2] w fun e w' => e = .returned (.int .i64 r) ∧ Below w.heap.size w w' := by
  have HB := Aside0.mk (Below.refl w.heap.size w)
  have H : ((ambryref9_ahead.f a0).bind fun t190 => (ambryref9_day.l0 k a0 a1 a2 t190 1)) = some r := h
  clear h
  replace H := Option.bind_eq_some_iff.mp H
  obtain ⟨t190, A40, H⟩ := H
  replace H : (ambryref9_day.l0 k a0 a1 a2 t190 1) = some r := H
  have A4 := Aside0.mk A40
  clear A40
  have H' := Aside0.mk H
  clear H
  go_enter Tryd.func43, Tryd.ntmps43
  go_wp2_with (first | ((with_reducible refine gate_callee (f := 23) rfl ?_); refine goesL_ (some 10) rfl rfl Tryd.func23 (by kernel_rfl) rfl #[.int .i64 a0] rfl (by (try simp only [List.map_toArray, List.map_cons, List.map_nil]); first | done | rfl | (simp only [List.length_drop, List.length_take]; rfl)) ?_; (with_reducible refine (ambryref9_ahead.calls a0 t190 _ A4.out).mono ?_); rintro e w' ⟨rfl, ⟨nd, rfl⟩⟩; refine ⟨_, rfl, ?_⟩))
  go_loopg [7, 8] k (fun kq v7 v8 w' => ∃ (x7_1 : Int) (x8_1 : Int), v7 = .int .i64 x7_1 ∧ v8 = .int .i64 x8_1 ∧ Aside0 (ambryref9_day.l0 kq a0 a1 a2 x7_1 x8_1 = some r) ∧ Aside0 (kq ≤ k) ∧ Aside0 (Below w.heap.size w w'))
  case atStart => exact ⟨(t190), (1), (by first | rfl | (simp; done) | (simp [*]; done)), (by first | rfl | (simp; done) | (simp [*]; done)), H', ⟨Nat.le_refl _⟩, ⟨by repeat (first | (with_reducible first | exact HB.out | apply below_alloc | apply pw_below_drewN | apply below_drew1) | exact HB.out)⟩⟩
  case round =>
    clear H'
    try clear c2
    try clear p2
    try clear c4
    obtain ⟨x7_1, x8_1, rfl, rfl, HA, HK1, HB⟩ := hrel
    cases gk with
    | zero => exact absurd HA.out (by simp [ambryref9_day.l0])
    | succ k1 =>
      have H := HA.out
      clear HA
      simp only [ambryref9_day.l0] at H
      by_cases c5 : x8_1 < a1
      · rw [if_pos c5] at H
        have c5b0 : decide (x8_1 < a1) = true := decide_eq_true c5
        clear c5
        replace H := Option.bind_eq_some_iff.mp H
        obtain ⟨t191, A60, H⟩ := H
        replace H : (ambryref9_day.l0 k1 a0 a1 a2 (wrap64 (x7_1 + t191)) (wrap64 (x8_1 + 1))) = some r := H
        have A6 := Aside0.mk A60
        clear A60
        have H' := Aside0.mk H
        clear H
        go_wp2_with (first | ((with_reducible refine gate_callee (f := 24) rfl ?_); refine goesL_ (some 19) rfl rfl Tryd.func24 (by kernel_rfl) rfl #[.int .i64 a0, .int .i64 x8_1] rfl (by (try simp only [List.map_toArray, List.map_cons, List.map_nil]); first | done | rfl | (simp only [List.length_drop, List.length_take]; rfl)) ?_; (with_reducible refine (ambryref9_length.calls a0 x8_1 t191 _ A6.out).mono ?_); rintro e w7 ⟨rfl, hb⟩; refine ⟨_, rfl, ?_⟩; have n0_ := Aside0.mk (below_step (by repeat (first | (with_reducible first | exact HB.out | apply below_alloc | apply pw_below_drewN | apply below_drew1) | exact HB.out)) hb); clear HB; have HB := n0_; clear n0_; (try clear hb); (try clear hb2); (try clear hk); (try clear hi)))
        go_roundg k1
        case measure => have := HK1.out; omega
        case rel => exact ⟨(wrap64 (x7_1 + t191)), (wrap64 (x8_1 + 1)), (by first | rfl | (simp; done) | (simp [*]; done)), (by first | rfl | (simp; done) | (simp [*]; done)), H', ⟨by have := HK1.out; omega⟩, ⟨by repeat (first | (with_reducible first | exact HB.out | apply below_alloc | apply pw_below_drewN | apply below_drew1) | exact HB.out)⟩⟩
      · rw [if_neg c5] at H
        have c5b0 : decide (x8_1 < a1) = false := decide_eq_false c5
        clear c5
        obtain rfl := Option.some.inj H
        go_wp2
        go_ret
        exact ⟨by first | rfl | (simp [errW_none, errW_some] <;> rfl) | (simp [*, errW_none, errW_some] <;> rfl), by repeat (first | (with_reducible first | exact HB.out | apply below_alloc | apply pw_below_drewN | apply below_drew1) | exact HB.out)⟩

end Go.Proofs.YtcejglmmjbmafaaDoor.X
-- printed by a program (xp.py, over the kit's print); Lean checks it
namespace Go.Proofs.YtcejglmmjbmafaaDoor.X
open Go.RowKit Go.Proofs.YtcejglmmjbmafaaDoorW.PrintWords Go.Proofs.YtcejglmmjbmafaaDoorW.PrintLast Go.Proofs.YtcejglmmjbmafaaDoorW.PrintMore
attribute [local go_sem] max2_int min2_int max_two min_two max_three min_three max_four min_four   -- for this text's walks alone
set_option linter.unusedVariables false
set_option linter.unusedSimpArgs false

/-! ### ambryref9_made: function 29 -/
def ambryref9_made.j0 : Nat → Int → Int → Int → Int → Int → Bool → Option (Int × Int)
  | 0, _, _, _, _, _, _ => none
  | k + 1, x0, x1, x2, x3, x12, x49 => if x49 = true then (some (0, 80)) else ((ambryref9_day.f k x1 (wrap64 (x2 + 1)) x3).bind fun t195 => (if (Int.tmod (wrap64 (t195 + 4)) 7) = x0 then (some (wrap64 ((wrap64 (t195 * 86400)) + x12), 0)) else (some (0, 80))))
def ambryref9_made.f (k : Nat) (a0 : Int) (a1 : Int) (a2 : Int) (a3 : Int) (a4 : ByteArray) : Option (Int × Int) := (ambryref9_clock.f k a4).bind fun bt192 => (if bt192.2 = true then (if a0 < 0 then (ambryref9_made.j0 k a0 a1 a2 a3 bt192.1 true) else (if a2 < 0 then (ambryref9_made.j0 k a0 a1 a2 a3 bt192.1 true) else (if a1 < 1970 then (ambryref9_made.j0 k a0 a1 a2 a3 bt192.1 true) else (if a1 > 9999 then (ambryref9_made.j0 k a0 a1 a2 a3 bt192.1 true) else (if a3 < 1 then (ambryref9_made.j0 k a0 a1 a2 a3 bt192.1 true) else ((ambryref9_length.f a1 (wrap64 (a2 + 1))).bind fun t194 => (ambryref9_made.j0 k a0 a1 a2 a3 bt192.1 (decide (a3 > t194))))))))) else (ambryref9_made.j0 k a0 a1 a2 a3 bt192.1 true))
theorem ambryref9_made.mono_l : ∀ k, (∀ y0 y1 y2 y3 y4 y5, LeO (ambryref9_made.j0 k y0 y1 y2 y3 y4 y5) (ambryref9_made.j0 (k + 1) y0 y1 y2 y3 y4 y5))
  | 0 => fun _ _ _ _ _ _ r h => by simp [ambryref9_made.j0] at h
  | k + 1 => by
    have ih0 := ambryref9_made.mono_l k
    · intro y0 y1 y2 y3 y4 y5
      unfold ambryref9_made.j0
      repeat' first
      | (with_reducible exact ih0 _ _ _ _ _ _)
      | (with_reducible exact ambryref9_clock.mono _ _)
      | (with_reducible exact ambryref9_day.mono _ _ _ _)
      | (with_reducible exact LeO.refl _)
      | (with_reducible exact LeO.none _)
      | (with_reducible refine LeO.ite ?_ ?_)
      | (with_reducible refine LeO.bind ?_ (fun _ => ?_))
      | exact ih0 _ _ _ _ _ _
      | exact ambryref9_clock.mono _ _
      | exact ambryref9_day.mono _ _ _ _
      | exact LeO.none _
      | refine LeO.ite ?_ ?_
      | refine LeO.bind ?_ (fun _ => ?_)
theorem ambryref9_made.mono : ∀ a0 a1 a2 a3 a4 k, LeO (ambryref9_made.f k a0 a1 a2 a3 a4) (ambryref9_made.f (k + 1) a0 a1 a2 a3 a4) := by
  intro a0 a1 a2 a3 a4 k
  have ih0 := ambryref9_made.mono_l k
  unfold ambryref9_made.f
  repeat' first
      | (with_reducible exact ih0 _ _ _ _ _ _)
      | (with_reducible exact ambryref9_clock.mono _ _)
      | (with_reducible exact ambryref9_day.mono _ _ _ _)
      | (with_reducible exact LeO.refl _)
      | (with_reducible exact LeO.none _)
      | (with_reducible refine LeO.ite ?_ ?_)
      | (with_reducible refine LeO.bind ?_ (fun _ => ?_))
      | exact ih0 _ _ _ _ _ _
      | exact ambryref9_clock.mono _ _
      | exact ambryref9_day.mono _ _ _ _
      | exact LeO.none _
      | refine LeO.ite ?_ ?_
      | refine LeO.bind ?_ (fun _ => ?_)
set_option maxHeartbeats 8000000 in
set_option maxRecDepth 100000 in
theorem ambryref9_made.calls (k : Nat) (a0 : Int) (a1 : Int) (a2 : Int) (a3 : Int) (a4 : ByteArray) (r1 : Int) (r2 : Int) (w : World) (h : ambryref9_made.f k a0 a1 a2 a3 a4 = some (r1, r2)) :
    Calls Tryd.prog 29 #[.int .i64 a0, .int .i64 a1, .int .i64 a2, .int .i64 a3, .string a4] w fun e w' => e = .returned (.tuple #[.int .i64 r1, .int .i64 r2]) ∧ Below w.heap.size w w' := by
  have HB := Aside0.mk (Below.refl w.heap.size w)
  have H : ((ambryref9_clock.f k a4).bind fun bt192 => (if bt192.2 = true then (if a0 < 0 then (ambryref9_made.j0 k a0 a1 a2 a3 bt192.1 true) else (if a2 < 0 then (ambryref9_made.j0 k a0 a1 a2 a3 bt192.1 true) else (if a1 < 1970 then (ambryref9_made.j0 k a0 a1 a2 a3 bt192.1 true) else (if a1 > 9999 then (ambryref9_made.j0 k a0 a1 a2 a3 bt192.1 true) else (if a3 < 1 then (ambryref9_made.j0 k a0 a1 a2 a3 bt192.1 true) else ((ambryref9_length.f a1 (wrap64 (a2 + 1))).bind fun t194 => (ambryref9_made.j0 k a0 a1 a2 a3 bt192.1 (decide (a3 > t194))))))))) else (ambryref9_made.j0 k a0 a1 a2 a3 bt192.1 true))) = some (r1, r2) := h
  clear h
  replace H := Option.bind_eq_some_iff.mp H
  obtain ⟨⟨t192, t193⟩, A60, H⟩ := H
  replace H : (if t193 = true then (if a0 < 0 then (ambryref9_made.j0 k a0 a1 a2 a3 t192 true) else (if a2 < 0 then (ambryref9_made.j0 k a0 a1 a2 a3 t192 true) else (if a1 < 1970 then (ambryref9_made.j0 k a0 a1 a2 a3 t192 true) else (if a1 > 9999 then (ambryref9_made.j0 k a0 a1 a2 a3 t192 true) else (if a3 < 1 then (ambryref9_made.j0 k a0 a1 a2 a3 t192 true) else ((ambryref9_length.f a1 (wrap64 (a2 + 1))).bind fun t194 => (ambryref9_made.j0 k a0 a1 a2 a3 t192 (decide (a3 > t194))))))))) else (ambryref9_made.j0 k a0 a1 a2 a3 t192 true)) = some (r1, r2) := H
  have A6 := Aside0.mk A60
  clear A60
  have HC7 := Aside0.mk H
  clear H
  go_enter Tryd.func29, Tryd.ntmps29
  go_upto_region 2 with (first | ((with_reducible refine gate_callee (f := 42) rfl ?_); refine goesL_ (some 17) rfl rfl Tryd.func42 (by kernel_rfl) rfl #[.string a4] rfl (by (try simp only [List.map_toArray, List.map_cons, List.map_nil]); first | done | rfl | (simp only [List.length_drop, List.length_take]; rfl)) ?_; (with_reducible refine (ambryref9_clock.calls k a4 t192 t193 _ A6.out).mono ?_); rintro e w' ⟨rfl, ⟨nd, rfl⟩⟩; refine ⟨_, rfl, ?_⟩))
  (try simp only [Act.put, List.setIfInBounds_toArray, List.set_cons_zero, List.set_cons_succ])
  go_cut [49] (fun v49 wc => ∃ (kq : Nat) (x49_6 : Bool), v49 = .bool x49_6 ∧ Aside0 (ambryref9_made.j0 kq a0 a1 a2 a3 t192 x49_6 = some (r1, r2)) ∧ Aside0 (kq ≤ k) ∧ Aside0 (Below w.heap.size w wc))
  case first =>
    have H := HC7.out
    clear HC7
    by_cases c8 : t193 = true
    · subst c8
      have H1 : (if a0 < 0 then (ambryref9_made.j0 k a0 a1 a2 a3 t192 true) else (if a2 < 0 then (ambryref9_made.j0 k a0 a1 a2 a3 t192 true) else (if a1 < 1970 then (ambryref9_made.j0 k a0 a1 a2 a3 t192 true) else (if a1 > 9999 then (ambryref9_made.j0 k a0 a1 a2 a3 t192 true) else (if a3 < 1 then (ambryref9_made.j0 k a0 a1 a2 a3 t192 true) else ((ambryref9_length.f a1 (wrap64 (a2 + 1))).bind fun t194 => (ambryref9_made.j0 k a0 a1 a2 a3 t192 (decide (a3 > t194))))))))) = some (r1, r2) := by rw [if_pos rfl] at H; exact H
      clear H
      have H := H1
      clear H1
      by_cases c9 : a0 < 0
      · rw [if_pos c9] at H
        have c9b0 : decide (a0 < 0) = true := decide_eq_true c9
        clear c9
        (first | rw [c9b0] | (simp only [i64_w, i32_w]; rw [c9b0]) | skip)
        have H' := Aside0.mk H
        clear H
        go_wp2
        go_meet
        case rel => exact ⟨_, (true), (by first | rfl | (simp; done) | (simp [*]; done)), H', ⟨by first | omega | exact Nat.le_refl _⟩, ⟨by repeat (first | (with_reducible first | exact HB.out | apply below_alloc | apply pw_below_drewN | apply below_drew1) | exact HB.out)⟩⟩
      · rw [if_neg c9] at H
        have c9b0 : decide (a0 < 0) = false := decide_eq_false c9
        clear c9
        (first | rw [c9b0] | (simp only [i64_w, i32_w]; rw [c9b0]) | skip)
        by_cases c10 : a2 < 0
        · rw [if_pos c10] at H
          have c10b0 : decide (a2 < 0) = true := decide_eq_true c10
          clear c10
          have H' := Aside0.mk H
          clear H
          go_wp2
          go_meet
          case rel => exact ⟨_, (true), (by first | rfl | (simp; done) | (simp [*]; done)), H', ⟨by first | omega | exact Nat.le_refl _⟩, ⟨by repeat (first | (with_reducible first | exact HB.out | apply below_alloc | apply pw_below_drewN | apply below_drew1) | exact HB.out)⟩⟩
        · rw [if_neg c10] at H
          have c10b0 : decide (a2 < 0) = false := decide_eq_false c10
          clear c10
          by_cases c11 : a1 < 1970
          · rw [if_pos c11] at H
            have c11b0 : decide (a1 < 1970) = true := decide_eq_true c11
            clear c11
            have H' := Aside0.mk H
            clear H
            go_wp2
            go_meet
            case rel => exact ⟨_, (true), (by first | rfl | (simp; done) | (simp [*]; done)), H', ⟨by first | omega | exact Nat.le_refl _⟩, ⟨by repeat (first | (with_reducible first | exact HB.out | apply below_alloc | apply pw_below_drewN | apply below_drew1) | exact HB.out)⟩⟩
          · rw [if_neg c11] at H
            have c11b0 : decide (a1 < 1970) = false := decide_eq_false c11
            clear c11
            by_cases c12 : a1 > 9999
            · rw [if_pos c12] at H
              have c12b0 : decide (9999 < a1) = true := decide_eq_true c12
              clear c12
              have H' := Aside0.mk H
              clear H
              go_wp2
              go_meet
              case rel => exact ⟨_, (true), (by first | rfl | (simp; done) | (simp [*]; done)), H', ⟨by first | omega | exact Nat.le_refl _⟩, ⟨by repeat (first | (with_reducible first | exact HB.out | apply below_alloc | apply pw_below_drewN | apply below_drew1) | exact HB.out)⟩⟩
            · rw [if_neg c12] at H
              have c12b0 : decide (9999 < a1) = false := decide_eq_false c12
              clear c12
              by_cases c13 : a3 < 1
              · rw [if_pos c13] at H
                have c13b0 : decide (a3 < 1) = true := decide_eq_true c13
                clear c13
                have H' := Aside0.mk H
                clear H
                go_wp2
                go_meet
                case rel => exact ⟨_, (true), (by first | rfl | (simp; done) | (simp [*]; done)), H', ⟨by first | omega | exact Nat.le_refl _⟩, ⟨by repeat (first | (with_reducible first | exact HB.out | apply below_alloc | apply pw_below_drewN | apply below_drew1) | exact HB.out)⟩⟩
              · rw [if_neg c13] at H
                have c13b0 : decide (a3 < 1) = false := decide_eq_false c13
                clear c13
                replace H := Option.bind_eq_some_iff.mp H
                obtain ⟨t194, A140, H⟩ := H
                replace H : (ambryref9_made.j0 k a0 a1 a2 a3 t192 (decide (a3 > t194))) = some (r1, r2) := H
                have A14 := Aside0.mk A140
                clear A140
                have H' := Aside0.mk H
                clear H
                go_wp2_with (first | (go_at_call 24; (with_reducible refine (ambryref9_length.calls a1 (wrap64 (a2 + 1)) t194 _ A14.out).mono ?_); rintro e w15 ⟨rfl, hb⟩; have n0_ := Aside0.mk (below_step (by repeat (first | (with_reducible first | exact HB.out | apply below_alloc | apply pw_below_drewN | apply below_drew1) | exact HB.out)) hb); clear HB; have HB := n0_; clear n0_; (try clear hb); (try clear hb2); (try clear hk); (try clear hi)))
                go_meet
                case rel => exact ⟨_, (decide (a3 > t194)), (by first | rfl | (simp; done) | (simp [*]; done)), H', ⟨by first | omega | exact Nat.le_refl _⟩, ⟨by repeat (first | (with_reducible first | exact HB.out | apply below_alloc | apply pw_below_drewN | apply below_drew1) | exact HB.out)⟩⟩
    · replace c8 := Bool.eq_false_iff.mpr c8
      subst c8
      have H1 : (ambryref9_made.j0 k a0 a1 a2 a3 t192 true) = some (r1, r2) := by rw [if_neg (show ¬ (false = true) by decide)] at H; exact H
      clear H
      have H := H1
      clear H1
      have H' := Aside0.mk H
      clear H
      go_wp2
      go_meet
      case rel => exact ⟨_, (true), (by first | rfl | (simp; done) | (simp [*]; done)), H', ⟨by first | omega | exact Nat.le_refl _⟩, ⟨by repeat (first | (with_reducible first | exact HB.out | apply below_alloc | apply pw_below_drewN | apply below_drew1) | exact HB.out)⟩⟩
  case rest =>
    clear HC7
    try clear c1
    try clear c2
    try clear p2
    try clear c4
    try clear p6
    try clear c8
    try clear c9
    try clear c9b0
    try clear c10
    try clear c10b0
    try clear c11
    try clear c11b0
    try clear c12
    try clear c12b0
    try clear c13
    try clear c13b0
    obtain ⟨kq, x49_6, rfl, HA, HJ6, HB⟩ := hcut
    cases kq with
    | zero => exact absurd HA.out (by simp [ambryref9_made.j0])
    | succ kj6 =>
      have H := HA.out
      clear HA
      simp only [ambryref9_made.j0] at H
      by_cases c16 : x49_6 = true
      · subst c16
        have H1 : (some (0, 80)) = some (r1, r2) := by rw [if_pos rfl] at H; exact H
        clear H
        have H := H1
        clear H1
        simp only [Option.some.injEq, Prod.mk.injEq] at H
        obtain ⟨rfl, rfl⟩ := H
        go_wp2
        go_ret2
        exact ⟨by first | rfl | (simp [errW_none, errW_some] <;> rfl) | (simp [*, errW_none, errW_some] <;> rfl), by repeat (first | (with_reducible first | exact HB.out | apply below_alloc | apply pw_below_drewN | apply below_drew1) | exact HB.out)⟩
      · replace c16 := Bool.eq_false_iff.mpr c16
        subst c16
        have H1 : ((ambryref9_day.f kj6 a1 (wrap64 (a2 + 1)) a3).bind fun t195 => (if (Int.tmod (wrap64 (t195 + 4)) 7) = a0 then (some (wrap64 ((wrap64 (t195 * 86400)) + t192), 0)) else (some (0, 80)))) = some (r1, r2) := by rw [if_neg (show ¬ (false = true) by decide)] at H; exact H
        clear H
        have H := H1
        clear H1
        replace H := Option.bind_eq_some_iff.mp H
        obtain ⟨t195, A170, H⟩ := H
        replace H : (if (Int.tmod (wrap64 (t195 + 4)) 7) = a0 then (some (wrap64 ((wrap64 (t195 * 86400)) + t192), 0)) else (some (0, 80))) = some (r1, r2) := H
        have A17 := Aside0.mk A170
        clear A170
        by_cases c18 : (Int.tmod (wrap64 (t195 + 4)) 7) = a0
        · rw [if_pos c18] at H
          have c18b0 : ((Int.tmod (wrap64 (t195 + 4)) 7) == a0) = true := beq_iff_eq.mpr c18
          have c18b1 : ((Int.tmod (wrap64 (t195 + 4)) 7) != a0) = false := bne_eq_false_iff_eq.mpr c18
          clear c18
          simp only [Option.some.injEq, Prod.mk.injEq] at H
          obtain ⟨rfl, rfl⟩ := H
          go_wp2_with (first | ((with_reducible refine gate_callee (f := 43) rfl ?_); refine goesL_ (some 54) rfl rfl Tryd.func43 (by kernel_rfl) rfl #[.int .i64 a1, .int .i64 (wrap64 (a2 + 1)), .int .i64 a3] rfl (by (try simp only [List.map_toArray, List.map_cons, List.map_nil]); first | done | rfl | (simp only [List.length_drop, List.length_take]; rfl)) ?_; (with_reducible refine (ambryref9_day.calls kj6 a1 (wrap64 (a2 + 1)) a3 t195 _ A17.out).mono ?_); rintro e w19 ⟨rfl, hb⟩; refine ⟨_, rfl, ?_⟩; have n0_ := Aside0.mk (below_step (by repeat (first | (with_reducible first | exact HB.out | apply below_alloc | apply pw_below_drewN | apply below_drew1) | exact HB.out)) hb); clear HB; have HB := n0_; clear n0_; (try clear hb); (try clear hb2); (try clear hk); (try clear hi)))
          go_ret2
          exact ⟨by first | rfl | (simp [errW_none, errW_some] <;> rfl) | (simp [*, errW_none, errW_some] <;> rfl), by repeat (first | (with_reducible first | exact HB.out | apply below_alloc | apply pw_below_drewN | apply below_drew1) | exact HB.out)⟩
        · rw [if_neg c18] at H
          have c18b0 : ((Int.tmod (wrap64 (t195 + 4)) 7) == a0) = false := beq_eq_false_iff_ne.mpr c18
          have c18b1 : ((Int.tmod (wrap64 (t195 + 4)) 7) != a0) = true := bne_iff_ne.mpr c18
          simp only [Option.some.injEq, Prod.mk.injEq] at H
          obtain ⟨rfl, rfl⟩ := H
          go_wp2_with (first | ((with_reducible refine gate_callee (f := 43) rfl ?_); refine goesL_ (some 54) rfl rfl Tryd.func43 (by kernel_rfl) rfl #[.int .i64 a1, .int .i64 (wrap64 (a2 + 1)), .int .i64 a3] rfl (by (try simp only [List.map_toArray, List.map_cons, List.map_nil]); first | done | rfl | (simp only [List.length_drop, List.length_take]; rfl)) ?_; (with_reducible refine (ambryref9_day.calls kj6 a1 (wrap64 (a2 + 1)) a3 t195 _ A17.out).mono ?_); rintro e w20 ⟨rfl, hb⟩; refine ⟨_, rfl, ?_⟩; have n0_ := Aside0.mk (below_step (by repeat (first | (with_reducible first | exact HB.out | apply below_alloc | apply pw_below_drewN | apply below_drew1) | exact HB.out)) hb); clear HB; have HB := n0_; clear n0_; (try clear hb); (try clear hb2); (try clear hk); (try clear hi)))
          go_ret2
          exact ⟨by first | rfl | (simp [errW_none, errW_some] <;> rfl) | (simp [*, errW_none, errW_some] <;> rfl), by repeat (first | (with_reducible first | exact HB.out | apply below_alloc | apply pw_below_drewN | apply below_drew1) | exact HB.out)⟩

end Go.Proofs.YtcejglmmjbmafaaDoor.X
-- printed by a program (xp.py, over the kit's print); Lean checks it
namespace Go.Proofs.YtcejglmmjbmafaaDoor.X
open Go.RowKit Go.Proofs.YtcejglmmjbmafaaDoorW.PrintWords Go.Proofs.YtcejglmmjbmafaaDoorW.PrintLast Go.Proofs.YtcejglmmjbmafaaDoorW.PrintMore
attribute [local go_sem] max2_int min2_int max_two min_two max_three min_three max_four min_four   -- for this text's walks alone
set_option linter.unusedVariables false
set_option linter.unusedSimpArgs false

/-! ### ambryref9_index: function 30 -/
def ambryref9_index.l0 : Nat → List ByteArray → ByteArray → Int → Option (Int)
  | 0, _, _, _ => none
  | k + 1, x0, x1, x5 => if x5 < (x0.length : Int) then (if 0 ≤ x5 then (if (rdOf ByteArray.empty x0 x5).toList = x1.toList then (some x5) else (ambryref9_index.l0 k x0 x1 (wrap64 (x5 + 1)))) else (none)) else (some (-1))
def ambryref9_index.f (k : Nat) (l0 : List ByteArray) (a1 : ByteArray) : Option (Int) := ambryref9_index.l0 k l0 a1 0
theorem ambryref9_index.mono_l : ∀ k, (∀ y0 y1 y2, LeO (ambryref9_index.l0 k y0 y1 y2) (ambryref9_index.l0 (k + 1) y0 y1 y2))
  | 0 => fun _ _ _ r h => by simp [ambryref9_index.l0] at h
  | k + 1 => by
    have ih0 := ambryref9_index.mono_l k
    · intro y0 y1 y2
      unfold ambryref9_index.l0
      repeat' first
      | (with_reducible exact ih0 _ _ _)
      | (with_reducible exact LeO.refl _)
      | (with_reducible exact LeO.none _)
      | (with_reducible refine LeO.ite ?_ ?_)
      | (with_reducible refine LeO.bind ?_ (fun _ => ?_))
      | exact ih0 _ _ _
      | exact LeO.none _
      | refine LeO.ite ?_ ?_
      | refine LeO.bind ?_ (fun _ => ?_)
theorem ambryref9_index.mono : ∀ a0 a1 k, LeO (ambryref9_index.f k a0 a1) (ambryref9_index.f (k + 1) a0 a1) := by
  intro a0 a1 k
  have ih0 := ambryref9_index.mono_l k
  unfold ambryref9_index.f
  repeat' first
      | (with_reducible exact ih0 _ _ _)
      | (with_reducible exact LeO.refl _)
      | (with_reducible exact LeO.none _)
      | (with_reducible refine LeO.ite ?_ ?_)
      | (with_reducible refine LeO.bind ?_ (fun _ => ?_))
      | exact ih0 _ _ _
      | exact LeO.none _
      | refine LeO.ite ?_ ?_
      | refine LeO.bind ?_ (fun _ => ?_)
set_option maxHeartbeats 8000000 in
set_option maxRecDepth 100000 in
theorem ambryref9_index.calls (k : Nat) (A0 : Option Addr) (c0 : Nat) (l0 : List ByteArray) (a1 : ByteArray) (r : Int) (w : World) (hr0 : Kd.C Kd.string w A0 l0.length l0) (hc0 : l0.length ≤ c0) (h : ambryref9_index.f k l0 a1 = some r) :
    Calls Tryd.prog 30 #[.slice A0 l0.length c0, .string a1] w fun e w' => e = .returned (.int .i64 r) ∧ Drawn0 w w' := by
  have HR0 := Aside0.mk hr0
  have HC0 := Aside0.mk hc0
  clear hr0 hc0
  have H : (ambryref9_index.l0 k l0 a1 0) = some r := h
  clear h
  have H' := Aside0.mk H
  clear H
  go_enter Tryd.func30, Tryd.ntmps30
  go_wp2
  go_loopg [5] k (fun kq v5 w' => ∃ (x5_1 : Int), v5 = .int .i64 x5_1 ∧ Aside0 (ambryref9_index.l0 kq l0 a1 x5_1 = some r) ∧ Aside0 (kq ≤ k) ∧ Drawn0 w w')
  case atStart => exact ⟨(0), (by first | rfl | (simp; done) | (simp [*]; done)), H', ⟨Nat.le_refl _⟩, by repeat (first | exact Drawn0.refl _ | apply Drawn0.step)⟩
  case round =>
    clear H'
    try clear p2
    obtain ⟨x5_1, rfl, HA, HK1, ⟨m1, rfl⟩⟩ := hrel
    cases gk with
    | zero => exact absurd HA.out (by simp [ambryref9_index.l0])
    | succ k1 =>
      have H := HA.out
      clear HA
      simp only [ambryref9_index.l0] at H
      by_cases c3 : x5_1 < (l0.length : Int)
      · rw [if_pos c3] at H
        have c3b0 : decide (x5_1 < (l0.length : Int)) = true := decide_eq_true c3
        clear c3
        by_cases c4 : 0 ≤ x5_1
        · rw [if_pos c4] at H
          have c4b0 : decide (0 ≤ x5_1) = true := decide_eq_true c4
          clear c4
          by_cases c5 : (rdOf ByteArray.empty l0 x5_1).toList = a1.toList
          · rw [if_pos c5] at H
            have c5b0 : ((rdOf ByteArray.empty l0 x5_1).toList == a1.toList) = true := beq_iff_eq.mpr c5
            have c5b1 : ((rdOf ByteArray.empty l0 x5_1).toList != a1.toList) = false := bne_eq_false_iff_eq.mpr c5
            clear c5
            obtain rfl := Option.some.inj H
            have p199 : 0 ≤ (x5_1 : Int) := of_decide_eq_true (by first | (with_reducible assumption) | assumption)
            have q199 : x5_1 < (l0.length : Int) := of_decide_eq_true (by first | (with_reducible assumption) | assumption)
            obtain ⟨ad199, e199, hx199_0⟩ := Kd.at_string HR0.out x5_1 p199 q199
            cases e199
            replace p199 := eq_true p199
            replace q199 := eq_true q199
            go_wp2
            go_ret
            exact ⟨by first | rfl | (simp; done) | (simp [*]; done), by repeat (first | exact Drawn0.refl _ | apply Drawn0.step)⟩
          · rw [if_neg c5] at H
            have c5b0 : ((rdOf ByteArray.empty l0 x5_1).toList == a1.toList) = false := beq_eq_false_iff_ne.mpr c5
            have c5b1 : ((rdOf ByteArray.empty l0 x5_1).toList != a1.toList) = true := bne_iff_ne.mpr c5
            have H' := Aside0.mk H
            clear H
            have p199 : 0 ≤ (x5_1 : Int) := of_decide_eq_true (by first | (with_reducible assumption) | assumption)
            have q199 : x5_1 < (l0.length : Int) := of_decide_eq_true (by first | (with_reducible assumption) | assumption)
            obtain ⟨ad199, e199, hx199_0⟩ := Kd.at_string HR0.out x5_1 p199 q199
            cases e199
            replace p199 := eq_true p199
            replace q199 := eq_true q199
            go_wp2
            go_roundg k1
            case measure => have := HK1.out; omega
            case rel => exact ⟨(wrap64 (x5_1 + 1)), (by first | rfl | (simp; done) | (simp [*]; done)), H', ⟨by have := HK1.out; omega⟩, by repeat (first | exact Drawn0.refl _ | apply Drawn0.step)⟩
        · rw [if_neg c4] at H
          exact absurd H (by simp)
      · rw [if_neg c3] at H
        have c3b0 : decide (x5_1 < (l0.length : Int)) = false := decide_eq_false c3
        clear c3
        obtain rfl := Option.some.inj H
        go_wp2
        go_ret
        exact ⟨by first | rfl | (simp; done) | (simp [*]; done), by repeat (first | exact Drawn0.refl _ | apply Drawn0.step)⟩

end Go.Proofs.YtcejglmmjbmafaaDoor.X
-- printed by a program (xp.py, over the kit's print); Lean checks it
namespace Go.Proofs.YtcejglmmjbmafaaDoor.X
open Go.RowKit Go.Proofs.YtcejglmmjbmafaaDoorW.PrintWords Go.Proofs.YtcejglmmjbmafaaDoorW.PrintLast Go.Proofs.YtcejglmmjbmafaaDoorW.PrintMore
attribute [local go_sem] max2_int min2_int max_two min_two max_three min_three max_four min_four   -- for this text's walks alone
set_option linter.unusedVariables false
set_option linter.unusedSimpArgs false

/-! ### ambryref9_longs: function 31 -/
def ambryref9_longs.f  : Option (List ByteArray) := some (([(⟨#[83, 117, 110, 100, 97, 121]⟩ : ByteArray), (⟨#[77, 111, 110, 100, 97, 121]⟩ : ByteArray), (⟨#[84, 117, 101, 115, 100, 97, 121]⟩ : ByteArray), (⟨#[87, 101, 100, 110, 101, 115, 100, 97, 121]⟩ : ByteArray), (⟨#[84, 104, 117, 114, 115, 100, 97, 121]⟩ : ByteArray), (⟨#[70, 114, 105, 100, 97, 121]⟩ : ByteArray), (⟨#[83, 97, 116, 117, 114, 100, 97, 121]⟩ : ByteArray)] : List ByteArray))
set_option maxHeartbeats 8000000 in
set_option maxRecDepth 100000 in
theorem ambryref9_longs.calls  (r : List ByteArray) (w : World) (h : ambryref9_longs.f  = some r) :
    Calls Tryd.prog 31 #[] w fun e w' => ∃ v0_ : Value, e = .returned (v0_) ∧ Kd.R Kd.string 9 w' w.heap.size (fun _ => True) v0_ r ∧ Below w.heap.size w w' := by
  have HB := Aside0.mk (Below.refl w.heap.size w)
  have H : (some (([(⟨#[83, 117, 110, 100, 97, 121]⟩ : ByteArray), (⟨#[77, 111, 110, 100, 97, 121]⟩ : ByteArray), (⟨#[84, 117, 101, 115, 100, 97, 121]⟩ : ByteArray), (⟨#[87, 101, 100, 110, 101, 115, 100, 97, 121]⟩ : ByteArray), (⟨#[84, 104, 117, 114, 115, 100, 97, 121]⟩ : ByteArray), (⟨#[70, 114, 105, 100, 97, 121]⟩ : ByteArray), (⟨#[83, 97, 116, 117, 114, 100, 97, 121]⟩ : ByteArray)] : List ByteArray))) = some r := h
  clear h
  obtain ⟨y200, hy200⟩ : ∃ y_ : List ByteArray, y_ = (([(⟨#[83, 117, 110, 100, 97, 121]⟩ : ByteArray), (⟨#[77, 111, 110, 100, 97, 121]⟩ : ByteArray), (⟨#[84, 117, 101, 115, 100, 97, 121]⟩ : ByteArray), (⟨#[87, 101, 100, 110, 101, 115, 100, 97, 121]⟩ : ByteArray), (⟨#[84, 104, 117, 114, 115, 100, 97, 121]⟩ : ByteArray), (⟨#[70, 114, 105, 100, 97, 121]⟩ : ByteArray), (⟨#[83, 97, 116, 117, 114, 100, 97, 121]⟩ : ByteArray)] : List ByteArray)) := ⟨_, rfl⟩
  replace H : (some y200) = some r := by first | (rw [hy200]; with_reducible exact H) | (have H2_ := (Option.bind_some _ _).symm.trans H; rw [hy200]; with_reducible exact H2_) | (have H2_ := (Option.bind_some _ _).symm.trans H; with_reducible exact H2_) | with_reducible exact H | (rw [hy200]; exact H) | exact H
  have Ny200 := Aside0.mk hy200
  clear hy200
  obtain rfl := Option.some.inj H
  go_enter Tryd.func31, Tryd.ntmps31
  go_wp2_with (first | ((with_reducible refine gate_dst (N := 1) rfl ?_); refine Kd.R_lit Kd.string _ 9 ?hg (N := 1) ?hd (xs := ([(⟨#[83, 117, 110, 100, 97, 121]⟩ : ByteArray), (⟨#[77, 111, 110, 100, 97, 121]⟩ : ByteArray), (⟨#[84, 117, 101, 115, 100, 97, 121]⟩ : ByteArray), (⟨#[87, 101, 100, 110, 101, 115, 100, 97, 121]⟩ : ByteArray), (⟨#[84, 104, 117, 114, 115, 100, 97, 121]⟩ : ByteArray), (⟨#[70, 114, 105, 100, 97, 121]⟩ : ByteArray), (⟨#[83, 97, 116, 117, 114, 100, 97, 121]⟩ : ByteArray)] : List ByteArray)) (inner := [.string (⟨#[83, 117, 110, 100, 97, 121]⟩ : ByteArray), .string (⟨#[77, 111, 110, 100, 97, 121]⟩ : ByteArray), .string (⟨#[84, 117, 101, 115, 100, 97, 121]⟩ : ByteArray), .string (⟨#[87, 101, 100, 110, 101, 115, 100, 97, 121]⟩ : ByteArray), .string (⟨#[84, 104, 117, 114, 115, 100, 97, 121]⟩ : ByteArray), .string (⟨#[70, 114, 105, 100, 97, 121]⟩ : ByteArray), .string (⟨#[83, 97, 116, 117, 114, 100, 97, 121]⟩ : ByteArray)]) (ok := fun _ => True) (okp := fun _ => True) ?hr ?hp (fun _ hk => hk) trivial (Below.refl _ _) (Nat.le_refl _) (by simp) ?_; (case hd => rfl); (case hg => rfl); (case hr => first | (go_simp; done) | (go_simp; rfl)); (case hp => exact (Reps.one (show Kd.M Kd.string _ _ _ (⟨#[83, 117, 110, 100, 97, 121]⟩ : ByteArray) [.string (⟨#[83, 117, 110, 100, 97, 121]⟩ : ByteArray)] from rfl) (Reps.one (show Kd.M Kd.string _ _ _ (⟨#[77, 111, 110, 100, 97, 121]⟩ : ByteArray) [.string (⟨#[77, 111, 110, 100, 97, 121]⟩ : ByteArray)] from rfl) (Reps.one (show Kd.M Kd.string _ _ _ (⟨#[84, 117, 101, 115, 100, 97, 121]⟩ : ByteArray) [.string (⟨#[84, 117, 101, 115, 100, 97, 121]⟩ : ByteArray)] from rfl) (Reps.one (show Kd.M Kd.string _ _ _ (⟨#[87, 101, 100, 110, 101, 115, 100, 97, 121]⟩ : ByteArray) [.string (⟨#[87, 101, 100, 110, 101, 115, 100, 97, 121]⟩ : ByteArray)] from rfl) (Reps.one (show Kd.M Kd.string _ _ _ (⟨#[84, 104, 117, 114, 115, 100, 97, 121]⟩ : ByteArray) [.string (⟨#[84, 104, 117, 114, 115, 100, 97, 121]⟩ : ByteArray)] from rfl) (Reps.one (show Kd.M Kd.string _ _ _ (⟨#[70, 114, 105, 100, 97, 121]⟩ : ByteArray) [.string (⟨#[70, 114, 105, 100, 97, 121]⟩ : ByteArray)] from rfl) (Reps.one (show Kd.M Kd.string _ _ _ (⟨#[83, 97, 116, 117, 114, 100, 97, 121]⟩ : ByteArray) [.string (⟨#[83, 97, 116, 117, 114, 100, 97, 121]⟩ : ByteArray)] from rfl) (Reps.none _ _))))))))); intro v201 w1 ho2 hb hg_ hnew_; clear hg_ hnew_; (first | rw [← Ny200.out] at ho2 | (simp only [Int.reduceToNat] at ho2; rw [← Ny200.out] at ho2)); have n0_ := Aside0.mk (Kd.R_lower ho2 (below_size (by repeat (first | (with_reducible first | exact HB.out | apply below_alloc | apply pw_below_drewN | apply below_drew1) | exact HB.out)))); have n1_ := Aside0.mk (below_step (by repeat (first | (with_reducible first | exact HB.out | apply below_alloc | apply pw_below_drewN | apply below_drew1) | exact HB.out)) hb); clear HB; have HO202 := n0_; have HB := n1_; clear n0_ n1_; clear hb ho2))
  go_ret
  exact ⟨_, by first | rfl | (simp [errW_none, errW_some] <;> rfl) | (simp [*, errW_none, errW_some] <;> rfl), by (with_reducible repeat (first | apply Kd.R_alloc | apply Kd.R_drewN | apply Kd.R_drew)); exact HO202.out, by repeat (first | (with_reducible first | exact HB.out | apply below_alloc | apply pw_below_drewN | apply below_drew1) | exact HB.out)⟩

end Go.Proofs.YtcejglmmjbmafaaDoor.X
/- Plain Lean: the document's reader, part by part. -/
namespace Go.Proofs.YtcejglmmjbmafaaDoor.Pure
open Go.RowKit Go.Proofs.YtcejglmmjbmafaaDoor.X Go.Proofs.YtcejglmmjbmafaaDoor.Cal Go.Proofs.YtcejglmmjbmafaaDoorW.PrintWords Go.Proofs.YtcejglmmjbmafaaDoorW.PrintLast Go.Proofs.YtcejglmmjbmafaaDoorW.PrintMore
set_option linter.unusedVariables false
set_option linter.unusedSimpArgs false

/-! ### digits -/
def isd (b : UInt8) : Bool := decide (48 ≤ (b.toNat : Int) ∧ (b.toNat : Int) ≤ 57)
/-- A text's number, whether it is one. -/
def D (l : List UInt8) : Int × Bool := if l.all isd = true then (l.foldl stepD 0, decide (0 < l.length)) else (0, false)
theorem digits_l0 (l : List UInt8) (hl : l.length ≤ 4) (c : Nat) : ∀ (n i : Int), (c : Int) = l.length - i → 0 ≤ i → 0 ≤ n → n + 1 ≤ bnd c →
    Ev (fun k => ambryref9_digits.l0 k (X.bytes l) n i) (if (l.drop i.toNat).all isd = true then ((l.drop i.toNat).foldl stepD n, decide (0 < l.length)) else (0, false)) := by
  induction c with
  | zero =>
    intro n i hc hi hn hb
    have e : l.drop i.toNat = [] := List.drop_eq_nil_of_le (by omega)
    rw [e]
    refine Ev.step (f := fun _ => some _) (fun k => ?_) (Ev.now _)
    simp only [ambryref9_digits.l0, bytes_size]
    have hh : ¬ i < (l.length : Int) := by omega
    simp only [hh, if_false]
    simp
  | succ c ih =>
    intro n i hc hi hn hb
    have hbc := bnd_le c
    have hb2 : 10 * n + 10 ≤ bnd c := by simp only [bnd] at hb; omega
    have hlt : i.toNat < l.length := by omega
    have e1 : (i + 1).toNat = i.toNat + 1 := by omega
    have hd : l.drop i.toNat = l[i.toNat] :: l.drop (i + 1).toNat := by rw [e1, List.drop_eq_getElem_cons hlt]
    have hbt : bt (X.bytes l) i = ((l[i.toNat]).toNat : Int) := by
      have := bt_bytes l i.toNat hlt
      rwa [show ((i.toNat : Nat) : Int) = i by omega] at this
    have hbb := (l[i.toNat]).toNat_lt
    rw [hd]
    generalize l[i.toNat] = b at hbt hbb
    by_cases c1 : (b.toNat : Int) < 48
    · refine Ev.step (f := fun _ => some _) (fun k => ?_) (Ev.now _)
      simp only [ambryref9_digits.l0, bytes_size, hbt]
      rw [if_pos (by omega), if_pos hi, if_pos c1]
      have : isd b = false := by unfold isd; simp; omega
      simp [this]
    · by_cases c2 : (b.toNat : Int) > 57
      · refine Ev.step (f := fun _ => some _) (fun k => ?_) (Ev.now _)
        simp only [ambryref9_digits.l0, bytes_size, hbt]
        rw [if_pos (by omega), if_pos hi, if_neg c1, if_pos c2]
        have : isd b = false := by unfold isd; simp; omega
        simp [this]
      · have hst : stepD n b = 10 * n + ((b.toNat : Int) - 48) := by unfold stepD; rw [if_pos (by omega)]
        have hi' := ih (stepD n b) (i + 1) (by omega) (by omega) (by rw [hst]; omega) (by rw [hst]; omega)
        have hid : isd b = true := by unfold isd; simp; omega
        rw [List.all_cons, List.foldl_cons, hid, Bool.true_and]
        refine Ev.step (f := fun k => ambryref9_digits.l0 k (X.bytes l) (stepD n b) (i + 1)) (fun k => ?_) hi'
        simp only [ambryref9_digits.l0, bytes_size, hbt]
        rw [if_pos (by omega), if_pos hi, if_neg c1, if_neg c2, w64 (x := i + 1) (by omega) (by omega), w64 (x := 10 * n) (by omega) (by omega), w64 (by omega) (by omega), hst]
        congr 1
        omega
theorem digits_ev (l : List UInt8) (hl : l.length ≤ 4) : Ev (fun k => ambryref9_digits.f k (X.bytes l)) (D l) := by
  have hb : (0 : Int) + 1 ≤ bnd l.length := by
    generalize l.length = n at hl
    match n, hl with
    | 0, _ | 1, _ | 2, _ | 3, _ | 4, _ => decide
  exact digits_l0 l hl l.length 0 0 (by omega) (by omega) (by omega) hb
theorem isd_dg {b : UInt8} (h : isd b = true) : ∃ n : Int, 0 ≤ n ∧ n ≤ 9 ∧ b = dg n := by
  unfold isd at h
  have h := of_decide_eq_true h
  refine ⟨(b.toNat : Int) - 48, by omega, by omega, ?_⟩
  unfold dg
  have : 48 + ((b.toNat : Int) - 48).toNat = b.toNat := by omega
  rw [this]
  simp
theorem dg_isd (n : Int) (h0 : 0 ≤ n) (h9 : n ≤ 9) : isd (dg n) = true := by
  unfold isd
  rw [dg_nat h0 h9]
  exact decide_eq_true (by omega)
theorem D_yes {l : List UInt8} {n : Int} (h : D l = (n, true)) : l.all isd = true ∧ l.foldl stepD 0 = n := by
  unfold D at h
  split at h
  · rename_i c
    exact ⟨c, (Prod.mk.inj h).1⟩
  · exact absurd (Prod.mk.inj h).2 (by decide)
theorem D_one {a : UInt8} {n : Int} (h : D [a] = (n, true)) : 0 ≤ n ∧ n ≤ 9 ∧ a = dg n := by
  obtain ⟨h1, h2⟩ := D_yes h
  simp only [List.all_cons, List.all_nil, Bool.and_true] at h1
  obtain ⟨x, x0, x9, rfl⟩ := isd_dg h1
  simp only [List.foldl_cons, List.foldl_nil] at h2
  rw [stepD_dg _ _ x0 x9] at h2
  obtain rfl : x = n := by omega
  exact ⟨x0, x9, rfl⟩
theorem D_two {a b : UInt8} {n : Int} (h : D [a, b] = (n, true)) : 0 ≤ n ∧ n ≤ 99 ∧ [a, b] = tw n := by
  obtain ⟨h1, h2⟩ := D_yes h
  simp only [List.all_cons, List.all_nil, Bool.and_true, Bool.and_eq_true] at h1
  obtain ⟨x, x0, x9, rfl⟩ := isd_dg h1.1
  obtain ⟨y, y0, y9, rfl⟩ := isd_dg h1.2
  simp only [List.foldl_cons, List.foldl_nil] at h2
  rw [stepD_dg _ _ x0 x9, stepD_dg _ _ y0 y9] at h2
  refine ⟨by omega, by omega, ?_⟩
  unfold tw
  rw [show n / 10 % 10 = x by omega, show n % 10 = y by omega]
theorem D_four {a b c d : UInt8} {n : Int} (h : D [a, b, c, d] = (n, true)) : 0 ≤ n ∧ n ≤ 9999 ∧ [a, b, c, d] = tw (n / 100) ++ tw n := by
  obtain ⟨h1, h2⟩ := D_yes h
  simp only [List.all_cons, List.all_nil, Bool.and_true, Bool.and_eq_true] at h1
  obtain ⟨x, x0, x9, rfl⟩ := isd_dg h1.1
  obtain ⟨y, y0, y9, rfl⟩ := isd_dg h1.2.1
  obtain ⟨z, z0, z9, rfl⟩ := isd_dg h1.2.2.1
  obtain ⟨u, u0, u9, rfl⟩ := isd_dg h1.2.2.2
  simp only [List.foldl_cons, List.foldl_nil] at h2
  rw [stepD_dg _ _ x0 x9, stepD_dg _ _ y0 y9, stepD_dg _ _ z0 z9, stepD_dg _ _ u0 u9] at h2
  refine ⟨by omega, by omega, ?_⟩
  unfold tw
  rw [show n / 100 / 10 % 10 = x by omega, show n / 100 % 10 = y by omega, show n / 10 % 10 = z by omega, show n % 10 = u by omega]
  rfl
theorem D_tw (n : Int) (h0 : 0 ≤ n) (h1 : n ≤ 99) : D (tw n) = (n, true) := by
  unfold D
  have : (tw n).all isd = true := by simp only [tw, List.all_cons, List.all_nil, dg_isd (n / 10 % 10) (by omega) (by omega), dg_isd (n % 10) (by omega) (by omega), Bool.and_self]
  rw [if_pos this, two_num n h0 h1]
  rfl
theorem D_tw4 (n : Int) (h0 : 0 ≤ n) (h1 : n ≤ 9999) : D (tw (n / 100) ++ tw n) = (n, true) := by
  unfold D
  have : (tw (n / 100) ++ tw n).all isd = true := by simp only [tw, List.cons_append, List.nil_append, List.all_cons, List.all_nil, dg_isd (n / 100 / 10 % 10) (by omega) (by omega), dg_isd (n / 100 % 10) (by omega) (by omega), dg_isd (n / 10 % 10) (by omega) (by omega), dg_isd (n % 10) (by omega) (by omega), Bool.and_self]
  rw [if_pos this, four_num n h0 h1]
  rfl
theorem D_dg (n : Int) (h0 : 0 ≤ n) (h1 : n ≤ 9) : D [dg n] = (n, true) := by
  unfold D
  have : [dg n].all isd = true := by simp only [List.all_cons, List.all_nil, dg_isd n h0 h1, Bool.and_self]
  rw [if_pos this]
  simp only [List.foldl_cons, List.foldl_nil]
  rw [stepD_dg _ _ h0 h1]
  congr 1
  omega

/-! ### index -/
theorem index_l0 (zs : List ByteArray) (x : ByteArray) (hz : zs.length ≤ 1000) (c : Nat) : ∀ (i : Nat), c = zs.length - i → i ≤ zs.length →
    Ev (fun k => ambryref9_index.l0 k zs x (i : Int)) (Lib.idxFromS (zs.drop i) x i) := by
  induction c with
  | zero =>
    intro i hc hi
    have e : zs.drop i = [] := List.drop_eq_nil_of_le (by omega)
    rw [e]
    refine Ev.step (f := fun _ => some _) (fun k => ?_) (Ev.now _)
    simp only [ambryref9_index.l0]
    rw [if_neg (by omega)]
    rfl
  | succ c ih =>
    intro i hc hi
    have hlt : i < zs.length := by omega
    have hd : zs.drop i = zs[i] :: zs.drop (i + 1) := List.drop_eq_getElem_cons hlt
    have hr : rdOf ByteArray.empty zs (i : Int) = zs[i] := by
      unfold rdOf
      rw [show ((i : Int)).toNat = i by omega, List.getD_eq_getElem?_getD, List.getElem?_eq_getElem hlt]
      rfl
    rw [hd]
    simp only [Lib.idxFromS]
    by_cases c1 : zs[i] = x
    · rw [if_pos c1]
      refine Ev.step (f := fun _ => some _) (fun k => ?_) (Ev.now _)
      simp only [ambryref9_index.l0, hr]
      rw [if_pos (by omega), if_pos (by omega), if_pos (by rw [c1])]
    · rw [if_neg c1]
      refine Ev.step (f := fun k => ambryref9_index.l0 k zs x ((i + 1 : Nat) : Int)) (fun k => ?_) (ih (i + 1) (by omega) (by omega))
      simp only [ambryref9_index.l0, hr]
      rw [if_pos (by omega), if_pos (by omega), if_neg (fun e => c1 (by rw [eq_bytes zs[i], eq_bytes x, ← ByteArray.toList_eq, ← ByteArray.toList_eq, e])), w64 (by omega) (by omega)]
      rfl
theorem index_ev (zs : List ByteArray) (x : ByteArray) (hz : zs.length ≤ 1000) : Ev (fun k => ambryref9_index.f k zs x) (Lib.idxOfS zs x) := index_l0 zs x hz zs.length 0 (by omega) (by omega)
theorem months_ev (l : List UInt8) : Ev (fun k => ambryref9_index.f k rmonths (X.bytes l)) (mIdx l) := index_ev rmonths (X.bytes l) (by decide)
/-- A short day's number. -/
def dIdx (x : List UInt8) : Int := Lib.idxOfS rdays (X.bytes x)
theorem days_ev (l : List UInt8) : Ev (fun k => ambryref9_index.f k rdays (X.bytes l)) (dIdx l) := index_ev rdays (X.bytes l) (by decide)
theorem dIdx_cases (x : List UInt8) : dIdx x = -1 ∨ 0 ≤ dIdx x ∧ dIdx x < 7 ∧ x = sd (dIdx x) := by
  unfold dIdx Lib.idxOfS
  rcases idx_cases (X.bytes x) rdays 0 with ⟨h, _⟩ | ⟨k, hk, h, hx⟩
  · exact .inl h
  · have hk' : k < 7 := hk
    rw [h]
    have e : rdOf ByteArray.empty rdays ((0 + k : Nat) : Int) = X.bytes x := by
      unfold rdOf
      rw [show (((0 + k : Nat) : Int)).toNat = k by omega, List.getD_eq_getElem?_getD, hx]
      rfl
    rw [rdays_at _ (by omega) (by omega)] at e
    exact .inr ⟨by omega, by omega, (bytes_inj e).symm⟩
theorem dIdx_sd (w : Int) (h0 : 0 ≤ w) (h1 : w < 7) : dIdx (sd w) = w := by
  obtain ⟨k, rfl⟩ := Int.eq_ofNat_of_zero_le h0
  match k, h1 with
  | 0, _ | 1, _ | 2, _ | 3, _ | 4, _ | 5, _ | 6, _ => decide
  | k + 7, h => omega
end Go.Proofs.YtcejglmmjbmafaaDoor.Pure
/- Plain Lean: the document's reader: the clock, the day, what is made of the parts. -/
namespace Go.Proofs.YtcejglmmjbmafaaDoor.Pure
open Go.RowKit Go.Proofs.YtcejglmmjbmafaaDoor.X Go.Proofs.YtcejglmmjbmafaaDoor.Cal Go.Proofs.YtcejglmmjbmafaaDoorW.PrintWords Go.Proofs.YtcejglmmjbmafaaDoorW.PrintLast Go.Proofs.YtcejglmmjbmafaaDoorW.PrintMore
set_option linter.unusedVariables false
set_option linter.unusedSimpArgs false

theorem cj0_true (s : ByteArray) : Ev (fun k => ambryref9_clock.j0 k s true) (0, false) := Ev.step (f := fun _ => some (0, false)) (fun k => by simp only [ambryref9_clock.j0, if_true]) (Ev.now _)
/-- Two digits each, within their bounds. -/
def cok (x y z : Int × Bool) : Bool := x.2 && (y.2 && (z.2 && (decide (x.1 ≤ 23) && (decide (y.1 ≤ 59) && decide (z.1 ≤ 59)))))
theorem D_range (l : List UInt8) (hl : l.length ≤ 4) : 0 ≤ (D l).1 ∧ (D l).1 ≤ 99999999 := by
  have hb : (0 : Int) + 1 ≤ bnd l.length := by
    generalize l.length = n at hl
    match n, hl with
    | 0, _ | 1, _ | 2, _ | 3, _ | 4, _ => decide
  have key : ∀ (l : List UInt8) (n : Int), 0 ≤ n → n + 1 ≤ bnd l.length → 0 ≤ l.foldl stepD n ∧ l.foldl stepD n + 1 ≤ bnd 0 := by
    intro l
    induction l with
    | nil => intro n h0 h1; exact ⟨h0, h1⟩
    | cons b l ih =>
      intro n h0 h1
      have hbb := b.toNat_lt
      simp only [List.length_cons, bnd] at h1
      refine ih (stepD n b) ?_ ?_
      · unfold stepD; split <;> omega
      · unfold stepD; split <;> omega
  obtain ⟨h0, h1⟩ := key l 0 (by omega) hb
  have e0 : bnd 0 = 100000000 := rfl
  rw [e0] at h1
  unfold D
  split
  · exact ⟨h0, by simp only; omega⟩
  · exact ⟨by simp, by simp⟩
theorem cj0_false (l : List UInt8) (hl : l.length = 8) : Ev (fun k => ambryref9_clock.j0 k (X.bytes l) false)
    ((D (l.take 2)).1 * 3600 + (D ((l.drop 3).take 2)).1 * 60 + (D (l.drop 6)).1, cok (D (l.take 2)) (D ((l.drop 3).take 2)) (D (l.drop 6))) := by
  have l1 : (l.take 2).length ≤ 4 := by simp; omega
  have l2 : ((l.drop 3).take 2).length ≤ 4 := by simp; omega
  have l3 : (l.drop 6).length ≤ 4 := by simp; omega
  obtain ⟨k1, h1⟩ := digits_ev _ l1
  obtain ⟨k2, h2⟩ := digits_ev _ l2
  obtain ⟨k3, h3⟩ := digits_ev _ l3
  have r1 := D_range _ l1
  have r2 := D_range _ l2
  have r3 := D_range _ l3
  have x1 : (X.bytes l).extract 0 2 = X.bytes (l.take 2) := by rw [extract_bytes]; rfl
  have x2 : (X.bytes l).extract 3 5 = X.bytes ((l.drop 3).take 2) := by rw [extract_bytes]
  have x3 : (X.bytes l).extract 6 (X.bytes l).size = X.bytes (l.drop 6) := by rw [extract_bytes, bytes_size, List.take_of_length_le (by simp)]
  refine ⟨k1 + k2 + k3 + 1, fun k hk => ?_⟩
  obtain ⟨k, rfl⟩ : ∃ k', k = k' + 1 := ⟨k - 1, by omega⟩
  have e1 := h1 k (by omega)
  have e2 := h2 k (by omega)
  have e3 := h3 k (by omega)
  simp only at e1 e2 e3
  have hz : ((X.bytes l).size : Int) = 8 := by rw [bytes_size]; omega
  simp only [ambryref9_clock.j0, Bool.false_eq_true, if_false, x1, x2, x3, e1, e2, e3, Option.bind_some, hz]
  rw [if_pos (by decide), if_pos (by decide), if_pos (by decide), if_pos (by decide), if_pos (by decide), w64 (x := (D (l.take 2)).1 * 3600) (by omega) (by omega), w64 (x := (D ((l.drop 3).take 2)).1 * 60) (by omega) (by omega), w64 (x := (D (l.take 2)).1 * 3600 + (D ((l.drop 3).take 2)).1 * 60) (by omega) (by omega), w64 (by omega) (by omega)]
  unfold cok
  generalize D (l.take 2) = p
  generalize D ((l.drop 3).take 2) = q
  generalize D (l.drop 6) = r
  obtain ⟨p1, p2⟩ := p
  obtain ⟨q1, q2⟩ := q
  obtain ⟨s1, s2⟩ := r
  cases p2 <;> cases q2 <;> cases s2 <;> simp
  by_cases c1 : p1 ≤ 23 <;> by_cases c2 : q1 ≤ 59 <;> simp [c1, c2]
/-- A text's clock. -/
theorem clk (l : List UInt8) (hl : l.length = 8) : ∃ v ok, Ev (fun k => ambryref9_clock.f k (X.bytes l)) (v, ok) ∧ (ok = true → ∃ h mi s, 0 ≤ h ∧ h ≤ 23 ∧ 0 ≤ mi ∧ mi ≤ 59 ∧ 0 ≤ s ∧ s ≤ 59 ∧ l = ck h mi s ∧ v = h * 3600 + mi * 60 + s) ∧
    (∀ h mi s, 0 ≤ h → h ≤ 23 → 0 ≤ mi → mi ≤ 59 → 0 ≤ s → s ≤ 59 → l = ck h mi s → ok = true ∧ v = h * 3600 + mi * 60 + s) := by
  have hz : ((X.bytes l).size : Int) = 8 := by rw [bytes_size]; omega
  match l, hl with
  | [a, b, c, d, e, f, g, h], _ =>
    have b2 : bt (X.bytes [a, b, c, d, e, f, g, h]) 2 = (c.toNat : Int) := bt_bytes [a, b, c, d, e, f, g, h] 2 (by simp)
    have b5 : bt (X.bytes [a, b, c, d, e, f, g, h]) 5 = (f.toNat : Int) := bt_bytes [a, b, c, d, e, f, g, h] 5 (by simp)
    have h58 : ∀ x : UInt8, (x.toNat : Int) = 58 → x = 58 := by
      intro x hx
      apply UInt8.toNat_inj.1
      have : (58 : UInt8).toNat = 58 := rfl
      omega
    by_cases c2 : (c.toNat : Int) = 58
    · by_cases c5 : (f.toNat : Int) = 58
      · obtain rfl := h58 _ c2
        obtain rfl := h58 _ c5
        refine ⟨_, _, Ev.congr (fun k => ?_) (cj0_false [a, b, 58, d, e, 58, g, h] rfl), ?_, ?_⟩
        · simp only [ambryref9_clock.f, hz, b2, b5, if_true]
          rw [if_pos (by decide), if_pos c2, if_pos (by decide)]
          rfl
        · intro hok
          unfold cok at hok
          simp only [Bool.and_eq_true, decide_eq_true_iff] at hok
          obtain ⟨o1, o2, o3, o4, o5, o6⟩ := hok
          obtain ⟨p0, p1, pe⟩ := D_two (a := a) (b := b) (n := (D [a, b]).1) (by rw [← show (D [a, b]).2 = true from o1])
          obtain ⟨q0, q1, qe⟩ := D_two (a := d) (b := e) (n := (D [d, e]).1) (by rw [← show (D [d, e]).2 = true from o2])
          obtain ⟨r0, r1, re⟩ := D_two (a := g) (b := h) (n := (D [g, h]).1) (by rw [← show (D [g, h]).2 = true from o3])
          refine ⟨(D [a, b]).1, (D [d, e]).1, (D [g, h]).1, p0, o4, q0, o5, r0, o6, ?_, rfl⟩
          unfold ck
          rw [← pe, ← qe, ← re]
          rfl
        · intro hh mi s h0 h1 m0 m1 s0 s1 he
          unfold ck at he
          have t1 : [a, b] = tw hh := by simpa [tw] using congrArg (List.take 2) he
          have t2 : [d, e] = tw mi := by simpa [tw] using congrArg (fun l => (l.drop 3).take 2) he
          have t3 : [g, h] = tw s := by simpa [tw] using congrArg (fun l => l.drop 6) he
          have d1 := D_tw hh h0 (by omega)
          have d2 := D_tw mi m0 (by omega)
          have d3 := D_tw s s0 (by omega)
          rw [← t1] at d1
          rw [← t2] at d2
          rw [← t3] at d3
          have e1 : List.take 2 [a, b, 58, d, e, 58, g, h] = [a, b] := rfl
          have e2 : (List.drop 3 [a, b, 58, d, e, 58, g, h]).take 2 = [d, e] := rfl
          have e3 : List.drop 6 [a, b, 58, d, e, 58, g, h] = [g, h] := rfl
          rw [e1, e2, e3, d1, d2, d3]
          unfold cok
          simp
          omega
      · refine ⟨0, false, Ev.congr (fun k => ?_) (cj0_true (X.bytes [a, b, c, d, e, f, g, h])), (fun z => by cases z), ?_⟩
        · simp only [ambryref9_clock.f, hz, b2, b5, if_true]
          rw [if_pos (by decide), if_pos c2, if_pos (by decide)]
          have : ((f.toNat : Int) != 58) = true := by simpa using c5
          rw [this]
        · intro hh mi s h0 h1 m0 m1 s0 s1 he
          unfold ck tw at he
          simp at he
          exact absurd (by rw [he.2.2.2.2.2.1]; rfl) c5
    · refine ⟨0, false, Ev.congr (fun k => ?_) (cj0_true (X.bytes [a, b, c, d, e, f, g, h])), (fun z => by cases z), ?_⟩
      · simp only [ambryref9_clock.f, hz, b2, b5, if_true]
        rw [if_pos (by decide), if_neg c2]
      · intro hh mi s h0 h1 m0 m1 s0 s1 he
        unfold ck tw at he
        simp at he
        exact absurd (by rw [he.2.2.1]; rfl) c2
theorem day_l0 (y m d : Int) (hy0 : 1970 ≤ y) (hy1 : y ≤ 9999) (hm0 : 0 ≤ m) (hm1 : m < 12) (hd0 : 1 ≤ d) (hd1 : d ≤ 31) (c : Nat) : ∀ i : Int, (c : Int) = m - i → 0 ≤ i → i ≤ m →
    Ev (fun k => ambryref9_day.l0 k y (m + 1) d (dys y + cum y i) (i + 1)) (num y m d) := by
  have hq0 : 0 ≤ dys y := by have := dys_le hy0; rw [dys_1970] at this; exact this
  have hq1 : dys y ≤ 2932897 := by have := dys_le (show y ≤ 10000 by omega); rw [dys_10000] at this; exact this
  induction c with
  | zero =>
    intro i hc h0 h1
    obtain rfl : i = m := by omega
    have hb := cum_pos y i h0 (by omega)
    refine Ev.step (f := fun _ => some _) (fun k => ?_) (Ev.now _)
    simp only [ambryref9_day.l0]
    rw [if_neg (by omega), w64 (x := d - 1) (by omega) (by omega), w64 (by omega) (by omega)]
    unfold num
    congr 1
    omega
  | succ c ih =>
    intro i hc h0 h1
    have hb := cum_pos y i h0 (by omega)
    have hs := cum_succ y i h0 (by omega)
    have hh := len_hi y i
    have hl := len_lo y i
    refine Ev.step (f := fun k => ambryref9_day.l0 k y (m + 1) d (dys y + cum y (i + 1)) (i + 1 + 1)) (fun k => ?_) (ih (i + 1) (by omega) (by omega) (by omega))
    simp only [ambryref9_day.l0]
    rw [if_pos (by omega), rlength_f y (i + 1) (by omega) (by omega) (by omega), show i + 1 - 1 = i by omega]
    simp only [Option.bind_some]
    rw [w64 (x := i + 1 + 1) (by omega) (by omega), w64 (by omega) (by omega), hs]
    congr 1
    omega
theorem day_ev {y m d : Int} (o : Ok y m d) : Ev (fun k => ambryref9_day.f k y (m + 1) d) (num y m d) := by
  have := day_l0 y m d o.y0 o.y1 o.m0 o.m1 o.d0 (Int.le_trans o.d1 (len_hi _ _)) m.toNat 0 (by have := o.m0; omega) (by omega) o.m0
  refine Ev.congr (fun k => ?_) this
  have hy1 := o.y1
  simp only [ambryref9_day.f, ahead_f y o.y0 (by omega), Option.bind_some, cum_0, Int.add_zero]
  rfl
theorem mj0_true (w y m d v : Int) : Ev (fun k => ambryref9_made.j0 k w y m d v true) (0, 80) := Ev.step (f := fun _ => some (0, 80)) (fun k => by simp only [ambryref9_made.j0, if_true]) (Ev.now _)
theorem mj0_false (w v : Int) {y m d : Int} (o : Ok y m d) (hv0 : 0 ≤ v) (hv1 : v ≤ 86400) : Ev (fun k => ambryref9_made.j0 k w y m d v false) (if wk y m d = w then (num y m d * 86400 + v, 0) else (0, 80)) := by
  obtain ⟨hb0, hb1⟩ := o.bound
  have hm1 := o.m1; have hm0 := o.m0
  refine Ev.step (f := fun k => (ambryref9_day.f k y (m + 1) d).bind fun t => if wk y m d = w then some (num y m d * 86400 + v, 0) else some (0, 80)) (fun k => ?_) ?_
  · simp only [ambryref9_made.j0, Bool.false_eq_true, if_false]
    rw [w64 (x := m + 1) (by omega) (by omega)]
    rcases hq : ambryref9_day.f k y (m + 1) d with _ | n
    · rfl
    · have hn : n = num y m d := by
        obtain ⟨K, hK⟩ := day_ev o
        have h1 := at_rounds (g := fun k => ambryref9_day.f k y (m + 1) d) (fun k => ambryref9_day.mono _ _ _ k) (Nat.le_max_left k K) hq
        have h2 := hK _ (Nat.le_max_right k K)
        exact Option.some.inj (h1.symm.trans h2)
      subst hn
      simp only [Option.bind_some]
      rw [w64 (x := num y m d + 4) (by omega) (by omega), tmod_nn 7 (by omega), w64 (x := num y m d * 86400) (by omega) (by omega), w64 (by omega) (by omega)]
      rfl
  · refine Ev.bind (f := fun k t => if wk y m d = w then some (num y m d * 86400 + v, 0) else some (0, 80)) (day_ev o) ?_
    refine Ev.congr (fun k => ?_) (Ev.now _)
    split <;> rfl
/-- What is made of the parts. -/
theorem made_tot (w y m d : Int) (l : List UInt8) (hl : l.length = 8) (hm : m < 12) (hm' : -1 ≤ m) : ∃ r, Ev (fun k => ambryref9_made.f k w y m d (X.bytes l)) r ∧
    (r = (0, 80) ∨ ∃ h mi s, Tm y m d h mi s ∧ l = ck h mi s ∧ w = wk y m d ∧ r = (sec y m d h mi s, 0)) ∧
    (∀ h mi s, Tm y m d h mi s → l = ck h mi s → w = wk y m d → r = (sec y m d h mi s, 0)) := by
  obtain ⟨v, ok, hc, hyes, hall⟩ := clk l hl
  have B : ∀ {g : Nat → Option (Int × Int)} {r : Int × Int}, (∀ k, (fun k (bt234 : Int × Bool) => (if bt234.2 = true then (if w < 0 then (ambryref9_made.j0 k w y m d bt234.1 true) else (if m < 0 then (ambryref9_made.j0 k w y m d bt234.1 true) else (if y < 1970 then (ambryref9_made.j0 k w y m d bt234.1 true) else (if y > 9999 then (ambryref9_made.j0 k w y m d bt234.1 true) else (if d < 1 then (ambryref9_made.j0 k w y m d bt234.1 true) else ((ambryref9_length.f y (wrap64 (m + 1))).bind fun t236 => (ambryref9_made.j0 k w y m d bt234.1 (decide (d > t236))))))))) else (ambryref9_made.j0 k w y m d bt234.1 true))) k (v, ok) = g k) → Ev g r → Ev (fun k => ambryref9_made.f k w y m d (X.bytes l)) r := by
    intro g r he hg
    exact Ev.bind (f := fun k (bt234 : Int × Bool) => (if bt234.2 = true then (if w < 0 then (ambryref9_made.j0 k w y m d bt234.1 true) else (if m < 0 then (ambryref9_made.j0 k w y m d bt234.1 true) else (if y < 1970 then (ambryref9_made.j0 k w y m d bt234.1 true) else (if y > 9999 then (ambryref9_made.j0 k w y m d bt234.1 true) else (if d < 1 then (ambryref9_made.j0 k w y m d bt234.1 true) else ((ambryref9_length.f y (wrap64 (m + 1))).bind fun t236 => (ambryref9_made.j0 k w y m d bt234.1 (decide (d > t236))))))))) else (ambryref9_made.j0 k w y m d bt234.1 true))) hc (Ev.congr he hg)
  by_cases cok : ok = true
  · subst cok
    by_cases cw : w < 0
    · exact ⟨_, B (fun k => by simp only [if_true]; rw [if_pos cw]) (mj0_true w y m d v), .inl rfl, fun h mi s t e ew => by have := wk0 y m d; omega⟩
    · by_cases cm : m < 0
      · exact ⟨_, B (fun k => by simp only [if_true]; rw [if_neg cw, if_pos cm]) (mj0_true w y m d v), .inl rfl, fun h mi s t e ew => by have := t.ok.m0; omega⟩
      · by_cases cy : y < 1970
        · exact ⟨_, B (fun k => by simp only [if_true]; rw [if_neg cw, if_neg cm, if_pos cy]) (mj0_true w y m d v), .inl rfl, fun h mi s t e ew => by have := t.ok.y0; omega⟩
        · by_cases cy1 : y > 9999
          · exact ⟨_, B (fun k => by simp only [if_true]; rw [if_neg cw, if_neg cm, if_neg cy, if_pos cy1]) (mj0_true w y m d v), .inl rfl, fun h mi s t e ew => by have := t.ok.y1; omega⟩
          · by_cases cd : d < 1
            · exact ⟨_, B (fun k => by simp only [if_true]; rw [if_neg cw, if_neg cm, if_neg cy, if_neg cy1, if_pos cd]) (mj0_true w y m d v), .inl rfl, fun h mi s t e ew => by have := t.ok.d0; omega⟩
            · have hlen : ambryref9_length.f y (wrap64 (m + 1)) = some (len y m) := by
                rw [w64 (x := m + 1) (by omega) (by omega), rlength_f y (m + 1) (by omega) (by omega) (by omega), show m + 1 - 1 = m by omega]
              by_cases cl : d > len y m
              · exact ⟨_, B (fun k => by simp only [if_true]; rw [if_neg cw, if_neg cm, if_neg cy, if_neg cy1, if_neg cd, hlen]; simp only [Option.bind_some, decide_eq_true cl]) (mj0_true w y m d v), .inl rfl, fun h mi s t e ew => by have := t.ok.d1; omega⟩
              · have o : Ok y m d := ⟨by omega, by omega, by omega, hm, by omega, by omega⟩
                obtain ⟨h, mi, s, h0, h1, m0, m1, s0, s1, hle, hv⟩ := hyes rfl
                have t : Tm y m d h mi s := ⟨o, h0, h1, m0, m1, s0, s1⟩
                refine ⟨_, B (fun k => by simp only [if_true]; rw [if_neg cw, if_neg cm, if_neg cy, if_neg cy1, if_neg cd, hlen]; simp only [Option.bind_some, decide_eq_false cl]) (mj0_false w v o (by omega) (by omega)), ?_, ?_⟩
                · by_cases ew : wk y m d = w
                  · rw [if_pos ew]
                    refine .inr ⟨h, mi, s, t, hle, ew.symm, ?_⟩
                    unfold sec
                    congr 1
                    omega
                  · rw [if_neg ew]
                    exact .inl rfl
                · intro h' mi' s' t' e' ew
                  obtain ⟨_, hv'⟩ := hall h' mi' s' t'.h0 t'.h1 t'.mi0 t'.mi1 t'.s0 t'.s1 e'
                  rw [if_pos ew.symm]
                  unfold sec
                  congr 1
                  omega
  · have hf : ok = false := by cases ok; rfl; exact absurd rfl cok
    subst hf
    refine ⟨_, B (fun k => by simp only [Bool.false_eq_true, if_false]) (mj0_true w y m d v), .inl rfl, fun h mi s t e ew => ?_⟩
    obtain ⟨ho, _⟩ := hall h mi s t.h0 t.h1 t.mi0 t.mi1 t.s0 t.s1 e
    cases ho
end Go.Proofs.YtcejglmmjbmafaaDoor.Pure
/- The document's reader of dates, Parse: what it computes (own form; the walk is to follow; NOT FINISHED). -/
namespace Go.Proofs.YtcejglmmjbmafaaDoor.X
open Go.RowKit Go.Proofs.YtcejglmmjbmafaaDoorW.PrintWords Go.Proofs.YtcejglmmjbmafaaDoorW.PrintLast Go.Proofs.YtcejglmmjbmafaaDoorW.PrintMore
set_option linter.unusedVariables false
set_option linter.unusedSimpArgs false

/-- The parts of one form, read and made. -/
def rparts (k : Nat) (d y w m c : ByteArray) : Option (Int × Int) := (ambryref9_digits.f k d).bind fun a => (ambryref9_digits.f k y).bind fun b =>
  if a.2 = true ∧ b.2 = true then ambryref9_days.f.bind fun ds => (ambryref9_index.f k ds w).bind fun i => ambryref9_months.f.bind fun ms => (ambryref9_index.f k ms m).bind fun j => ambryref9_made.f k i b.1 j a.1 c
  else some (0, 80)
/-- The first form's frame. -/
def G1 (a : ByteArray) : Bool := decide (a.size = 29) && ((a.extract 3 5).toList == [44, 32] && (bt a 7 == 32 && (bt a 11 == 32 && (bt a 16 == 32 && (a.extract 25 a.size).toList == [32, 71, 77, 84]))))
/-- The third form's frame. -/
def G2 (a : ByteArray) : Bool := decide (a.size = 24) && (bt a 3 == 32 && (bt a 7 == 32 && (bt a 10 == 32 && bt a 19 == 32)))
def rform1 (k : Nat) (a : ByteArray) : Option (Int × Int) := rparts k (a.extract 5 7) (a.extract 12 16) (a.extract 0 3) (a.extract 8 11) (a.extract 17 25)
def rform2 (k : Nat) (a : ByteArray) : Option (Int × Int) :=
  if bt (a.extract 8 10) 0 = 32 then rparts k ((a.extract 8 10).extract 1 2) (a.extract 20 a.size) (a.extract 0 3) (a.extract 4 7) (a.extract 11 19)
  else if bt (a.extract 8 10) 0 = 48 then some (0, 80) else rparts k (a.extract 8 10) (a.extract 20 a.size) (a.extract 0 3) (a.extract 4 7) (a.extract 11 19)
end Go.Proofs.YtcejglmmjbmafaaDoor.X
/- Plain Lean: the document's reader, one form's parts. -/
namespace Go.Proofs.YtcejglmmjbmafaaDoor.Pure
open Go.RowKit Go.Proofs.YtcejglmmjbmafaaDoor.X Go.Proofs.YtcejglmmjbmafaaDoor.Cal Go.Proofs.YtcejglmmjbmafaaDoorW.PrintWords Go.Proofs.YtcejglmmjbmafaaDoorW.PrintLast Go.Proofs.YtcejglmmjbmafaaDoorW.PrintMore
set_option linter.unusedVariables false
set_option linter.unusedSimpArgs false

theorem rparts_tot (d y w m c : List UInt8) (hd : d.length ≤ 4) (hy : y.length ≤ 4) (hc : c.length = 8) : ∃ r, Ev (fun k => rparts k (X.bytes d) (X.bytes y) (X.bytes w) (X.bytes m) (X.bytes c)) r ∧
    (r = (0, 80) ∨ ∃ h mi s, (D d).2 = true ∧ (D y).2 = true ∧ Tm (D y).1 (mIdx m) (D d).1 h mi s ∧ c = ck h mi s ∧ dIdx w = wk (D y).1 (mIdx m) (D d).1 ∧ r = (sec (D y).1 (mIdx m) (D d).1 h mi s, 0)) ∧
    (∀ h mi s, (D d).2 = true → (D y).2 = true → Tm (D y).1 (mIdx m) (D d).1 h mi s → c = ck h mi s → dIdx w = wk (D y).1 (mIdx m) (D d).1 → r = (sec (D y).1 (mIdx m) (D d).1 h mi s, 0)) := by
  obtain ⟨r, hr, h1, h2⟩ := made_tot (dIdx w) (D y).1 (mIdx m) (D d).1 c hc (by rcases mIdx_cases m with h | h <;> omega) (by rcases mIdx_cases m with h | h <;> omega)
  by_cases hb : (D d).2 = true ∧ (D y).2 = true
  · obtain ⟨k1, e1⟩ := digits_ev d hd
    obtain ⟨k2, e2⟩ := digits_ev y hy
    obtain ⟨k3, e3⟩ := days_ev w
    obtain ⟨k4, e4⟩ := months_ev m
    obtain ⟨k5, e5⟩ := hr
    refine ⟨r, ⟨k1 + k2 + k3 + k4 + k5, fun k hk => ?_⟩, ?_, fun h mi s a b t e ew => h2 h mi s t e ew⟩
    · have q1 := e1 k (by omega)
      have q2 := e2 k (by omega)
      have q3 := e3 k (by omega)
      have q4 := e4 k (by omega)
      have q5 := e5 k (by omega)
      simp only at q1 q2 q3 q4 q5
      simp only [rparts, q1, q2, Option.bind_some, rdays_f, rmonths_f, q3, q4]
      rw [if_pos hb]
      exact q5
    · rcases h1 with h1 | ⟨h, mi, s, t, e, ew, er⟩
      · exact .inl h1
      · exact .inr ⟨h, mi, s, hb.1, hb.2, t, e, ew, er⟩
  · obtain ⟨k1, e1⟩ := digits_ev d hd
    obtain ⟨k2, e2⟩ := digits_ev y hy
    refine ⟨(0, 80), ⟨k1 + k2, fun k hk => ?_⟩, .inl rfl, fun h mi s a b => absurd ⟨a, b⟩ hb⟩
    have q1 := e1 k (by omega)
    have q2 := e2 k (by omega)
    simp only at q1 q2
    simp only [rparts, q1, q2, Option.bind_some]
    rw [if_neg hb]
end Go.Proofs.YtcejglmmjbmafaaDoor.Pure
