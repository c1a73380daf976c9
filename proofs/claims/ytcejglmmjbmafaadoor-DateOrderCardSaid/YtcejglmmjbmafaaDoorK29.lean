/- Words and walks, joined by a program. -/
import Derived.Test.YtcejglmmjbmafaaDoorK27
import Derived.Test.YtcejglmmjbmafaaDoorK23
import Derived.Test.YtcejglmmjbmafaaDoorK26
import Derived.Test.YtcejglmmjbmafaaDoorK28
import Derived.Lib.IndexBytes
/- Plain Lean: what the printed functions of dates come to, in the calendar's words. -/
namespace Go.Proofs.YtcejglmmjbmafaaDoor.Pure
open Go.RowKit Go.Proofs.YtcejglmmjbmafaaDoor.X Go.Proofs.YtcejglmmjbmafaaDoor.Cal Go.Proofs.YtcejglmmjbmafaaDoorW.PrintWords Go.Proofs.YtcejglmmjbmafaaDoorW.PrintLast Go.Proofs.YtcejglmmjbmafaaDoorW.PrintMore
set_option linter.unusedVariables false
set_option linter.unusedSimpArgs false

theorem tdiv_nn {a : Int} (b : Int) (h : 0 ≤ a) : Int.tdiv a b = a / b := Int.tdiv_eq_ediv_of_nonneg h
theorem tmod_nn {a : Int} (b : Int) (h : 0 ≤ a) : Int.tmod a b = a % b := Int.tmod_eq_emod_of_nonneg h

theorem days_f (y : Int) (h0 : 1970 ≤ y) (h1 : y ≤ 10000) : date_days.f y = some (dys y) := by
  unfold date_days.f
  have e : wrap64 (y - 1) = y - 1 := w64 (by omega) (by omega)
  rw [e, tdiv_nn 4 (by omega), tdiv_nn 100 (by omega), tdiv_nn 400 (by omega)]
  congr 1
  unfold dys wrap64
  omega
theorem ahead_f (y : Int) (h0 : 1970 ≤ y) (h1 : y ≤ 10000) : ambryref9_ahead.f y = some (dys y) := by
  unfold ambryref9_ahead.f
  have e : wrap64 (y - 1) = y - 1 := w64 (by omega) (by omega)
  rw [e, tdiv_nn 4 (by omega), tdiv_nn 100 (by omega), tdiv_nn 400 (by omega)]
  congr 1
  unfold dys wrap64
  omega
theorem length_f (y m : Int) (h0 : 0 ≤ y) : date_length.f y m = some (len y m) := by
  unfold date_length.f
  rw [tmod_nn 4 h0, tmod_nn 100 h0, tmod_nn 400 h0]
  unfold len lp
  by_cases c1 : m = 1
  · rw [if_pos c1, if_pos c1]
    by_cases a : y % 4 = 0 <;> by_cases b : y % 100 = 0 <;> by_cases c : y % 400 = 0 <;> simp [a, b, c]
  · rw [if_neg c1, if_neg c1]
    by_cases c3 : m = 3
    · simp [c3]
    by_cases c5 : m = 5
    · simp [c5]
    by_cases c8 : m = 8
    · simp [c8]
    by_cases c10 : m = 10
    · simp [c10]
    simp [c3, c5, c8, c10]
theorem leap_f (y : Int) (h0 : 0 ≤ y) : ambryref9_leap.f y = some (lp y == 1) := by
  unfold ambryref9_leap.f
  rw [tmod_nn 4 h0, tmod_nn 100 h0, tmod_nn 400 h0]
  unfold lp
  by_cases a : y % 4 = 0 <;> by_cases b : y % 100 = 0 <;> by_cases c : y % 400 = 0 <;> simp [a, b, c]
theorem rlength_f (y m : Int) (h0 : 0 ≤ y) (h1 : 1 ≤ m) (h2 : m ≤ 12) : ambryref9_length.f y m = some (len y (m - 1)) := by
  unfold ambryref9_length.f
  rw [leap_f y h0, w64 (x := m - 1) (by omega) (by omega)]
  simp only [Option.bind_some]
  obtain ⟨n, rfl⟩ : ∃ n : Nat, m = n + 1 := ⟨(m - 1).toNat, by omega⟩
  have e : ((n : Int) + 1 - 1) = n := by omega
  rw [e]
  have hn : n < 12 := by omega
  match n, hn with
  | 0, _ | 2, _ | 3, _ | 4, _ | 5, _ | 6, _ | 7, _ | 8, _ | 9, _ | 10, _ | 11, _ => rfl
  | 1, _ =>
    have := lp_01 y
    rcases this with h | h <;> simp [len, h, rd]
  | n + 12, h => omega

/-- The months' loop. -/
theorem of_l1 (n y h mi s : Int) (hy0 : 1970 ≤ y) (hy1 : y ≤ 9999) (hn : n < dys (y + 1)) (hn0 : 0 ≤ n) (hn1 : n ≤ 2932896) (c : Nat) : ∀ (m : Int), (c : Int) = 12 - m → 0 ≤ m → m < 12 → dys y + cum y m ≤ n →
    ∃ m' d, Ok y m' d ∧ num y m' d = n ∧ Ev (fun k => date_of.l1 k n (n - dys y - cum y m) y m 0 h mi s) (y, m', d, h, mi, s, (n + 4) % 7) := by
  induction c with
  | zero => intro m hc h0 h1; omega
  | succ c ih =>
    intro m hc h0 h1 hle
    have hs := cum_succ y m h0 h1
    have hl := len_lo y m
    have hh := len_hi y m
    have hb := cum_pos y m h0 (by omega)
    have hd0 : 0 ≤ dys y := by have := dys_le hy0; rw [dys_1970] at this; exact this
    by_cases hg : len y m ≤ n - dys y - cum y m
    · have hm : m + 1 < 12 := by
        by_cases e : m = 11
        · subst e
          have := cum_12 y
          have := dys_succ y
          have e12 : (11 : Int) + 1 = 12 := rfl
          rw [e12] at hs
          omega
        · omega
      obtain ⟨m', d, ho, hnum, hev⟩ := ih (m + 1) (by omega) (by omega) hm (by omega)
      refine ⟨m', d, ho, hnum, Ev.step (f := fun k => date_of.l1 k n (n - dys y - cum y (m + 1)) y (m + 1) 0 h mi s) (fun k => ?_) hev⟩
      simp only [date_of.l1, length_f y m (by omega), Option.bind_some]
      rw [if_pos hg, w64 (x := m + 1) (by omega) (by omega), w64 (by omega) (by omega), hs]
      congr 1
      omega
    · refine ⟨m, n - dys y - cum y m + 1, ⟨hy0, hy1, h0, h1, by omega, by omega⟩, by unfold num; omega, Ev.step (f := fun _ => some _) (fun k => ?_) (Ev.now _)⟩
      simp only [date_of.l1, length_f y m (by omega), Option.bind_some]
      rw [if_neg hg]
      simp only [date_weekday.f, Option.bind_some]
      rw [w64 (x := n + 4) (by omega) (by omega), tmod_nn 7 (by omega), w64 (by omega) (by omega)]
/-- The years' loop. -/
theorem of_l0 (n h mi s : Int) (hn0 : 0 ≤ n) (hn1 : n ≤ 2932896) (c : Nat) : ∀ (y : Int), (c : Int) = 10000 - y → 1970 ≤ y → y ≤ 9999 → dys y ≤ n →
    ∃ y' m' d, Ok y' m' d ∧ num y' m' d = n ∧ Ev (fun k => date_of.l0 k n y 0 0 h mi s) (y', m', d, h, mi, s, (n + 4) % 7) := by
  induction c with
  | zero => intro y hc h0 h1; omega
  | succ c ih =>
    intro y hc h0 h1 hle
    by_cases hg : dys (y + 1) ≤ n
    · have hm : y + 1 ≤ 9999 := by
        by_cases e : y = 9999
        · subst e
          have := dys_10000
          have e12 : (9999 : Int) + 1 = 10000 := rfl
          rw [e12] at hg
          omega
        · omega
      obtain ⟨y', m', d, ho, hnum, hev⟩ := ih (y + 1) (by omega) (by omega) hm hg
      refine ⟨y', m', d, ho, hnum, Ev.step (f := fun k => date_of.l0 k n (y + 1) 0 0 h mi s) (fun k => ?_) hev⟩
      simp only [date_of.l0]
      rw [w64 (x := y + 1) (by omega) (by omega), days_f (y + 1) (by omega) (by omega)]
      simp only [Option.bind_some]
      rw [if_pos hg]
    · obtain ⟨m', d, ho, hnum, hev⟩ := of_l1 n y h mi s h0 h1 (by omega) hn0 hn1 12 0 (by omega) (by omega) (by omega) (by rw [cum_0]; omega)
      refine ⟨y, m', d, ho, hnum, Ev.step (f := fun k => date_of.l1 k n (n - dys y - cum y 0) y 0 0 h mi s) (fun k => ?_) hev⟩
      simp only [date_of.l0]
      rw [w64 (x := y + 1) (by omega) (by omega), days_f (y + 1) (by omega) (by omega), days_f y h0 (by omega)]
      simp only [Option.bind_some]
      have hd0 : 0 ≤ dys y := by have := dys_le h0; rw [dys_1970] at this; exact this
      rw [if_neg hg, cum_0, w64 (by omega) (by omega)]
      congr 1
      omega
theorem guess (n : Int) (h0 : 0 ≤ n) : dys (1970 + n / 366) ≤ n := by unfold dys; omega
theorem guess_hi (n : Int) (h0 : 0 ≤ n) (h1 : n ≤ 2932896) : 1970 + n / 366 ≤ 9999 := by omega

/-- 'of': a time's parts. -/
theorem of_ev (t : Int) (h0 : 0 ≤ t) (h1 : t ≤ 253402300799) :
    ∃ y m d, Ok y m d ∧ num y m d = t / 86400 ∧ Ev (fun k => date_of.f k t) (y, m, d, t % 86400 / 3600, t % 86400 / 60 % 60, t % 60, (t / 86400 + 4) % 7) := by
  obtain ⟨y, m, d, ho, hn, hev⟩ := of_l0 (t / 86400) (t % 86400 / 3600) (t % 86400 / 60 % 60) (t % 60) (by omega) (by omega) (10000 - (1970 + t / 86400 / 366)).toNat (1970 + t / 86400 / 366) (by omega) (by omega) (by omega) (guess _ (by omega))
  refine ⟨y, m, d, ho, hn, Ev.congr (fun k => ?_) hev⟩
  simp only [date_of.f]
  rw [tdiv_nn 86400 h0, tmod_nn 86400 h0, tmod_nn 60 h0, tdiv_nn 3600 (by omega), tdiv_nn 60 (a := t % 86400) (by omega), w64 (x := t / 86400) (by omega) (by omega), tdiv_nn 366 (by omega), w64 (x := t / 86400 / 366) (by omega) (by omega), w64 (by omega) (by omega), w64 (x := t % 86400 / 3600) (by omega) (by omega), w64 (x := t % 86400 / 60) (by omega) (by omega), tmod_nn 60 (by omega)]

/-- 'seconds'. -/
theorem sec_l0 (y mo d h mi s : Int) (hy0 : 1970 ≤ y) (hy1 : y ≤ 9999) (hm0 : 0 ≤ mo) (hm1 : mo < 12) (hh : 0 ≤ h ∧ h ≤ 23) (hmi : 0 ≤ mi ∧ mi ≤ 59) (hs : 0 ≤ s ∧ s ≤ 59) (a : Int) (ha0 : 0 ≤ a) (ha1 : a ≤ 4000000) (c : Nat) : ∀ i : Int, (c : Int) = mo - i → 0 ≤ i → i ≤ mo →
    Ev (fun k => date_moment_seconds.l0 k (a + cum y i) mo i y mo d h mi s) ((a + cum y mo) * 86400 + h * 3600 + mi * 60 + s) := by
  induction c with
  | zero =>
    intro i hc h0 h1
    obtain rfl : i = mo := by omega
    refine Ev.step (f := fun _ => some _) (fun k => ?_) (Ev.now _)
    simp only [date_moment_seconds.l0]
    have hb := cum_pos y i h0 (by omega)
    rw [if_neg (by omega), w64 (x := (a + cum y i) * 86400) (by omega) (by omega), w64 (x := h * 3600) (by omega) (by omega), w64 (x := mi * 60) (by omega) (by omega), w64 (x := h * 3600 + mi * 60) (by omega) (by omega), w64 (x := h * 3600 + mi * 60 + s) (by omega) (by omega), w64 (by omega) (by omega)]
    congr 1
    omega
  | succ c ih =>
    intro i hc h0 h1
    have hb := cum_pos y i h0 (by omega)
    have hs := cum_succ y i h0 (by omega)
    have hh := len_hi y i
    have hl := len_lo y i
    refine Ev.step (f := fun k => date_moment_seconds.l0 k (a + cum y (i + 1)) mo (i + 1) y mo d h mi s) (fun k => ?_) (ih (i + 1) (by omega) (by omega) (by omega))
    simp only [date_moment_seconds.l0]
    rw [if_pos (by omega), length_f y i (by omega)]
    simp only [Option.bind_some]
    rw [w64 (x := i + 1) (by omega) (by omega), w64 (by omega) (by omega), hs]
    congr 1
    omega
theorem sec_ev (y mo d h mi s : Int) (ho : Ok y mo d) (hh : 0 ≤ h ∧ h ≤ 23) (hmi : 0 ≤ mi ∧ mi ≤ 59) (hs : 0 ≤ s ∧ s ≤ 59) :
    Ev (fun k => date_moment_seconds.f k y mo d h mi s) (num y mo d * 86400 + h * 3600 + mi * 60 + s) := by
  have hd0 : 0 ≤ dys y := by have := dys_le ho.y0; rw [dys_1970] at this; exact this
  have hd1 : dys y ≤ 2932897 := by have := dys_le (show y ≤ 10000 by have := ho.y1; omega); rw [dys_10000] at this; exact this
  have hl := len_hi y mo
  have hev := sec_l0 y mo d h mi s ho.y0 ho.y1 ho.m0 ho.m1 hh hmi hs (dys y + d - 1) (by have := ho.d0; omega) (by have := ho.d1; omega) mo.toNat 0 (by have := ho.m0; omega) (by omega) ho.m0
  have e : dys y + d - 1 + cum y mo = num y mo d := by unfold num; omega
  rw [e] at hev
  refine Ev.congr (fun k => ?_) hev
  simp only [date_moment_seconds.f, days_f y ho.y0 (by have := ho.y1; omega), Option.bind_some]
  have := ho.d0; have := ho.d1
  rw [w64 (x := dys y + d) (by omega) (by omega), w64 (by omega) (by omega), cum_0]
  congr 1
  omega
end Go.Proofs.YtcejglmmjbmafaaDoor.Pure
/- Plain Lean: the three forms of a time's text, as lists of bytes; what the printed functions write. -/
namespace Go.Proofs.YtcejglmmjbmafaaDoor.Pure
open Go.RowKit Go.Proofs.YtcejglmmjbmafaaDoor.X Go.Proofs.YtcejglmmjbmafaaDoor.Cal Go.Proofs.YtcejglmmjbmafaaDoorW.PrintWords Go.Proofs.YtcejglmmjbmafaaDoorW.PrintLast Go.Proofs.YtcejglmmjbmafaaDoorW.PrintMore
set_option linter.unusedVariables false
set_option linter.unusedSimpArgs false

theorem bytes_append (a b : List UInt8) : X.bytes a ++ X.bytes b = X.bytes (a ++ b) := by
  apply ByteArray.ext
  simp [X.bytes]
theorem bytes_size (a : List UInt8) : (X.bytes a).size = a.length := rfl
theorem bytes_inj {a b : List UInt8} (h : X.bytes a = X.bytes b) : a = b := by
  have := congrArg (fun x : ByteArray => x.data.toList) h
  simpa [X.bytes] using this
theorem eq_bytes (s : ByteArray) : s = X.bytes s.data.toList := by
  apply ByteArray.ext
  simp [X.bytes]
theorem bytes_list (l : List UInt8) : (X.bytes l).data.toList = l := by simp [X.bytes]
theorem bytes_toList (l : List UInt8) : (X.bytes l).toList = l := by rw [ByteArray.toList_eq, bytes_list]
theorem bt_bytes (l : List UInt8) (i : Nat) (h : i < l.length) : bt (X.bytes l) i = ((l[i]).toNat : Int) := by
  have h' : i < (X.bytes l).size := h
  rw [← bt_at (X.bytes l) (i : Int) (by simpa using h')]
  rfl
theorem extract_bytes (l : List UInt8) (a b : Nat) : (X.bytes l).extract a b = X.bytes ((l.drop a).take (b - a)) := by
  apply ByteArray.ext
  simp [X.bytes, ByteArray.data_extract]

/-- A digit's byte. -/
def dg (n : Int) : UInt8 := UInt8.ofNat (48 + n.toNat)
theorem dg_nat {n : Int} (h0 : 0 ≤ n) (h9 : n ≤ 9) : ((dg n).toNat : Int) = 48 + n := by
  unfold dg
  rw [UInt8.toNat_ofNat']
  omega
/-- Two digits. -/
def tw (n : Int) : List UInt8 := [dg (n / 10 % 10), dg (n % 10)]
theorem itoa_f (n : Int) (h0 : 0 ≤ n) (h9 : n < 10) : strconv_Itoa.f n = some (X.bytes [dg n]) := by
  unfold strconv_Itoa.f
  rw [if_pos (by omega)]
  unfold Lib.decDigits
  rw [dif_pos (by omega)]
  rfl
theorem two_f (n : Int) (h0 : 0 ≤ n) (h1 : n ≤ 1000000) : date_two.f n = some (X.bytes (tw n)) := by
  unfold date_two.f
  rw [tdiv_nn 10 h0, w64 (x := n / 10) (by omega) (by omega), tmod_nn 10 (by omega), tmod_nn 10 h0, itoa_f _ (by omega) (by omega), itoa_f _ (by omega) (by omega)]
  simp only [Option.bind_some]
  rw [if_pos (by simp [bytes_size]), bytes_append]
  rfl
theorem digits10 (n : Int) (h0 : 0 ≤ n) (h9 : n < 10) : (⟨#[48, 49, 50, 51, 52, 53, 54, 55, 56, 57]⟩ : ByteArray).extract n.toNat (n + 1).toNat = X.bytes [dg n] := by
  obtain ⟨k, rfl⟩ := Int.eq_ofNat_of_zero_le h0
  match k, h9 with
  | 0, _ | 1, _ | 2, _ | 3, _ | 4, _ | 5, _ | 6, _ | 7, _ | 8, _ | 9, _ => decide
  | k + 10, h => omega
theorem rtwo_f (n : Int) (h0 : 0 ≤ n) (h1 : n ≤ 1000000) : ambryref9_two.f n = some (X.bytes (tw n)) := by
  unfold ambryref9_two.f
  rw [tdiv_nn 10 h0, w64 (x := n / 10) (by omega) (by omega), tmod_nn 10 (by omega), tmod_nn 10 h0, w64 (x := n / 10 % 10 + 1) (by omega) (by omega), w64 (x := n % 10 + 1) (by omega) (by omega), digits10 _ (by omega) (by omega), digits10 _ (by omega) (by omega), bytes_append]
  rw [if_pos (by omega), if_pos (by omega), if_pos (by omega), if_pos (by omega), if_pos (by omega), if_pos (by omega), if_pos (by simp [bytes_size])]
  rfl
/-- A time of day. -/
def ck (h mi s : Int) : List UInt8 := tw h ++ [58] ++ tw mi ++ [58] ++ tw s
theorem lit_bytes (l : List UInt8) : (⟨l.toArray⟩ : ByteArray) = X.bytes l := rfl
theorem clock_f (y mo d h mi s : Int) (hh : 0 ≤ h ∧ h ≤ 23) (hmi : 0 ≤ mi ∧ mi ≤ 59) (hs : 0 ≤ s ∧ s ≤ 59) : date_moment_clock.f y mo d h mi s = some (X.bytes (ck h mi s)) := by
  unfold date_moment_clock.f
  rw [two_f h hh.1 (by omega), two_f mi hmi.1 (by omega), two_f s hs.1 (by omega)]
  simp only [Option.bind_some, lit_bytes, bytes_append]
  rw [if_pos (by simp [bytes_size, tw]), if_pos (by simp [bytes_size, tw]), if_pos (by simp [bytes_size, tw]), if_pos (by simp [bytes_size, tw])]
  rfl
/-- Names. -/
def ld (w : Int) : List UInt8 := (longDay w).data.toList
def sd (w : Int) : List UInt8 := (ld w).take 3
def m3 (m : Int) : List UInt8 := (shortMonth m).data.toList
theorem ld_f (w : Int) : longDay w = X.bytes (ld w) := eq_bytes _
theorem sd_f (w : Int) : (longDay w).extract 0 3 = X.bytes (sd w) := by rw [ld_f, extract_bytes]; rfl
theorem m3_f (m : Int) : shortMonth m = X.bytes (m3 m) := eq_bytes _
/-- A day's number, a blank ahead of one digit. -/
def dl (d : Int) : List UInt8 := if d < 10 then [32, dg d] else tw d
/-- The three forms. -/
def T1 (y mo d h mi s w : Int) : List UInt8 := sd w ++ [44, 32] ++ tw d ++ [32] ++ m3 mo ++ [32] ++ tw (y / 100) ++ tw y ++ [32] ++ ck h mi s ++ [32, 71, 77, 84]
def T2 (y mo d h mi s w : Int) : List UInt8 := ld w ++ [44, 32] ++ tw d ++ [45] ++ m3 mo ++ [45] ++ tw y ++ [32] ++ ck h mi s ++ [32, 71, 77, 84]
def T3 (y mo d h mi s w : Int) : List UInt8 := sd w ++ [32] ++ m3 mo ++ [32] ++ dl d ++ [32] ++ ck h mi s ++ [32] ++ tw (y / 100) ++ tw y
/-- A time's parts that may be. -/
structure Tm (y mo d h mi s : Int) : Prop where
  ok : Ok y mo d
  h0 : 0 ≤ h
  h1 : h ≤ 23
  mi0 : 0 ≤ mi
  mi1 : mi ≤ 59
  s0 : 0 ≤ s
  s1 : s ≤ 59
/-- Its seconds, its day of the week. -/
def sec (y mo d h mi s : Int) : Int := num y mo d * 86400 + h * 3600 + mi * 60 + s
def wk (y mo d : Int) : Int := (num y mo d + 4) % 7
theorem wk0 (y mo d : Int) : 0 ≤ wk y mo d ∧ wk y mo d < 7 := by unfold wk; omega
theorem Tm.d {y mo d h mi s : Int} (t : Tm y mo d h mi s) : 1 ≤ d ∧ d ≤ 31 := ⟨t.ok.d0, Int.le_trans t.ok.d1 (len_hi _ _)⟩
theorem text1_f {y mo d h mi s : Int} (t : Tm y mo d h mi s) (w : Int) (hw : 0 ≤ w ∧ w < 7) : text1 y mo d h mi s w = some (X.bytes (T1 y mo d h mi s w)) := by
  have := t.ok.y0; have := t.ok.y1; have hd := t.d
  unfold text1
  rw [if_pos ⟨hw.1, hw.2, t.ok.m0, t.ok.m1⟩, tdiv_nn 100 (by omega), w64 (x := y / 100) (by omega) (by omega), two_f d (by omega) (by omega), two_f (y / 100) (by omega) (by omega), two_f y (by omega) (by omega), clock_f y mo d h mi s ⟨t.h0, t.h1⟩ ⟨t.mi0, t.mi1⟩ ⟨t.s0, t.s1⟩]
  simp only [Option.bind_some, sd_f, m3_f, bytes_append]
  rfl
theorem late_f {y mo d h mi s : Int} (t : Tm y mo d h mi s) (w : Int) (hw : 0 ≤ w ∧ w < 7) : date_late.f y mo d h mi s w = some (X.bytes (T2 y mo d h mi s w)) := by
  have := t.ok.y0; have := t.ok.y1; have hd := t.d
  unfold date_late.f
  rw [if_pos ⟨hw.1, hw.2, t.ok.m0, t.ok.m1⟩, two_f d (by omega) (by omega), two_f y (by omega) (by omega), clock_f y mo d h mi s ⟨t.h0, t.h1⟩ ⟨t.mi0, t.mi1⟩ ⟨t.s0, t.s1⟩]
  simp only [Option.bind_some, ld_f, m3_f, bytes_append]
  rfl
theorem dayOf_f (d : Int) (h0 : 1 ≤ d) (h1 : d ≤ 31) : dayOf d (X.bytes (tw d)) = X.bytes (dl d) := by
  unfold dayOf dl
  split
  · rw [extract_bytes, bytes_append]
    have e : d % 10 = d := by omega
    simp [tw, e]
  · rfl
theorem plain_f {y mo d h mi s : Int} (t : Tm y mo d h mi s) (w : Int) (hw : 0 ≤ w ∧ w < 7) : date_plain.f y mo d h mi s w = some (X.bytes (T3 y mo d h mi s w)) := by
  have := t.ok.y0; have := t.ok.y1; have hd := t.d
  unfold date_plain.f
  rw [if_pos ⟨hw.1, hw.2, t.ok.m0, t.ok.m1⟩, tdiv_nn 100 (by omega), w64 (x := y / 100) (by omega) (by omega), two_f d (by omega) (by omega), two_f (y / 100) (by omega) (by omega), two_f y (by omega) (by omega), clock_f y mo d h mi s ⟨t.h0, t.h1⟩ ⟨t.mi0, t.mi1⟩ ⟨t.s0, t.s1⟩]
  simp only [Option.bind_some, sd_f, m3_f, bytes_append, dayOf_f d hd.1 hd.2]
  rfl
/-- A time within the limits. -/
def cl (t : Int) : Int := mn (mx t 0) 253402300799
theorem cl_lo (t : Int) : 0 ≤ cl t ∧ cl t ≤ 253402300799 := by unfold cl mn mx; split <;> split <;> omega
theorem cl_id {t : Int} (h0 : 0 ≤ t) (h1 : t ≤ 253402300799) : cl t = t := by unfold cl mn mx; split <;> split <;> omega
/-- Every time within the limits has its parts. -/
theorem parts (t : Int) (h0 : 0 ≤ t) (h1 : t ≤ 253402300799) :
    ∃ y mo d, Tm y mo d (t % 86400 / 3600) (t % 86400 / 60 % 60) (t % 60) ∧ sec y mo d (t % 86400 / 3600) (t % 86400 / 60 % 60) (t % 60) = t ∧ num y mo d = t / 86400 ∧
      Ev (fun k => date_of.f k t) (y, mo, d, t % 86400 / 3600, t % 86400 / 60 % 60, t % 60, wk y mo d) := by
  obtain ⟨y, mo, d, ho, hn, hev⟩ := of_ev t h0 h1
  refine ⟨y, mo, d, ⟨ho, by omega, by omega, by omega, by omega, by omega, by omega⟩, by unfold sec; rw [hn]; omega, hn, ?_⟩
  unfold wk
  rw [hn]
  exact hev
/-- What 'of' makes of a time's seconds. -/
theorem of_sec {y mo d h mi s : Int} (t : Tm y mo d h mi s) : 0 ≤ sec y mo d h mi s ∧ sec y mo d h mi s ≤ 253402300799 ∧ Ev (fun k => date_of.f k (sec y mo d h mi s)) (y, mo, d, h, mi, s, wk y mo d) := by
  have hb := t.ok.bound
  have := t.h0; have := t.h1; have := t.mi0; have := t.mi1; have := t.s0; have := t.s1
  have hs0 : 0 ≤ sec y mo d h mi s := by unfold sec; omega
  have hs1 : sec y mo d h mi s ≤ 253402300799 := by unfold sec; omega
  refine ⟨hs0, hs1, ?_⟩
  obtain ⟨y', mo', d', t', hs', hn', hev⟩ := parts _ hs0 hs1
  have hn : num y' mo' d' = num y mo d := by rw [hn']; unfold sec; omega
  obtain ⟨rfl, rfl, rfl⟩ := num_inj t'.ok t.ok hn
  have e1 : sec y' mo' d' h mi s % 86400 / 3600 = h := by unfold sec; omega
  have e2 : sec y' mo' d' h mi s % 86400 / 60 % 60 = mi := by unfold sec; omega
  have e3 : sec y' mo' d' h mi s % 60 = s := by unfold sec; omega
  rw [e1, e2, e3] at hev
  exact hev
/-- 'Text' of a time. -/
theorem text_ev {y mo d h mi s : Int} (t : Tm y mo d h mi s) {x : Int} (hx : cl x = sec y mo d h mi s) : Ev (fun k => date_Text.f k x) (X.bytes (T1 y mo d h mi s (wk y mo d))) := by
  obtain ⟨h0, h1, hev⟩ := of_sec t
  refine Ev.congr (fun k => ?_) (Ev.bind hev (f := fun k z => text1 z.1 z.2.1 z.2.2.1 z.2.2.2.1 z.2.2.2.2.1 z.2.2.2.2.2.1 z.2.2.2.2.2.2) (Ev.congr (fun k => text1_f t _ (wk0 y mo d)) (Ev.now _)))
  simp only [date_Text.f]
  rw [show mn (mx x 0) 253402300799 = sec y mo d h mi s from hx]
end Go.Proofs.YtcejglmmjbmafaaDoor.Pure
/- Plain Lean: what the printed functions of dates read. -/
namespace Go.Proofs.YtcejglmmjbmafaaDoor.Pure
open Go.RowKit Go.Proofs.YtcejglmmjbmafaaDoor.X Go.Proofs.YtcejglmmjbmafaaDoor.Cal Go.Proofs.YtcejglmmjbmafaaDoorW.PrintWords Go.Proofs.YtcejglmmjbmafaaDoorW.PrintLast Go.Proofs.YtcejglmmjbmafaaDoorW.PrintMore
set_option linter.unusedVariables false
set_option linter.unusedSimpArgs false

/-! ### number -/
/-- One byte more. -/
def stepD (n : Int) (b : UInt8) : Int := if 48 ≤ (b.toNat : Int) ∧ (b.toNat : Int) ≤ 57 then 10 * n + ((b.toNat : Int) - 48) else n
def numS (l : List UInt8) (at_ size : Nat) : Int := ((l.drop at_).take size).foldl stepD 0
def bnd : Nat → Int
  | 0 => 100000000
  | c + 1 => bnd c / 10
theorem bnd_le : ∀ c, bnd c ≤ 100000000
  | 0 => by decide
  | c + 1 => by have := bnd_le c; simp only [bnd]; omega
theorem bt_getD (s : ByteArray) (i : Int) (h0 : 0 ≤ i) (h1 : i < s.size) : ∃ b, s.data.toList[i.toNat]? = some b ∧ bt s i = (b.toNat : Int) := by
  have h : i.toNat < s.size := by omega
  refine ⟨s[i.toNat], Lib.data_getElem? s _ h, (bt_at s i h).symm⟩
theorem num_l0 (s : ByteArray) (x1 x2 : Int) (h1 : 0 ≤ x1) (h2 : x1 ≤ 1000000000000) (h3 : 0 ≤ x2) (h4 : x2 ≤ 4) (c : Nat) : ∀ (n i : Int), (c : Int) = x1 + x2 - i → x1 ≤ i → 0 ≤ n → n + 1 ≤ bnd c →
    Ev (fun k => date_reader_number.l0 k x1 x2 n i s) (((s.data.toList.drop i.toNat).take c).foldl stepD n) ∧ 0 ≤ ((s.data.toList.drop i.toNat).take c).foldl stepD n ∧ ((s.data.toList.drop i.toNat).take c).foldl stepD n + 1 ≤ bnd 0 := by
  induction c with
  | zero =>
    intro n i hc hi hn hb
    refine ⟨?_, by simpa using hn, by simpa using hb⟩
    refine Ev.step (f := fun k => date_reader_number.j1 k x1 x2 n i false s) (fun k => ?_) (Ev.step (f := fun _ => some _) (fun k => ?_) (Ev.now _))
    · simp only [date_reader_number.l0]
      rw [w64 (x := x1 + x2) (by omega) (by omega), if_neg (by omega)]
    · simp only [date_reader_number.j1]
      simp
  | succ c ih =>
    intro n i hc hi hn hb
    have hlt : i < x1 + x2 := by omega
    have hbc := bnd_le c
    have hb2 : 10 * n + 10 ≤ bnd c := by simp only [bnd] at hb; omega
    have e1 : (i + 1).toNat = i.toNat + 1 := by omega
    by_cases hs : i < s.size
    · obtain ⟨b, hbl, hbt⟩ := bt_getD s i (by omega) hs
      have hbb := b.toNat_lt
      have hd : (s.data.toList.drop i.toNat).take (c + 1) = b :: (s.data.toList.drop (i + 1).toNat).take c := by
        rw [e1]
        have hlt' : i.toNat < s.data.toList.length := (List.getElem?_eq_some_iff.1 hbl).1
        rw [List.drop_eq_getElem_cons hlt', List.take_succ_cons]
        congr 1
        exact (List.getElem?_eq_some_iff.1 hbl).2
      rw [hd, List.foldl_cons]
      have hst : 0 ≤ stepD n b ∧ stepD n b + 1 ≤ bnd c := by unfold stepD; split <;> omega
      obtain ⟨hev, hr⟩ := ih (stepD n b) (i + 1) (by omega) (by omega) hst.1 hst.2
      refine ⟨?_, hr⟩
      refine Ev.step (f := fun k => date_reader_number.j1 k x1 x2 n i true s) (fun k => ?_) (Ev.step (f := fun k => date_reader_number.l0 k x1 x2 (stepD n b) (i + 1) s) (fun k => ?_) hev)
      · simp only [date_reader_number.l0]
        rw [w64 (x := x1 + x2) (by omega) (by omega), if_pos hlt, decide_eq_true hs]
      · simp only [date_reader_number.j1, if_true]
        rw [if_pos (by omega), if_pos hs, hbt, w64 (x := i + 1) (by omega) (by omega)]
        unfold stepD
        by_cases c1 : (b.toNat : Int) ≥ 48
        · by_cases c2 : (b.toNat : Int) ≤ 57
          · rw [if_pos c1, if_pos c2, if_pos ⟨c1, c2⟩, w64 (x := 10 * n) (by omega) (by omega), w64 (by omega) (by omega)]
            congr 1
            omega
          · rw [if_pos c1, if_neg c2, if_neg (fun z => c2 z.2)]
        · rw [if_neg c1, if_neg (fun z => c1 z.1)]
    · have hd : (s.data.toList.drop i.toNat).take (c + 1) = [] := by
        have h9 : s.data.toList.length = s.size := by simp
        have : s.data.toList.length ≤ i.toNat := by omega
        rw [List.drop_eq_nil_of_le this]
        rfl
      rw [hd]
      refine ⟨?_, by simpa using hn, by have e0 : bnd 0 = 100000000 := rfl; rw [e0]; simp; omega⟩
      refine Ev.step (f := fun k => date_reader_number.j1 k x1 x2 n i false s) (fun k => ?_) (Ev.step (f := fun _ => some _) (fun k => ?_) (Ev.now _))
      · simp only [date_reader_number.l0]
        rw [w64 (x := x1 + x2) (by omega) (by omega), if_pos hlt, decide_eq_false hs]
      · simp only [date_reader_number.j1]
        simp
theorem num_ev (s : ByteArray) (i : Int) (sz : Nat) (h0 : 0 ≤ i) (h1 : i ≤ 1000000000000) (h2 : sz ≤ 4) :
    Ev (fun k => date_reader_number.f k s i sz) (numS s.data.toList i.toNat sz) ∧ 0 ≤ numS s.data.toList i.toNat sz ∧ numS s.data.toList i.toNat sz ≤ 99999999 := by
  have hb : (0 : Int) + 1 ≤ bnd sz := by
    match sz, h2 with
    | 0, _ | 1, _ | 2, _ | 3, _ | 4, _ => decide
  obtain ⟨a, b, c⟩ := num_l0 s i sz h0 h1 (by omega) (by omega) sz 0 i (by omega) (by omega) (by omega) hb
  have e0 : bnd 0 = 100000000 := rfl
  rw [e0] at c
  exact ⟨a, b, by unfold numS; omega⟩

/-! ### month -/
/-- A short month's number, -1 for another text. -/
def mIdx (x : List UInt8) : Int := Lib.idxOfS shortMonths (X.bytes x)
theorem idx_cases (x : ByteArray) : ∀ (zs : List ByteArray) (i : Nat), (Lib.idxFromS zs x i = -1 ∧ ∀ z ∈ zs, z ≠ x) ∨ ∃ k, k < zs.length ∧ Lib.idxFromS zs x i = ((i + k : Nat) : Int) ∧ zs[k]? = some x
  | [], i => .inl ⟨rfl, by simp⟩
  | z :: zs, i => by
    by_cases h : z = x
    · exact .inr ⟨0, by simp, by simp [Lib.idxFromS, h], by simp [h]⟩
    · rcases idx_cases x zs (i + 1) with ⟨h1, h2⟩ | ⟨k, hk, h1, h2⟩
      · exact .inl ⟨by simp [Lib.idxFromS, h, h1], by intro y hy; rcases List.mem_cons.1 hy with rfl | hy; exact h; exact h2 y hy⟩
      · exact .inr ⟨k + 1, by simp; omega, by simp only [Lib.idxFromS, if_neg h, h1]; omega, by simpa using h2⟩
theorem mIdx_cases (x : List UInt8) : mIdx x = -1 ∨ 0 ≤ mIdx x ∧ mIdx x < 12 ∧ x = m3 (mIdx x) := by
  unfold mIdx Lib.idxOfS
  rcases idx_cases (X.bytes x) shortMonths 0 with ⟨h, _⟩ | ⟨k, hk, h, hx⟩
  · exact .inl h
  · have hk' : k < 12 := hk
    rw [h]
    refine .inr ⟨by omega, by omega, ?_⟩
    unfold m3 shortMonth
    have e : ((0 + k : Nat) : Int).toNat = k := by omega
    rw [e, List.getD_eq_getElem?_getD, hx]
    simp [X.bytes]
theorem mIdx_m3 (m : Int) (h0 : 0 ≤ m) (h1 : m < 12) : mIdx (m3 m) = m := by
  obtain ⟨k, rfl⟩ := Int.eq_ofNat_of_zero_le h0
  match k, h1 with
  | 0, _ | 1, _ | 2, _ | 3, _ | 4, _ | 5, _ | 6, _ | 7, _ | 8, _ | 9, _ | 10, _ | 11, _ => decide
  | k + 12, h => omega
theorem m3_len (m : Int) (h0 : 0 ≤ m) (h1 : m < 12) : (m3 m).length = 3 := by
  have := shortMonth_size h0 h1
  unfold m3
  simpa using this
def monS (l : List UInt8) (at_ : Nat) : Int := if l.length < at_ + 3 then -1 else mIdx ((l.drop at_).take 3)
theorem month_f (s : ByteArray) (i : Int) (h0 : 0 ≤ i) (h1 : i ≤ 1000000000000) : date_reader_month.f s i = some (monS s.data.toList i.toNat) := by
  unfold date_reader_month.f monS
  have hl : s.data.toList.length = s.size := by simp
  rw [if_pos (by omega), hl]
  by_cases c : (s.size : Int) < i + 3
  · rw [if_pos c, if_pos (by omega)]
  · rw [if_neg c, if_neg (by omega)]
    unfold mIdx
    rw [eq_bytes s, extract_bytes, bytes_list]
    congr 4
    omega
theorem monS_hi (l : List UInt8) (i : Nat) : -1 ≤ monS l i ∧ monS l i < 12 := by
  unfold monS
  split
  · omega
  · rcases mIdx_cases ((l.drop i).take 3) with h | h <;> omega

/-! ### right, and one moment -/
theorem right_f (y mo d h mi s : Int) (hm : mo < 12) (hh : 0 ≤ h) (hmi : 0 ≤ mi) (hs : 0 ≤ s) : ∃ b, date_moment_right.f y mo d h mi s = some b ∧ (b = true ↔ Tm y mo d h mi s) := by
  unfold date_moment_right.f
  by_cases c1 : y ≥ 1970
  · rw [if_pos c1]
    by_cases c2 : y ≤ 9999
    · rw [if_pos c2]
      by_cases c3 : mo ≥ 0
      · rw [if_pos c3]
        by_cases c4 : d ≥ 1
        · rw [if_pos c4, length_f y mo (by omega)]
          simp only [Option.bind_some]
          by_cases c5 : d ≤ len y mo
          · rw [if_pos c5]
            by_cases c6 : h ≤ 23
            · rw [if_pos c6]
              by_cases c7 : mi ≤ 59
              · rw [if_pos c7]
                refine ⟨_, rfl, ?_⟩
                rw [decide_eq_true_iff]
                exact ⟨fun c8 => ⟨⟨c1, c2, c3, hm, c4, c5⟩, hh, c6, hmi, c7, hs, c8⟩, fun t => t.s1⟩
              · rw [if_neg c7]
                exact ⟨_, rfl, by simp; exact fun t => c7 t.mi1⟩
            · rw [if_neg c6]
              exact ⟨_, rfl, by simp; exact fun t => c6 t.h1⟩
          · rw [if_neg c5]
            exact ⟨_, rfl, by simp; exact fun t => c5 t.ok.d1⟩
        · rw [if_neg c4]
          exact ⟨_, rfl, by simp; exact fun t => c4 t.ok.d0⟩
      · rw [if_neg c3]
        exact ⟨_, rfl, by simp; exact fun t => c3 t.ok.m0⟩
    · rw [if_neg c2]
      exact ⟨_, rfl, by simp; exact fun t => c2 t.ok.y1⟩
  · rw [if_neg c1]
    exact ⟨_, rfl, by simp; exact fun t => c1 t.ok.y0⟩
/-- A text is one of a moment's three. -/
def Says (s : ByteArray) (y mo d h mi sc : Int) : Prop :=
  s = X.bytes (T1 y mo d h mi sc (wk y mo d)) ∨ s = X.bytes (T2 y mo d h mi sc (wk y mo d)) ∧ y < 2070 ∨ s = X.bytes (T3 y mo d h mi sc (wk y mo d))
/-- The end of one moment's trial. -/
def fin (a0 : ByteArray) (y mo d h mi s : Int) (t : Int) (z : Int × Int × Int × Int × Int × Int × Int) (a : ByteArray) : Option (Int × Int) :=
  if a0 = a then some (t, 0) else (date_late.f y mo d h mi s z.2.2.2.2.2.2).bind fun b => (date_plain.f y mo d h mi s z.2.2.2.2.2.2).bind fun c =>
        if (a0 = b ∧ 1970 ≤ y ∧ y < 2070) ∨ a0 = c then some (t, 0) else some (0, 80)
theorem one_ev (a0 : ByteArray) {y mo d h mi s : Int} (t : Tm y mo d h mi s) {r : Int × Int} (hr : fin a0 y mo d h mi s (sec y mo d h mi s) (y, mo, d, h, mi, s, wk y mo d) (X.bytes (T1 y mo d h mi s (wk y mo d))) = some r) :
    Ev (fun k => parseOne k a0 y mo d h mi s) r := by
  obtain ⟨b, hb, hbt⟩ := right_f y mo d h mi s t.ok.m1 t.h0 t.mi0 t.s0
  obtain rfl := hbt.2 t
  obtain ⟨h0, h1, hof⟩ := of_sec t
  have hsec : Ev (fun k => date_moment_seconds.f k y mo d h mi s) (sec y mo d h mi s) := sec_ev y mo d h mi s t.ok ⟨t.h0, t.h1⟩ ⟨t.mi0, t.mi1⟩ ⟨t.s0, t.s1⟩
  have htx := text_ev t (cl_id h0 h1)
  refine Ev.congr (f := fun k => (date_moment_seconds.f k y mo d h mi s).bind fun t => (date_of.f k t).bind fun z => (date_Text.f k t).bind fun a => fin a0 y mo d h mi s t z a) (fun k => ?_) ?_
  · simp only [parseOne, hb, Option.bind_some, if_true]
    rfl
  refine Ev.bind (f := fun k t => (date_of.f k t).bind fun z => (date_Text.f k t).bind fun a => fin a0 y mo d h mi s t z a) hsec ?_
  refine Ev.bind (f := fun k z => (date_Text.f k (sec y mo d h mi s)).bind fun a => fin a0 y mo d h mi s (sec y mo d h mi s) z a) hof ?_
  refine Ev.bind (f := fun k a => fin a0 y mo d h mi s (sec y mo d h mi s) (y, mo, d, h, mi, s, wk y mo d) a) htx ?_
  exact Ev.congr (fun k => hr) (Ev.now _)
theorem one_yes (a0 : ByteArray) {y mo d h mi s : Int} (t : Tm y mo d h mi s) (hs : Says a0 y mo d h mi s) : Ev (fun k => parseOne k a0 y mo d h mi s) (sec y mo d h mi s, 0) := by
  refine one_ev a0 t ?_
  unfold fin
  simp only
  rw [late_f t _ (wk0 y mo d), plain_f t _ (wk0 y mo d)]
  simp only [Option.bind_some]
  rcases hs with hs | ⟨hs, hy⟩ | hs
  · rw [if_pos hs]
  · split
    · rfl
    · rw [if_pos (.inl ⟨hs, t.ok.y0, hy⟩)]
  · split
    · rfl
    · rw [if_pos (.inr hs)]
theorem one_no (a0 : ByteArray) (y mo d h mi s : Int) (hm : mo < 12) (hh : 0 ≤ h) (hmi : 0 ≤ mi) (hs : 0 ≤ s) (hn : ¬ (Tm y mo d h mi s ∧ Says a0 y mo d h mi s)) : Ev (fun k => parseOne k a0 y mo d h mi s) (0, 80) := by
  by_cases t : Tm y mo d h mi s
  · refine one_ev a0 t ?_
    unfold fin
    simp only
    rw [late_f t _ (wk0 y mo d), plain_f t _ (wk0 y mo d)]
    simp only [Option.bind_some]
    rw [if_neg (fun e => hn ⟨t, .inl e⟩), if_neg (fun e => hn ⟨t, e.elim (fun e => .inr (.inl ⟨e.1, e.2.2⟩)) (fun e => .inr (.inr e))⟩)]
  · obtain ⟨b, hb, hbt⟩ := right_f y mo d h mi s hm hh hmi hs
    have hf : b = false := by cases b; rfl; exact absurd (hbt.1 rfl) t
    subst hf
    refine Ev.congr (fun k => ?_) (Ev.now _)
    simp only [parseOne, hb, Option.bind_some]
    simp
end Go.Proofs.YtcejglmmjbmafaaDoor.Pure
/- Plain Lean: what date.Parse makes of any text. -/
namespace Go.Proofs.YtcejglmmjbmafaaDoor.Pure
open Go.RowKit Go.Proofs.YtcejglmmjbmafaaDoor.X Go.Proofs.YtcejglmmjbmafaaDoor.Cal Go.Proofs.YtcejglmmjbmafaaDoorW.PrintWords Go.Proofs.YtcejglmmjbmafaaDoorW.PrintLast Go.Proofs.YtcejglmmjbmafaaDoorW.PrintMore
set_option linter.unusedVariables false
set_option linter.unusedSimpArgs false

theorem idx_hit : ∀ (l r : List UInt8), (∀ b ∈ l, b ≠ 44) → Lib.indexByte (l ++ 44 :: r) 44 = l.length
  | [], r, _ => by simp [Lib.indexByte]
  | b :: l, r, h => by
    have hb : b ≠ 44 := h b (by simp)
    have ih := idx_hit l r (fun x hx => h x (by simp [hx]))
    have hn : ((l.length : Int) == -1) = false := by simp
    simp only [List.cons_append, Lib.indexByte, ih, hn]
    simp [hb]
theorem idx_none : ∀ (l : List UInt8), (∀ b ∈ l, b ≠ 44) → Lib.indexByte l 44 = -1
  | [], _ => rfl
  | b :: l, h => by
    have hb : b ≠ 44 := h b (by simp)
    have ih := idx_none l (fun x hx => h x (by simp [hx]))
    simp [Lib.indexByte, hb, ih]
theorem idx_range : ∀ (l : List UInt8) (c : UInt8), -1 ≤ Lib.indexByte l c ∧ Lib.indexByte l c < (l.length : Int) 
  | [], _ => by simp [Lib.indexByte]
  | b :: l, c => by
    have ih := idx_range l c
    simp only [Lib.indexByte, List.length_cons]
    split
    · omega
    · split
      · omega
      · omega

/-- A year of two digits. -/
def yr (n : Int) : Int := if n + 1900 < 1970 then n + 2000 else n + 1900
/-- What is read ahead of the trial. -/
def candI (l : List UInt8) (i : Int) : S36 :=
  if i < 0 then ⟨numS l 20 4, monS l 4, numS l 8 2, numS l 11 2, numS l 14 2, numS l 17 2⟩
  else if i = 3 then ⟨numS l 12 4, monS l 8, numS l 5 2, numS l 17 2, numS l 20 2, numS l 23 2⟩
  else ⟨yr (numS l (i + 9).toNat 2), monS l (i + 5).toNat, numS l (i + 2).toNat 2, numS l (i + 12).toNat 2, numS l (i + 15).toNat 2, numS l (i + 18).toNat 2⟩
theorem numS_nn (l : List UInt8) (a sz : Nat) : 0 ≤ numS l a sz := by
  unfold numS
  have : ∀ (l : List UInt8) (n : Int), 0 ≤ n → 0 ≤ l.foldl stepD n := by
    intro l
    induction l with
    | nil => intro n h; exact h
    | cons b l ih => intro n h; exact ih _ (by unfold stepD; split <;> omega)
  exact this _ _ (by omega)
theorem num_e (s : ByteArray) (i : Int) (sz : Nat) (h0 : 0 ≤ i) (h1 : i ≤ 1000000000000) (h2 : sz ≤ 4) : Ev (fun k => date_reader_number.f k s i sz) (numS s.data.toList i.toNat sz) := (num_ev s i sz h0 h1 h2).1
theorem num_hi (s : ByteArray) (i : Int) (sz : Nat) (h0 : 0 ≤ i) (h1 : i ≤ 1000000000000) (h2 : sz ≤ 4) : numS s.data.toList i.toNat sz ≤ 99999999 := (num_ev s i sz h0 h1 h2).2.2
theorem clockE (s : ByteArray) (y mo d i : Int) (h0 : 0 ≤ i) (h1 : i ≤ 100000000000) :
    Ev (fun k => date_reader_clock.f k s y mo d 0 0 0 i) (y, mo, d, numS s.data.toList i.toNat 2, numS s.data.toList (i + 3).toNat 2, numS s.data.toList (i + 6).toNat 2) := by
  have e3 : wrap64 (i + 3) = i + 3 := w64 (by omega) (by omega)
  have e6 : wrap64 (i + 6) = i + 6 := w64 (by omega) (by omega)
  refine Ev.congr (f := fun k => (date_reader_number.f k s i 2).bind fun t105 => ((date_reader_number.f k s (i + 3) 2).bind fun t106 => ((date_reader_number.f k s (i + 6) 2).bind fun t107 => (some (y, mo, d, t105, t106, t107))))) (fun k => by simp only [date_reader_clock.f, e3, e6]) ?_
  refine Ev.bind (f := fun k t105 => ((date_reader_number.f k s (i + 3) 2).bind fun t106 => ((date_reader_number.f k s (i + 6) 2).bind fun t107 => (some (y, mo, d, t105, t106, t107))))) (num_e s i 2 h0 (by omega) (by omega)) ?_
  refine Ev.bind (f := fun k t106 => ((date_reader_number.f k s (i + 6) 2).bind fun t107 => (some (y, mo, d, numS s.data.toList i.toNat 2, t106, t107)))) (num_e s (i + 3) 2 (by omega) (by omega) (by omega)) ?_
  refine Ev.bind (f := fun k t107 => some (y, mo, d, numS s.data.toList i.toNat 2, numS s.data.toList (i + 3).toNat 2, t107)) (num_e s (i + 6) 2 (by omega) (by omega) (by omega)) (Ev.now _)
/-- A year, a month, a day and a clock, at four places. -/
theorem fourE (s : ByteArray) (y : Nat → Option Int) (Y m d c : Int) (hy : Ev y Y) (hm : 0 ≤ m) (hm1 : m ≤ 100000000000) (hd : 0 ≤ d) (hd1 : d ≤ 100000000000) (hc : 0 ≤ c) (hc1 : c ≤ 100000000000) :
    Ev (fun k => (y k).bind fun t1 => (date_reader_month.f s m).bind fun t2 => (date_reader_number.f k s d 2).bind fun t3 => (date_reader_clock.f k s t1 t2 t3 0 0 0 c).bind fun b => some [(⟨b.1, b.2.1, b.2.2.1, b.2.2.2.1, b.2.2.2.2.1, b.2.2.2.2.2⟩ : S36)])
      [⟨Y, monS s.data.toList m.toNat, numS s.data.toList d.toNat 2, numS s.data.toList c.toNat 2, numS s.data.toList (c + 3).toNat 2, numS s.data.toList (c + 6).toNat 2⟩] := by
  refine Ev.bind (f := fun k t1 => (date_reader_month.f s m).bind fun t2 => (date_reader_number.f k s d 2).bind fun t3 => (date_reader_clock.f k s t1 t2 t3 0 0 0 c).bind fun b => some [(⟨b.1, b.2.1, b.2.2.1, b.2.2.2.1, b.2.2.2.2.1, b.2.2.2.2.2⟩ : S36)]) hy ?_
  refine Ev.congr (f := fun k => (date_reader_number.f k s d 2).bind fun t3 => (date_reader_clock.f k s Y (monS s.data.toList m.toNat) t3 0 0 0 c).bind fun b => some [(⟨b.1, b.2.1, b.2.2.1, b.2.2.2.1, b.2.2.2.2.1, b.2.2.2.2.2⟩ : S36)]) (fun k => by rw [month_f s m hm (by omega)]; rfl) ?_
  refine Ev.bind (f := fun k t3 => (date_reader_clock.f k s Y (monS s.data.toList m.toNat) t3 0 0 0 c).bind fun b => some [(⟨b.1, b.2.1, b.2.2.1, b.2.2.2.1, b.2.2.2.2.1, b.2.2.2.2.2⟩ : S36)]) (num_e s d 2 hd (by omega) (by omega)) ?_
  refine Ev.bind (f := fun k b => some [(⟨b.1, b.2.1, b.2.2.1, b.2.2.2.1, b.2.2.2.2.1, b.2.2.2.2.2⟩ : S36)]) (clockE s Y (monS s.data.toList m.toNat) (numS s.data.toList d.toNat 2) c hc hc1) (Ev.now _)
theorem cand_ev (s : ByteArray) (hs : s.size ≤ 1000000000) : Ev (fun k => date_candidates.f k s) [candI s.data.toList (Lib.indexByte s.data.toList 44)] := by
  have hr := idx_range s.data.toList 44
  have hl : s.data.toList.length = s.size := by simp
  generalize hi : Lib.indexByte s.data.toList 44 = i at hr
  have hidx : strings_IndexByte.f s 44 = some i := by rw [← hi]; rfl
  unfold candI
  by_cases c1 : i < 0
  · rw [if_pos c1]
    refine Ev.congr (fun k => ?_) (fourE s (fun k => date_reader_number.f k s 20 4) _ 4 8 11 (num_e s 20 4 (by omega) (by omega) (by omega)) (by omega) (by omega) (by omega) (by omega) (by omega) (by omega))
    simp only [date_candidates.f, hidx, Option.bind_some]
    rw [if_pos c1]
  · by_cases c3 : i = 3
    · rw [if_neg c1, if_pos c3]
      refine Ev.congr (fun k => ?_) (fourE s (fun k => date_reader_number.f k s 12 4) _ 8 5 17 (num_e s 12 4 (by omega) (by omega) (by omega)) (by omega) (by omega) (by omega) (by omega) (by omega) (by omega))
      simp only [date_candidates.f, hidx, Option.bind_some]
      rw [if_neg c1, if_pos c3]
    · rw [if_neg c1, if_neg c3]
      have hn := numS_nn s.data.toList (i + 9).toNat 2
      have hh := num_hi s (i + 9) 2 (by omega) (by omega) (by omega)
      have hnum := num_e s (i + 9) 2 (by omega) (by omega) (by omega)
      have e2 : wrap64 (i + 2) = i + 2 := w64 (by omega) (by omega)
      have e5 : wrap64 (i + 5) = i + 5 := w64 (by omega) (by omega)
      have e9 : wrap64 (i + 9) = i + 9 := w64 (by omega) (by omega)
      have e12 : wrap64 (i + 12) = i + 12 := w64 (by omega) (by omega)
      have a1 : i + 12 + 3 = i + 15 := by omega
      have a2 : i + 12 + 6 = i + 18 := by omega
      have H := fourE s (fun _ => some (yr (numS s.data.toList (i + 9).toNat 2))) _ (i + 5) (i + 2) (i + 12) (Ev.now _) (by omega) (by omega) (by omega) (by omega) (by omega) (by omega)
      rw [a1, a2] at H
      refine Ev.congr (fun k => ?_) (Ev.bind (f := fun k _ => (some (yr (numS s.data.toList (i + 9).toNat 2))).bind fun t1 => (date_reader_month.f s (i + 5)).bind fun t2 => (date_reader_number.f k s (i + 2) 2).bind fun t3 => (date_reader_clock.f k s t1 t2 t3 0 0 0 (i + 12)).bind fun b => some [(⟨b.1, b.2.1, b.2.2.1, b.2.2.2.1, b.2.2.2.2.1, b.2.2.2.2.2⟩ : S36)]) hnum H)
      simp only [date_candidates.f, hidx, Option.bind_some, e2, e5, e9, e12]
      rw [if_neg c1, if_neg c3]
      rcases hq : date_reader_number.f k s (i + 9) 2 with _ | v
      · rfl
      · have hv : v = numS s.data.toList (i + 9).toNat 2 := by
          obtain ⟨K, hK⟩ := hnum
          have h1 := at_rounds (g := fun k => date_reader_number.f k s (i + 9) ((2 : Nat) : Int)) (fun k => date_reader_number.mono _ _ _ k) (Nat.le_max_left k K) hq
          have h2 := hK _ (Nat.le_max_right k K)
          exact Option.some.inj (h1.symm.trans h2)
        rw [hv]
        simp only [Option.bind_some]
        have w1 : wrap64 (numS s.data.toList (i + 9).toNat 2 + 1900) = numS s.data.toList (i + 9).toNat 2 + 1900 := w64 (by omega) (by omega)
        have w2 : wrap64 (numS s.data.toList (i + 9).toNat 2 + 1900 + 100) = numS s.data.toList (i + 9).toNat 2 + 2000 := by rw [w64 (by omega) (by omega)]; omega
        rw [w1, w2]
        unfold yr
        by_cases c4 : numS s.data.toList (i + 9).toNat 2 + 1900 < 1970
        · rw [if_pos c4, if_pos c4]
        · rw [if_neg c4, if_neg c4]
theorem cand_ok (l : List UInt8) (i : Int) : (candI l i).f1 < 12 ∧ 0 ≤ (candI l i).f3 ∧ 0 ≤ (candI l i).f4 ∧ 0 ≤ (candI l i).f5 := by
  unfold candI
  split
  · exact ⟨(monS_hi _ _).2, numS_nn _ _ _, numS_nn _ _ _, numS_nn _ _ _⟩
  · split
    · exact ⟨(monS_hi _ _).2, numS_nn _ _ _, numS_nn _ _ _, numS_nn _ _ _⟩
    · exact ⟨(monS_hi _ _).2, numS_nn _ _ _, numS_nn _ _ _, numS_nn _ _ _⟩
theorem parse_at (s : ByteArray) (hs : s.size ≤ 1000000000) {m : S36} (hm : candI s.data.toList (Lib.indexByte s.data.toList 44) = m) {r : Int × Int} (h : Ev (fun k => parseOne k s m.f0 m.f1 m.f2 m.f3 m.f4 m.f5) r) : Ev (fun k => date_Parse.f k s) r := by
  have hc := cand_ev s hs
  rw [hm] at hc
  exact Ev.bind (f := fun k l => match l with | [m] => parseOne k s m.f0 m.f1 m.f2 m.f3 m.f4 m.f5 | _ => none) hc h
/-- A text that is no time's is refused. -/
theorem parse_no (s : ByteArray) (hs : s.size ≤ 1000000000) (hn : ∀ y mo d h mi sc, Tm y mo d h mi sc → ¬ Says s y mo d h mi sc) : Ev (fun k => date_Parse.f k s) (0, 80) := by
  refine parse_at s hs rfl ?_
  obtain ⟨h1, h2, h3, h4⟩ := cand_ok s.data.toList (Lib.indexByte s.data.toList 44)
  exact one_no s _ _ _ _ _ _ h1 h2 h3 h4 (fun z => hn _ _ _ _ _ _ z.1 z.2)

/-! ### What is said is read -/
theorem stepD_dg (n x : Int) (h0 : 0 ≤ x) (h9 : x ≤ 9) : stepD n (dg x) = 10 * n + x := by
  unfold stepD
  rw [dg_nat h0 h9, if_pos (by omega)]
  omega
theorem stepD_32 (n : Int) : stepD n 32 = n := by
  unfold stepD
  rw [if_neg (by decide)]
theorem two_num (n : Int) (h0 : 0 ≤ n) (h1 : n ≤ 99) : (tw n).foldl stepD 0 = n := by
  simp only [tw, List.foldl_cons, List.foldl_nil]
  rw [stepD_dg _ _ (by omega) (by omega), stepD_dg _ _ (by omega) (by omega)]
  omega
theorem two_num' (n : Int) (h0 : 0 ≤ n) : (tw n).foldl stepD 0 = n % 100 := by
  simp only [tw, List.foldl_cons, List.foldl_nil]
  rw [stepD_dg _ _ (by omega) (by omega), stepD_dg _ _ (by omega) (by omega)]
  omega
theorem four_num (y : Int) (h0 : 0 ≤ y) (h1 : y ≤ 9999) : (tw (y / 100) ++ tw y).foldl stepD 0 = y := by
  simp only [tw, List.cons_append, List.nil_append, List.foldl_cons, List.foldl_nil]
  rw [stepD_dg _ _ (by omega) (by omega), stepD_dg _ _ (by omega) (by omega), stepD_dg _ _ (by omega) (by omega), stepD_dg _ _ (by omega) (by omega)]
  omega
theorem dg_ne (x : Int) (h0 : 0 ≤ x) (h9 : x ≤ 9) : dg x ≠ 44 := by
  intro h
  have := dg_nat h0 h9
  rw [h] at this
  simp at this
  omega
theorem tw_two (n : Int) : ∃ a b, tw n = [a, b] ∧ a ≠ 44 ∧ b ≠ 44 := ⟨_, _, rfl, dg_ne _ (by omega) (by omega), dg_ne _ (by omega) (by omega)⟩
theorem dl_two (d : Int) (h0 : 0 ≤ d) : ∃ a b, dl d = [a, b] ∧ a ≠ 44 ∧ b ≠ 44 := by
  unfold dl
  split
  · exact ⟨_, _, rfl, by decide, dg_ne _ h0 (by omega)⟩
  · exact tw_two d
theorem dl_num (d : Int) (h0 : 0 ≤ d) (h1 : d ≤ 99) : (dl d).foldl stepD 0 = d := by
  unfold dl
  split
  · simp only [List.foldl_cons, List.foldl_nil]
    rw [stepD_32, stepD_dg _ _ h0 (by omega)]
    omega
  · exact two_num d h0 h1
theorem sd_three (w : Int) (hw : 0 ≤ w ∧ w < 7) : ∃ a b c, sd w = [a, b, c] ∧ a ≠ 44 ∧ b ≠ 44 ∧ c ≠ 44 := by
  obtain ⟨h0, h1⟩ := hw
  obtain ⟨n, rfl⟩ := Int.eq_ofNat_of_zero_le h0
  match n, h1 with
  | 0, _ | 1, _ | 2, _ | 3, _ | 4, _ | 5, _ | 6, _ => exact ⟨_, _, _, rfl, by decide, by decide, by decide⟩
  | n + 7, h => omega
theorem m3_three (m : Int) (h0 : 0 ≤ m) (h1 : m < 12) : ∃ a b c, m3 m = [a, b, c] ∧ a ≠ 44 ∧ b ≠ 44 ∧ c ≠ 44 := by
  obtain ⟨n, rfl⟩ := Int.eq_ofNat_of_zero_le h0
  match n, h1 with
  | 0, _ | 1, _ | 2, _ | 3, _ | 4, _ | 5, _ | 6, _ | 7, _ | 8, _ | 9, _ | 10, _ | 11, _ => exact ⟨_, _, _, rfl, by decide, by decide, by decide⟩
  | n + 12, h => omega
theorem ld_ok (w : Int) (hw : 0 ≤ w ∧ w < 7) : 6 ≤ (ld w).length ∧ (ld w).length ≤ 9 ∧ ∀ b ∈ ld w, b ≠ 44 := by
  obtain ⟨h0, h1⟩ := hw
  obtain ⟨n, rfl⟩ := Int.eq_ofNat_of_zero_le h0
  match n, h1 with
  | 0, _ | 1, _ | 2, _ | 3, _ | 4, _ | 5, _ | 6, _ => exact ⟨by decide, by decide, by decide⟩
  | n + 7, h => omega
theorem numS_at (l r t : List UInt8) (a sz : Nat) (h : (l.drop a).take sz = r) {n : Int} (hr : r.foldl stepD 0 = n) : numS l a sz = n := by
  unfold numS
  rw [h, hr]
theorem monS_at (l : List UInt8) (m : Int) (a : Nat) (h0 : 0 ≤ m) (h1 : m < 12) (h : (l.drop a).take 3 = m3 m) : monS l a = m := by
  unfold monS
  have hl := congrArg List.length h
  rw [m3_len m h0 h1] at hl
  simp only [List.length_take, List.length_drop] at hl
  rw [if_neg (by omega), h, mIdx_m3 m h0 h1]
theorem cand_T1 {y mo d h mi s : Int} (t : Tm y mo d h mi s) (w : Int) (hw : 0 ≤ w ∧ w < 7) :
    candI (T1 y mo d h mi s w) (Lib.indexByte (T1 y mo d h mi s w) 44) = ⟨y, mo, d, h, mi, s⟩ := by
  obtain ⟨a, b, c, es, ha, hb, hc⟩ := sd_three w hw
  obtain ⟨p, q, r, em, _⟩ := m3_three mo t.ok.m0 t.ok.m1
  have hi : Lib.indexByte (T1 y mo d h mi s w) 44 = 3 := by
    have := idx_hit [a, b, c] (32 :: (tw d ++ [32] ++ m3 mo ++ [32] ++ tw (y / 100) ++ tw y ++ [32] ++ ck h mi s ++ [32, 71, 77, 84])) (by simp [ha, hb, hc])
    unfold T1
    rw [es]
    simpa using this
  have hd := t.d
  have n1 := four_num y (Int.le_trans (by decide) t.ok.y0) t.ok.y1
  have n2 := two_num d (by omega) (by omega)
  have n3 := two_num h t.h0 (Int.le_trans t.h1 (by decide))
  have n4 := two_num mi t.mi0 (Int.le_trans t.mi1 (by decide))
  have n5 := two_num s t.s0 (Int.le_trans t.s1 (by decide))
  have mm : monS (T1 y mo d h mi s w) 8 = mo := monS_at _ _ 8 t.ok.m0 t.ok.m1 (by
    obtain ⟨d1, d2, e1, _⟩ := tw_two d
    unfold T1
    rw [es, em, e1]
    rfl)
  rw [hi]
  unfold candI
  rw [if_neg (by decide), if_pos rfl, mm]
  unfold T1 ck
  obtain ⟨d1, d2, e1, _⟩ := tw_two d
  obtain ⟨d3, d4, e2, _⟩ := tw_two h
  obtain ⟨d5, d6, e3, _⟩ := tw_two mi
  obtain ⟨d7, d8, e4, _⟩ := tw_two s
  obtain ⟨d9, d10, e5, _⟩ := tw_two (y / 100)
  obtain ⟨d11, d12, e6, _⟩ := tw_two y
  rw [e5, e6] at n1
  rw [e1] at n2
  rw [e2] at n3
  rw [e3] at n4
  rw [e4] at n5
  rw [es, em, e1, e2, e3, e4, e5, e6]
  rw [numS_at _ ([d9, d10] ++ [d11, d12]) [] 12 4 rfl n1, numS_at _ [d1, d2] [] 5 2 rfl n2, numS_at _ [d3, d4] [] 17 2 rfl n3, numS_at _ [d5, d6] [] 20 2 rfl n4, numS_at _ [d7, d8] [] 23 2 rfl n5]
theorem cand_T3 {y mo d h mi s : Int} (t : Tm y mo d h mi s) (w : Int) (hw : 0 ≤ w ∧ w < 7) :
    candI (T3 y mo d h mi s w) (Lib.indexByte (T3 y mo d h mi s w) 44) = ⟨y, mo, d, h, mi, s⟩ := by
  obtain ⟨a, b, c, es, ha, hb, hc⟩ := sd_three w hw
  obtain ⟨p, q, r, em, hp, hq, hr⟩ := m3_three mo t.ok.m0 t.ok.m1
  have hd := t.d
  have n1 := four_num y (Int.le_trans (by decide) t.ok.y0) t.ok.y1
  have n2 := dl_num d (by omega) (by omega)
  have n3 := two_num h t.h0 (Int.le_trans t.h1 (by decide))
  have n4 := two_num mi t.mi0 (Int.le_trans t.mi1 (by decide))
  have n5 := two_num s t.s0 (Int.le_trans t.s1 (by decide))
  have mm : monS (T3 y mo d h mi s w) 4 = mo := monS_at _ _ 4 t.ok.m0 t.ok.m1 (by
    unfold T3
    rw [es, em]
    rfl)
  obtain ⟨d1, d2, e1, x1, x2⟩ := dl_two d (by omega)
  obtain ⟨d3, d4, e2, x3, x4⟩ := tw_two h
  obtain ⟨d5, d6, e3, x5, x6⟩ := tw_two mi
  obtain ⟨d7, d8, e4, x7, x8⟩ := tw_two s
  obtain ⟨d9, d10, e5, x9, x10⟩ := tw_two (y / 100)
  obtain ⟨d11, d12, e6, x11, x12⟩ := tw_two y
  have hi : Lib.indexByte (T3 y mo d h mi s w) 44 = -1 := by
    refine idx_none _ ?_
    unfold T3 ck
    rw [es, em, e1, e2, e3, e4, e5, e6]
    simp [ha, hb, hc, hp, hq, hr, x1, x2, x3, x4, x5, x6, x7, x8, x9, x10, x11, x12]
  rw [hi]
  unfold candI
  rw [if_pos (by decide), mm]
  unfold T3 ck
  rw [e5, e6] at n1
  rw [e1] at n2
  rw [e2] at n3
  rw [e3] at n4
  rw [e4] at n5
  rw [es, em, e1, e2, e3, e4, e5, e6]
  rw [numS_at _ ([d9, d10] ++ [d11, d12]) [] 20 4 rfl n1, numS_at _ [d1, d2] [] 8 2 rfl n2, numS_at _ [d3, d4] [] 11 2 rfl n3, numS_at _ [d5, d6] [] 14 2 rfl n4, numS_at _ [d7, d8] [] 17 2 rfl n5]
theorem drop_more (l r : List UInt8) (k : Nat) (n : Int) (hn : n = k) : (l ++ r).drop ((l.length : Int) + n).toNat = r.drop k := by
  have : ((l.length : Int) + n).toNat = l.length + k := by omega
  rw [this, List.drop_append]
  simp
theorem cand_T2 {y mo d h mi s : Int} (t : Tm y mo d h mi s) (hy : y < 2070) (w : Int) (hw : 0 ≤ w ∧ w < 7) :
    candI (T2 y mo d h mi s w) (Lib.indexByte (T2 y mo d h mi s w) 44) = ⟨y, mo, d, h, mi, s⟩ := by
  obtain ⟨hl0, hl1, hl⟩ := ld_ok w hw
  obtain ⟨p, q, r, em, _⟩ := m3_three mo t.ok.m0 t.ok.m1
  have hd := t.d
  have hy0 := t.ok.y0
  have n1 := two_num' y (by omega)
  have n2 := two_num d (by omega) (by omega)
  have n3 := two_num h t.h0 (Int.le_trans t.h1 (by decide))
  have n4 := two_num mi t.mi0 (Int.le_trans t.mi1 (by decide))
  have n5 := two_num s t.s0 (Int.le_trans t.s1 (by decide))
  obtain ⟨d1, d2, e1, _⟩ := tw_two d
  obtain ⟨d3, d4, e2, _⟩ := tw_two h
  obtain ⟨d5, d6, e3, _⟩ := tw_two mi
  obtain ⟨d7, d8, e4, _⟩ := tw_two s
  obtain ⟨d11, d12, e6, _⟩ := tw_two y
  rw [e6] at n1
  rw [e1] at n2
  rw [e2] at n3
  rw [e3] at n4
  rw [e4] at n5
  have e : T2 y mo d h mi s w = ld w ++ (44 :: 32 :: ([d1, d2] ++ [45] ++ [p, q, r] ++ [45] ++ [d11, d12] ++ [32] ++ ([d3, d4] ++ [58] ++ [d5, d6] ++ [58] ++ [d7, d8]) ++ [32, 71, 77, 84])) := by
    unfold T2 ck
    rw [em, e1, e2, e3, e4, e6]
    simp
  have hi : Lib.indexByte (T2 y mo d h mi s w) 44 = (ld w).length := by
    rw [e]
    exact idx_hit _ _ hl
  rw [hi, e]
  unfold candI
  rw [if_neg (by omega), if_neg (by omega)]
  have mm : monS (ld w ++ (44 :: 32 :: ([d1, d2] ++ [45] ++ [p, q, r] ++ [45] ++ [d11, d12] ++ [32] ++ ([d3, d4] ++ [58] ++ [d5, d6] ++ [58] ++ [d7, d8]) ++ [32, 71, 77, 84]))) (((ld w).length : Int) + 5).toNat = mo :=
    monS_at _ _ _ t.ok.m0 t.ok.m1 (by rw [em, drop_more _ _ 5 5 rfl]; rfl)
  rw [mm, numS_at _ [d11, d12] [] (((ld w).length : Int) + 9).toNat 2 (by rw [drop_more _ _ 9 9 rfl]; rfl) n1, numS_at _ [d1, d2] [] (((ld w).length : Int) + 2).toNat 2 (by rw [drop_more _ _ 2 2 rfl]; rfl) n2,
    numS_at _ [d3, d4] [] (((ld w).length : Int) + 12).toNat 2 (by rw [drop_more _ _ 12 12 rfl]; rfl) n3, numS_at _ [d5, d6] [] (((ld w).length : Int) + 15).toNat 2 (by rw [drop_more _ _ 15 15 rfl]; rfl) n4,
    numS_at _ [d7, d8] [] (((ld w).length : Int) + 18).toNat 2 (by rw [drop_more _ _ 18 18 rfl]; rfl) n5]
  have : yr (y % 100) = y := by unfold yr; split <;> omega
  rw [this]
theorem says_cand {a : ByteArray} {y mo d h mi s : Int} (t : Tm y mo d h mi s) (hs : Says a y mo d h mi s) : candI a.data.toList (Lib.indexByte a.data.toList 44) = ⟨y, mo, d, h, mi, s⟩ := by
  rcases hs with rfl | ⟨rfl, hy⟩ | rfl
  · rw [bytes_list]; exact cand_T1 t _ (wk0 _ _ _)
  · rw [bytes_list]; exact cand_T2 t hy _ (wk0 _ _ _)
  · rw [bytes_list]; exact cand_T3 t _ (wk0 _ _ _)
theorem says_size {a : ByteArray} {y mo d h mi s : Int} (t : Tm y mo d h mi s) (hs : Says a y mo d h mi s) : a.size ≤ 40 := by
  obtain ⟨a', b', c', es, _⟩ := sd_three _ (wk0 y mo d)
  obtain ⟨p, q, r, em, _⟩ := m3_three mo t.ok.m0 t.ok.m1
  obtain ⟨u, v, ed, _⟩ := dl_two d (Int.le_trans (by decide) t.d.1)
  obtain ⟨hl0, hl1, hl⟩ := ld_ok _ (wk0 y mo d)
  rcases hs with rfl | ⟨rfl, hy⟩ | rfl
  · simp [bytes_size, T1, es, em, tw, ck]
  · simp [bytes_size, T2, em, tw, ck]; omega
  · simp [bytes_size, T3, es, em, ed, tw, ck]
/-- A text of a time is read as that time. -/
theorem parse_yes {a : ByteArray} {y mo d h mi s : Int} (t : Tm y mo d h mi s) (hs : Says a y mo d h mi s) : Ev (fun k => date_Parse.f k a) (sec y mo d h mi s, 0) :=
  parse_at a (by have := says_size t hs; omega) (says_cand t hs) (one_yes a t hs)
/-- A text is of one moment alone. -/
theorem says_one {a : ByteArray} {y mo d h mi s y' mo' d' h' mi' s' : Int} (t : Tm y mo d h mi s) (hs : Says a y mo d h mi s) (t' : Tm y' mo' d' h' mi' s') (hs' : Says a y' mo' d' h' mi' s') :
    y = y' ∧ mo = mo' ∧ d = d' ∧ h = h' ∧ mi = mi' ∧ s = s' := by
  have e := (says_cand t hs).symm.trans (says_cand t' hs')
  simpa using e
theorem parse_no0 : Ev (fun k => date_Parse.f k (⟨#[]⟩ : ByteArray)) (0, 80) := by
  refine parse_no _ (by decide) ?_
  intro y mo d h mi s t hs
  obtain ⟨a', b', c', es, _⟩ := sd_three _ (wk0 y mo d)
  obtain ⟨hl0, hl1, hl⟩ := ld_ok _ (wk0 y mo d)
  rcases hs with hs | ⟨hs, hy⟩ | hs
  · have := congrArg ByteArray.size hs
    have e0 : (⟨#[]⟩ : ByteArray).size = 0 := rfl
    simp [bytes_size, T1, es] at this
    omega
  · have := congrArg ByteArray.size hs
    have e0 : (⟨#[]⟩ : ByteArray).size = 0 := rfl
    simp [bytes_size, T2, es] at this
    omega
  · have := congrArg ByteArray.size hs
    have e0 : (⟨#[]⟩ : ByteArray).size = 0 := rfl
    simp [bytes_size, T3, es] at this
    omega
/-- 'known' holds. -/
theorem known_ev : Ev (fun k => ambrylaw9_known.f k) true := by
  have t : Tm 1994 10 6 8 49 37 := ⟨⟨by decide, by decide, by decide, by decide, by decide, by decide⟩, by decide, by decide, by decide, by decide, by decide, by decide⟩
  have es : sec 1994 10 6 8 49 37 = 784111777 := by decide
  have p1 := parse_yes (a := (⟨#[83, 117, 110, 44, 32, 48, 54, 32, 78, 111, 118, 32, 49, 57, 57, 52, 32, 48, 56, 58, 52, 57, 58, 51, 55, 32, 71, 77, 84]⟩ : ByteArray)) t (.inl (by decide))
  have p2 := parse_yes (a := (⟨#[83, 117, 110, 100, 97, 121, 44, 32, 48, 54, 45, 78, 111, 118, 45, 57, 52, 32, 48, 56, 58, 52, 57, 58, 51, 55, 32, 71, 77, 84]⟩ : ByteArray)) t (.inr (.inl ⟨by decide, by decide⟩))
  have p3 := parse_yes (a := (⟨#[83, 117, 110, 32, 78, 111, 118, 32, 32, 54, 32, 48, 56, 58, 52, 57, 58, 51, 55, 32, 49, 57, 57, 52]⟩ : ByteArray)) t (.inr (.inr (by decide)))
  have p4 := parse_no0
  have p5 := text_ev t (x := 784111777) (by decide)
  rw [es] at p1 p2 p3
  obtain ⟨k1, h1⟩ := p1
  obtain ⟨k2, h2⟩ := p2
  obtain ⟨k3, h3⟩ := p3
  obtain ⟨k4, h4⟩ := p4
  obtain ⟨k5, h5⟩ := p5
  refine ⟨k1 + k2 + k3 + k4 + k5, fun k hk => ?_⟩
  have e1 := h1 k (by omega)
  have e2 := h2 k (by omega)
  have e3 := h3 k (by omega)
  have e4 := h4 k (by omega)
  have e5 := h5 k (by omega)
  simp only at e1 e2 e3 e4 e5
  simp only [ambrylaw9_known.f, e1, e2, e3, e4, Option.bind_some, e5, if_true, bytes_toList]
  have ew : wrap64 (wrap64 ((0 : Int) + 0) + 0) = 0 := by rw [w64 (x := (0 : Int) + 0) (by omega) (by omega), w64 (by omega) (by omega)]; rfl
  rw [if_pos ew]
  congr 1
end Go.Proofs.YtcejglmmjbmafaaDoor.Pure
