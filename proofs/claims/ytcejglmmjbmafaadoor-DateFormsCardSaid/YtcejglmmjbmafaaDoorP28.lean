/- Words and walks, joined by a program. -/
import Derived.Test.YtcejglmmjbmafaaDoorP22
import Derived.Test.YtcejglmmjbmafaaDoorP23
import Derived.Test.YtcejglmmjbmafaaDoorP24
import Derived.Test.YtcejglmmjbmafaaDoorP25
import Derived.Test.YtcejglmmjbmafaaDoorP27
import Derived.Lib.IndexBytes
/- Plain Lean: what the printed functions of dates come to, in the calendar's words. -/
namespace Go.Proofs.YtcejglmmjbmafaaDoor.Pure
open Go.RowKit Go.Proofs.YtcejglmmjbmafaaDoor.X Go.Proofs.YtcejglmmjbmafaaDoor.Cal Go.Proofs.YtcejglmmjbmafaaDoorW.PrintWords Go.Proofs.YtcejglmmjbmafaaDoorW.PrintLast Go.Proofs.YtcejglmmjbmafaaDoorW.PrintMore
set_option linter.unusedVariables false
set_option linter.unusedSimpArgs false

theorem tdiv_nn {a : Int} (b : Int) (h : 0 ≤ a) : Int.tdiv a b = a / b := Int.tdiv_eq_ediv_of_nonneg h
theorem tmod_nn {a : Int} (b : Int) (h : 0 ≤ a) : Int.tmod a b = a % b := Int.tmod_eq_emod_of_nonneg h

theorem days_f (y : Int) (h0 : 1970 ≤ y) (h1 : y ≤ 10000) : date_days.f y = some (dys y) := by
  unfold date_days.f
  have e : wrap64 (y - 1) = y - 1 := w64 (by omega) (by omega)
  rw [e, tdiv_nn 4 (by omega), tdiv_nn 100 (by omega), tdiv_nn 400 (by omega)]
  congr 1
  unfold dys wrap64
  omega
theorem ahead_f (y : Int) (h0 : 1970 ≤ y) (h1 : y ≤ 10000) : ambryref9_ahead.f y = some (dys y) := by
  unfold ambryref9_ahead.f
  have e : wrap64 (y - 1) = y - 1 := w64 (by omega) (by omega)
  rw [e, tdiv_nn 4 (by omega), tdiv_nn 100 (by omega), tdiv_nn 400 (by omega)]
  congr 1
  unfold dys wrap64
  omega
theorem length_f (y m : Int) (h0 : 0 ≤ y) : date_length.f y m = some (len y m) := by
  unfold date_length.f
  rw [tmod_nn 4 h0, tmod_nn 100 h0, tmod_nn 400 h0]
  unfold len lp
  by_cases c1 : m = 1
  · rw [if_pos c1, if_pos c1]
    by_cases a : y % 4 = 0 <;> by_cases b : y % 100 = 0 <;> by_cases c : y % 400 = 0 <;> simp [a, b, c]
  · rw [if_neg c1, if_neg c1]
    by_cases c3 : m = 3
    · simp [c3]
    by_cases c5 : m = 5
    · simp [c5]
    by_cases c8 : m = 8
    · simp [c8]
    by_cases c10 : m = 10
    · simp [c10]
    simp [c3, c5, c8, c10]
theorem leap_f (y : Int) (h0 : 0 ≤ y) : ambryref9_leap.f y = some (lp y == 1) := by
  unfold ambryref9_leap.f
  rw [tmod_nn 4 h0, tmod_nn 100 h0, tmod_nn 400 h0]
  unfold lp
  by_cases a : y % 4 = 0 <;> by_cases b : y % 100 = 0 <;> by_cases c : y % 400 = 0 <;> simp [a, b, c]
theorem rlength_f (y m : Int) (h0 : 0 ≤ y) (h1 : 1 ≤ m) (h2 : m ≤ 12) : ambryref9_length.f y m = some (len y (m - 1)) := by
  unfold ambryref9_length.f
  rw [leap_f y h0, w64 (x := m - 1) (by omega) (by omega)]
  simp only [Option.bind_some]
  obtain ⟨n, rfl⟩ : ∃ n : Nat, m = n + 1 := ⟨(m - 1).toNat, by omega⟩
  have e : ((n : Int) + 1 - 1) = n := by omega
  rw [e]
  have hn : n < 12 := by omega
  match n, hn with
  | 0, _ | 2, _ | 3, _ | 4, _ | 5, _ | 6, _ | 7, _ | 8, _ | 9, _ | 10, _ | 11, _ => rfl
  | 1, _ =>
    have := lp_01 y
    rcases this with h | h <;> simp [len, h, rd]
  | n + 12, h => omega

/-- The months' loop. -/
theorem of_l1 (n y h mi s : Int) (hy0 : 1970 ≤ y) (hy1 : y ≤ 9999) (hn : n < dys (y + 1)) (hn0 : 0 ≤ n) (hn1 : n ≤ 2932896) (c : Nat) : ∀ (m : Int), (c : Int) = 12 - m → 0 ≤ m → m < 12 → dys y + cum y m ≤ n →
    ∃ m' d, Ok y m' d ∧ num y m' d = n ∧ Ev (fun k => date_of.l1 k n (n - dys y - cum y m) y m 0 h mi s) (y, m', d, h, mi, s, (n + 4) % 7) := by
  induction c with
  | zero => intro m hc h0 h1; omega
  | succ c ih =>
    intro m hc h0 h1 hle
    have hs := cum_succ y m h0 h1
    have hl := len_lo y m
    have hh := len_hi y m
    have hb := cum_pos y m h0 (by omega)
    have hd0 : 0 ≤ dys y := by have := dys_le hy0; rw [dys_1970] at this; exact this
    by_cases hg : len y m ≤ n - dys y - cum y m
    · have hm : m + 1 < 12 := by
        by_cases e : m = 11
        · subst e
          have := cum_12 y
          have := dys_succ y
          have e12 : (11 : Int) + 1 = 12 := rfl
          rw [e12] at hs
          omega
        · omega
      obtain ⟨m', d, ho, hnum, hev⟩ := ih (m + 1) (by omega) (by omega) hm (by omega)
      refine ⟨m', d, ho, hnum, Ev.step (f := fun k => date_of.l1 k n (n - dys y - cum y (m + 1)) y (m + 1) 0 h mi s) (fun k => ?_) hev⟩
      simp only [date_of.l1, length_f y m (by omega), Option.bind_some]
      rw [if_pos hg, w64 (x := m + 1) (by omega) (by omega), w64 (by omega) (by omega), hs]
      congr 1
      omega
    · refine ⟨m, n - dys y - cum y m + 1, ⟨hy0, hy1, h0, h1, by omega, by omega⟩, by unfold num; omega, Ev.step (f := fun _ => some _) (fun k => ?_) (Ev.now _)⟩
      simp only [date_of.l1, length_f y m (by omega), Option.bind_some]
      rw [if_neg hg]
      simp only [date_weekday.f, Option.bind_some]
      rw [w64 (x := n + 4) (by omega) (by omega), tmod_nn 7 (by omega), w64 (by omega) (by omega)]
/-- The years' loop. -/
theorem of_l0 (n h mi s : Int) (hn0 : 0 ≤ n) (hn1 : n ≤ 2932896) (c : Nat) : ∀ (y : Int), (c : Int) = 10000 - y → 1970 ≤ y → y ≤ 9999 → dys y ≤ n →
    ∃ y' m' d, Ok y' m' d ∧ num y' m' d = n ∧ Ev (fun k => date_of.l0 k n y 0 0 h mi s) (y', m', d, h, mi, s, (n + 4) % 7) := by
  induction c with
  | zero => intro y hc h0 h1; omega
  | succ c ih =>
    intro y hc h0 h1 hle
    by_cases hg : dys (y + 1) ≤ n
    · have hm : y + 1 ≤ 9999 := by
        by_cases e : y = 9999
        · subst e
          have := dys_10000
          have e12 : (9999 : Int) + 1 = 10000 := rfl
          rw [e12] at hg
          omega
        · omega
      obtain ⟨y', m', d, ho, hnum, hev⟩ := ih (y + 1) (by omega) (by omega) hm hg
      refine ⟨y', m', d, ho, hnum, Ev.step (f := fun k => date_of.l0 k n (y + 1) 0 0 h mi s) (fun k => ?_) hev⟩
      simp only [date_of.l0]
      rw [w64 (x := y + 1) (by omega) (by omega), days_f (y + 1) (by omega) (by omega)]
      simp only [Option.bind_some]
      rw [if_pos hg]
    · obtain ⟨m', d, ho, hnum, hev⟩ := of_l1 n y h mi s h0 h1 (by omega) hn0 hn1 12 0 (by omega) (by omega) (by omega) (by rw [cum_0]; omega)
      refine ⟨y, m', d, ho, hnum, Ev.step (f := fun k => date_of.l1 k n (n - dys y - cum y 0) y 0 0 h mi s) (fun k => ?_) hev⟩
      simp only [date_of.l0]
      rw [w64 (x := y + 1) (by omega) (by omega), days_f (y + 1) (by omega) (by omega), days_f y h0 (by omega)]
      simp only [Option.bind_some]
      have hd0 : 0 ≤ dys y := by have := dys_le h0; rw [dys_1970] at this; exact this
      rw [if_neg hg, cum_0, w64 (by omega) (by omega)]
      congr 1
      omega
theorem guess (n : Int) (h0 : 0 ≤ n) : dys (1970 + n / 366) ≤ n := by unfold dys; omega
theorem guess_hi (n : Int) (h0 : 0 ≤ n) (h1 : n ≤ 2932896) : 1970 + n / 366 ≤ 9999 := by omega

/-- 'of': a time's parts. -/
theorem of_ev (t : Int) (h0 : 0 ≤ t) (h1 : t ≤ 253402300799) :
    ∃ y m d, Ok y m d ∧ num y m d = t / 86400 ∧ Ev (fun k => date_of.f k t) (y, m, d, t % 86400 / 3600, t % 86400 / 60 % 60, t % 60, (t / 86400 + 4) % 7) := by
  obtain ⟨y, m, d, ho, hn, hev⟩ := of_l0 (t / 86400) (t % 86400 / 3600) (t % 86400 / 60 % 60) (t % 60) (by omega) (by omega) (10000 - (1970 + t / 86400 / 366)).toNat (1970 + t / 86400 / 366) (by omega) (by omega) (by omega) (guess _ (by omega))
  refine ⟨y, m, d, ho, hn, Ev.congr (fun k => ?_) hev⟩
  simp only [date_of.f]
  rw [tdiv_nn 86400 h0, tmod_nn 86400 h0, tmod_nn 60 h0, tdiv_nn 3600 (by omega), tdiv_nn 60 (a := t % 86400) (by omega), w64 (x := t / 86400) (by omega) (by omega), tdiv_nn 366 (by omega), w64 (x := t / 86400 / 366) (by omega) (by omega), w64 (by omega) (by omega), w64 (x := t % 86400 / 3600) (by omega) (by omega), w64 (x := t % 86400 / 60) (by omega) (by omega), tmod_nn 60 (by omega)]

/-- 'seconds'. -/
theorem sec_l0 (y mo d h mi s : Int) (hy0 : 1970 ≤ y) (hy1 : y ≤ 9999) (hm0 : 0 ≤ mo) (hm1 : mo < 12) (hh : 0 ≤ h ∧ h ≤ 23) (hmi : 0 ≤ mi ∧ mi ≤ 59) (hs : 0 ≤ s ∧ s ≤ 59) (a : Int) (ha0 : 0 ≤ a) (ha1 : a ≤ 4000000) (c : Nat) : ∀ i : Int, (c : Int) = mo - i → 0 ≤ i → i ≤ mo →
    Ev (fun k => date_moment_seconds.l0 k (a + cum y i) mo i y mo d h mi s) ((a + cum y mo) * 86400 + h * 3600 + mi * 60 + s) := by
  induction c with
  | zero =>
    intro i hc h0 h1
    obtain rfl : i = mo := by omega
    refine Ev.step (f := fun _ => some _) (fun k => ?_) (Ev.now _)
    simp only [date_moment_seconds.l0]
    have hb := cum_pos y i h0 (by omega)
    rw [if_neg (by omega), w64 (x := (a + cum y i) * 86400) (by omega) (by omega), w64 (x := h * 3600) (by omega) (by omega), w64 (x := mi * 60) (by omega) (by omega), w64 (x := h * 3600 + mi * 60) (by omega) (by omega), w64 (x := h * 3600 + mi * 60 + s) (by omega) (by omega), w64 (by omega) (by omega)]
    congr 1
    omega
  | succ c ih =>
    intro i hc h0 h1
    have hb := cum_pos y i h0 (by omega)
    have hs := cum_succ y i h0 (by omega)
    have hh := len_hi y i
    have hl := len_lo y i
    refine Ev.step (f := fun k => date_moment_seconds.l0 k (a + cum y (i + 1)) mo (i + 1) y mo d h mi s) (fun k => ?_) (ih (i + 1) (by omega) (by omega) (by omega))
    simp only [date_moment_seconds.l0]
    rw [if_pos (by omega), length_f y i (by omega)]
    simp only [Option.bind_some]
    rw [w64 (x := i + 1) (by omega) (by omega), w64 (by omega) (by omega), hs]
    congr 1
    omega
theorem sec_ev (y mo d h mi s : Int) (ho : Ok y mo d) (hh : 0 ≤ h ∧ h ≤ 23) (hmi : 0 ≤ mi ∧ mi ≤ 59) (hs : 0 ≤ s ∧ s ≤ 59) :
    Ev (fun k => date_moment_seconds.f k y mo d h mi s) (num y mo d * 86400 + h * 3600 + mi * 60 + s) := by
  have hd0 : 0 ≤ dys y := by have := dys_le ho.y0; rw [dys_1970] at this; exact this
  have hd1 : dys y ≤ 2932897 := by have := dys_le (show y ≤ 10000 by have := ho.y1; omega); rw [dys_10000] at this; exact this
  have hl := len_hi y mo
  have hev := sec_l0 y mo d h mi s ho.y0 ho.y1 ho.m0 ho.m1 hh hmi hs (dys y + d - 1) (by have := ho.d0; omega) (by have := ho.d1; omega) mo.toNat 0 (by have := ho.m0; omega) (by omega) ho.m0
  have e : dys y + d - 1 + cum y mo = num y mo d := by unfold num; omega
  rw [e] at hev
  refine Ev.congr (fun k => ?_) hev
  simp only [date_moment_seconds.f, days_f y ho.y0 (by have := ho.y1; omega), Option.bind_some]
  have := ho.d0; have := ho.d1
  rw [w64 (x := dys y + d) (by omega) (by omega), w64 (by omega) (by omega), cum_0]
  congr 1
  omega
end Go.Proofs.YtcejglmmjbmafaaDoor.Pure
/- Plain Lean: the three forms of a time's text, as lists of bytes; what the printed functions write. -/
namespace Go.Proofs.YtcejglmmjbmafaaDoor.Pure
open Go.RowKit Go.Proofs.YtcejglmmjbmafaaDoor.X Go.Proofs.YtcejglmmjbmafaaDoor.Cal Go.Proofs.YtcejglmmjbmafaaDoorW.PrintWords Go.Proofs.YtcejglmmjbmafaaDoorW.PrintLast Go.Proofs.YtcejglmmjbmafaaDoorW.PrintMore
set_option linter.unusedVariables false
set_option linter.unusedSimpArgs false

theorem bytes_append (a b : List UInt8) : X.bytes a ++ X.bytes b = X.bytes (a ++ b) := by
  apply ByteArray.ext
  simp [X.bytes]
theorem bytes_size (a : List UInt8) : (X.bytes a).size = a.length := rfl
theorem bytes_inj {a b : List UInt8} (h : X.bytes a = X.bytes b) : a = b := by
  have := congrArg (fun x : ByteArray => x.data.toList) h
  simpa [X.bytes] using this
theorem eq_bytes (s : ByteArray) : s = X.bytes s.data.toList := by
  apply ByteArray.ext
  simp [X.bytes]
theorem bytes_list (l : List UInt8) : (X.bytes l).data.toList = l := by simp [X.bytes]
theorem bytes_toList (l : List UInt8) : (X.bytes l).toList = l := by rw [ByteArray.toList_eq, bytes_list]
theorem bt_bytes (l : List UInt8) (i : Nat) (h : i < l.length) : bt (X.bytes l) i = ((l[i]).toNat : Int) := by
  have h' : i < (X.bytes l).size := h
  rw [← bt_at (X.bytes l) (i : Int) (by simpa using h')]
  rfl
theorem extract_bytes (l : List UInt8) (a b : Nat) : (X.bytes l).extract a b = X.bytes ((l.drop a).take (b - a)) := by
  apply ByteArray.ext
  simp [X.bytes, ByteArray.data_extract]

/-- A digit's byte. -/
def dg (n : Int) : UInt8 := UInt8.ofNat (48 + n.toNat)
theorem dg_nat {n : Int} (h0 : 0 ≤ n) (h9 : n ≤ 9) : ((dg n).toNat : Int) = 48 + n := by
  unfold dg
  rw [UInt8.toNat_ofNat']
  omega
/-- Two digits. -/
def tw (n : Int) : List UInt8 := [dg (n / 10 % 10), dg (n % 10)]
theorem itoa_f (n : Int) (h0 : 0 ≤ n) (h9 : n < 10) : strconv_Itoa.f n = some (X.bytes [dg n]) := by
  unfold strconv_Itoa.f
  rw [if_pos (by omega)]
  unfold Lib.decDigits
  rw [dif_pos (by omega)]
  rfl
theorem two_f (n : Int) (h0 : 0 ≤ n) (h1 : n ≤ 1000000) : date_two.f n = some (X.bytes (tw n)) := by
  unfold date_two.f
  rw [tdiv_nn 10 h0, w64 (x := n / 10) (by omega) (by omega), tmod_nn 10 (by omega), tmod_nn 10 h0, itoa_f _ (by omega) (by omega), itoa_f _ (by omega) (by omega)]
  simp only [Option.bind_some]
  rw [if_pos (by simp [bytes_size]), bytes_append]
  rfl
theorem digits10 (n : Int) (h0 : 0 ≤ n) (h9 : n < 10) : (⟨#[48, 49, 50, 51, 52, 53, 54, 55, 56, 57]⟩ : ByteArray).extract n.toNat (n + 1).toNat = X.bytes [dg n] := by
  obtain ⟨k, rfl⟩ := Int.eq_ofNat_of_zero_le h0
  match k, h9 with
  | 0, _ | 1, _ | 2, _ | 3, _ | 4, _ | 5, _ | 6, _ | 7, _ | 8, _ | 9, _ => decide
  | k + 10, h => omega
theorem rtwo_f (n : Int) (h0 : 0 ≤ n) (h1 : n ≤ 1000000) : ambryref9_two.f n = some (X.bytes (tw n)) := by
  unfold ambryref9_two.f
  rw [tdiv_nn 10 h0, w64 (x := n / 10) (by omega) (by omega), tmod_nn 10 (by omega), tmod_nn 10 h0, w64 (x := n / 10 % 10 + 1) (by omega) (by omega), w64 (x := n % 10 + 1) (by omega) (by omega), digits10 _ (by omega) (by omega), digits10 _ (by omega) (by omega), bytes_append]
  rw [if_pos (by omega), if_pos (by omega), if_pos (by omega), if_pos (by omega), if_pos (by omega), if_pos (by omega), if_pos (by simp [bytes_size])]
  rfl
/-- A time of day. -/
def ck (h mi s : Int) : List UInt8 := tw h ++ [58] ++ tw mi ++ [58] ++ tw s
theorem lit_bytes (l : List UInt8) : (⟨l.toArray⟩ : ByteArray) = X.bytes l := rfl
theorem clock_f (y mo d h mi s : Int) (hh : 0 ≤ h ∧ h ≤ 23) (hmi : 0 ≤ mi ∧ mi ≤ 59) (hs : 0 ≤ s ∧ s ≤ 59) : date_moment_clock.f y mo d h mi s = some (X.bytes (ck h mi s)) := by
  unfold date_moment_clock.f
  rw [two_f h hh.1 (by omega), two_f mi hmi.1 (by omega), two_f s hs.1 (by omega)]
  simp only [Option.bind_some, lit_bytes, bytes_append]
  rw [if_pos (by simp [bytes_size, tw]), if_pos (by simp [bytes_size, tw]), if_pos (by simp [bytes_size, tw]), if_pos (by simp [bytes_size, tw])]
  rfl
/-- Names. -/
def ld (w : Int) : List UInt8 := (longDay w).data.toList
def sd (w : Int) : List UInt8 := (ld w).take 3
def m3 (m : Int) : List UInt8 := (shortMonth m).data.toList
theorem ld_f (w : Int) : longDay w = X.bytes (ld w) := eq_bytes _
theorem sd_f (w : Int) : (longDay w).extract 0 3 = X.bytes (sd w) := by rw [ld_f, extract_bytes]; rfl
theorem m3_f (m : Int) : shortMonth m = X.bytes (m3 m) := eq_bytes _
/-- A day's number, a blank ahead of one digit. -/
def dl (d : Int) : List UInt8 := if d < 10 then [32, dg d] else tw d
/-- The three forms. -/
def T1 (y mo d h mi s w : Int) : List UInt8 := sd w ++ [44, 32] ++ tw d ++ [32] ++ m3 mo ++ [32] ++ tw (y / 100) ++ tw y ++ [32] ++ ck h mi s ++ [32, 71, 77, 84]
def T2 (y mo d h mi s w : Int) : List UInt8 := ld w ++ [44, 32] ++ tw d ++ [45] ++ m3 mo ++ [45] ++ tw y ++ [32] ++ ck h mi s ++ [32, 71, 77, 84]
def T3 (y mo d h mi s w : Int) : List UInt8 := sd w ++ [32] ++ m3 mo ++ [32] ++ dl d ++ [32] ++ ck h mi s ++ [32] ++ tw (y / 100) ++ tw y
/-- A time's parts that may be. -/
structure Tm (y mo d h mi s : Int) : Prop where
  ok : Ok y mo d
  h0 : 0 ≤ h
  h1 : h ≤ 23
  mi0 : 0 ≤ mi
  mi1 : mi ≤ 59
  s0 : 0 ≤ s
  s1 : s ≤ 59
/-- Its seconds, its day of the week. -/
def sec (y mo d h mi s : Int) : Int := num y mo d * 86400 + h * 3600 + mi * 60 + s
def wk (y mo d : Int) : Int := (num y mo d + 4) % 7
theorem wk0 (y mo d : Int) : 0 ≤ wk y mo d ∧ wk y mo d < 7 := by unfold wk; omega
theorem Tm.d {y mo d h mi s : Int} (t : Tm y mo d h mi s) : 1 ≤ d ∧ d ≤ 31 := ⟨t.ok.d0, Int.le_trans t.ok.d1 (len_hi _ _)⟩
theorem text1_f {y mo d h mi s : Int} (t : Tm y mo d h mi s) (w : Int) (hw : 0 ≤ w ∧ w < 7) : text1 y mo d h mi s w = some (X.bytes (T1 y mo d h mi s w)) := by
  have := t.ok.y0; have := t.ok.y1; have hd := t.d
  unfold text1
  rw [if_pos ⟨hw.1, hw.2, t.ok.m0, t.ok.m1⟩, tdiv_nn 100 (by omega), w64 (x := y / 100) (by omega) (by omega), two_f d (by omega) (by omega), two_f (y / 100) (by omega) (by omega), two_f y (by omega) (by omega), clock_f y mo d h mi s ⟨t.h0, t.h1⟩ ⟨t.mi0, t.mi1⟩ ⟨t.s0, t.s1⟩]
  simp only [Option.bind_some, sd_f, m3_f, bytes_append]
  rfl
theorem late_f {y mo d h mi s : Int} (t : Tm y mo d h mi s) (w : Int) (hw : 0 ≤ w ∧ w < 7) : date_late.f y mo d h mi s w = some (X.bytes (T2 y mo d h mi s w)) := by
  have := t.ok.y0; have := t.ok.y1; have hd := t.d
  unfold date_late.f
  rw [if_pos ⟨hw.1, hw.2, t.ok.m0, t.ok.m1⟩, two_f d (by omega) (by omega), two_f y (by omega) (by omega), clock_f y mo d h mi s ⟨t.h0, t.h1⟩ ⟨t.mi0, t.mi1⟩ ⟨t.s0, t.s1⟩]
  simp only [Option.bind_some, ld_f, m3_f, bytes_append]
  rfl
theorem dayOf_f (d : Int) (h0 : 1 ≤ d) (h1 : d ≤ 31) : dayOf d (X.bytes (tw d)) = X.bytes (dl d) := by
  unfold dayOf dl
  split
  · rw [extract_bytes, bytes_append]
    have e : d % 10 = d := by omega
    simp [tw, e]
  · rfl
theorem plain_f {y mo d h mi s : Int} (t : Tm y mo d h mi s) (w : Int) (hw : 0 ≤ w ∧ w < 7) : date_plain.f y mo d h mi s w = some (X.bytes (T3 y mo d h mi s w)) := by
  have := t.ok.y0; have := t.ok.y1; have hd := t.d
  unfold date_plain.f
  rw [if_pos ⟨hw.1, hw.2, t.ok.m0, t.ok.m1⟩, tdiv_nn 100 (by omega), w64 (x := y / 100) (by omega) (by omega), two_f d (by omega) (by omega), two_f (y / 100) (by omega) (by omega), two_f y (by omega) (by omega), clock_f y mo d h mi s ⟨t.h0, t.h1⟩ ⟨t.mi0, t.mi1⟩ ⟨t.s0, t.s1⟩]
  simp only [Option.bind_some, sd_f, m3_f, bytes_append, dayOf_f d hd.1 hd.2]
  rfl
/-- A time within the limits. -/
def cl (t : Int) : Int := mn (mx t 0) 253402300799
theorem cl_lo (t : Int) : 0 ≤ cl t ∧ cl t ≤ 253402300799 := by unfold cl mn mx; split <;> split <;> omega
theorem cl_id {t : Int} (h0 : 0 ≤ t) (h1 : t ≤ 253402300799) : cl t = t := by unfold cl mn mx; split <;> split <;> omega
/-- Every time within the limits has its parts. -/
theorem parts (t : Int) (h0 : 0 ≤ t) (h1 : t ≤ 253402300799) :
    ∃ y mo d, Tm y mo d (t % 86400 / 3600) (t % 86400 / 60 % 60) (t % 60) ∧ sec y mo d (t % 86400 / 3600) (t % 86400 / 60 % 60) (t % 60) = t ∧ num y mo d = t / 86400 ∧
      Ev (fun k => date_of.f k t) (y, mo, d, t % 86400 / 3600, t % 86400 / 60 % 60, t % 60, wk y mo d) := by
  obtain ⟨y, mo, d, ho, hn, hev⟩ := of_ev t h0 h1
  refine ⟨y, mo, d, ⟨ho, by omega, by omega, by omega, by omega, by omega, by omega⟩, by unfold sec; rw [hn]; omega, hn, ?_⟩
  unfold wk
  rw [hn]
  exact hev
/-- What 'of' makes of a time's seconds. -/
theorem of_sec {y mo d h mi s : Int} (t : Tm y mo d h mi s) : 0 ≤ sec y mo d h mi s ∧ sec y mo d h mi s ≤ 253402300799 ∧ Ev (fun k => date_of.f k (sec y mo d h mi s)) (y, mo, d, h, mi, s, wk y mo d) := by
  have hb := t.ok.bound
  have := t.h0; have := t.h1; have := t.mi0; have := t.mi1; have := t.s0; have := t.s1
  have hs0 : 0 ≤ sec y mo d h mi s := by unfold sec; omega
  have hs1 : sec y mo d h mi s ≤ 253402300799 := by unfold sec; omega
  refine ⟨hs0, hs1, ?_⟩
  obtain ⟨y', mo', d', t', hs', hn', hev⟩ := parts _ hs0 hs1
  have hn : num y' mo' d' = num y mo d := by rw [hn']; unfold sec; omega
  obtain ⟨rfl, rfl, rfl⟩ := num_inj t'.ok t.ok hn
  have e1 : sec y' mo' d' h mi s % 86400 / 3600 = h := by unfold sec; omega
  have e2 : sec y' mo' d' h mi s % 86400 / 60 % 60 = mi := by unfold sec; omega
  have e3 : sec y' mo' d' h mi s % 60 = s := by unfold sec; omega
  rw [e1, e2, e3] at hev
  exact hev
/-- 'Text' of a time. -/
theorem text_ev {y mo d h mi s : Int} (t : Tm y mo d h mi s) {x : Int} (hx : cl x = sec y mo d h mi s) : Ev (fun k => date_Text.f k x) (X.bytes (T1 y mo d h mi s (wk y mo d))) := by
  obtain ⟨h0, h1, hev⟩ := of_sec t
  refine Ev.congr (fun k => ?_) (Ev.bind hev (f := fun k z => text1 z.1 z.2.1 z.2.2.1 z.2.2.2.1 z.2.2.2.2.1 z.2.2.2.2.2.1 z.2.2.2.2.2.2) (Ev.congr (fun k => text1_f t _ (wk0 y mo d)) (Ev.now _)))
  simp only [date_Text.f]
  rw [show mn (mx x 0) 253402300799 = sec y mo d h mi s from hx]
end Go.Proofs.YtcejglmmjbmafaaDoor.Pure
-- printed by a program (xp.py, over the kit's print); Lean checks it
namespace Go.Proofs.YtcejglmmjbmafaaDoor.X
open Go.RowKit Go.Proofs.YtcejglmmjbmafaaDoorW.PrintWords Go.Proofs.YtcejglmmjbmafaaDoorW.PrintLast Go.Proofs.YtcejglmmjbmafaaDoorW.PrintMore
attribute [local go_sem] max2_int min2_int max_two min_two max_three min_three max_four min_four   -- for this text's walks alone
set_option linter.unusedVariables false
set_option linter.unusedSimpArgs false

/-! ### date_reader_number: function 39 -/
mutual
def date_reader_number.l0 : Nat → Int → Int → Int → Int → ByteArray → Option (Int)
  | 0, _, _, _, _, _ => none
  | k + 1, x1, x2, x7, x8, x102000 => if x8 < (wrap64 (x1 + x2)) then (date_reader_number.j1 k x1 x2 x7 x8 (decide (x8 < (x102000.size : Int))) x102000) else (date_reader_number.j1 k x1 x2 x7 x8 false x102000)
def date_reader_number.j1 : Nat → Int → Int → Int → Int → Bool → ByteArray → Option (Int)
  | 0, _, _, _, _, _, _ => none
  | k + 1, x1, x2, x7, x8, x22, x102000 => if x22 = true then (if 0 ≤ x8 then (if x8 < (x102000.size : Int) then (if (bt x102000 x8) ≥ 48 then (if (bt x102000 x8) ≤ 57 then (date_reader_number.l0 k x1 x2 (wrap64 ((wrap64 (10 * x7)) + (((bt x102000 x8) - 48) % 256))) (wrap64 (x8 + 1)) x102000) else (date_reader_number.l0 k x1 x2 x7 (wrap64 (x8 + 1)) x102000)) else (date_reader_number.l0 k x1 x2 x7 (wrap64 (x8 + 1)) x102000)) else (none)) else (none)) else (some x7)
end
def date_reader_number.f (k : Nat) (a0_0 : ByteArray) (a1 : Int) (a2 : Int) : Option (Int) := date_reader_number.l0 k a1 a2 0 a1 a0_0
theorem date_reader_number.mono_l : ∀ k, (∀ y0 y1 y2 y3 y4, LeO (date_reader_number.l0 k y0 y1 y2 y3 y4) (date_reader_number.l0 (k + 1) y0 y1 y2 y3 y4)) ∧ (∀ y0 y1 y2 y3 y4 y5, LeO (date_reader_number.j1 k y0 y1 y2 y3 y4 y5) (date_reader_number.j1 (k + 1) y0 y1 y2 y3 y4 y5))
  | 0 => ⟨fun _ _ _ _ _ r h => by simp [date_reader_number.l0] at h, fun _ _ _ _ _ _ r h => by simp [date_reader_number.j1] at h⟩
  | k + 1 => by
    obtain ⟨ih0, ih1⟩ := date_reader_number.mono_l k
    refine ⟨?_, ?_⟩
    · intro y0 y1 y2 y3 y4
      unfold date_reader_number.l0
      repeat' first
      | (with_reducible exact ih0 _ _ _ _ _)
      | (with_reducible exact ih1 _ _ _ _ _ _)
      | (with_reducible exact LeO.refl _)
      | (with_reducible exact LeO.none _)
      | (with_reducible refine LeO.ite ?_ ?_)
      | (with_reducible refine LeO.bind ?_ (fun _ => ?_))
      | exact ih0 _ _ _ _ _
      | exact ih1 _ _ _ _ _ _
      | exact LeO.none _
      | refine LeO.ite ?_ ?_
      | refine LeO.bind ?_ (fun _ => ?_)
    · intro y0 y1 y2 y3 y4 y5
      unfold date_reader_number.j1
      repeat' first
      | (with_reducible exact ih0 _ _ _ _ _)
      | (with_reducible exact ih1 _ _ _ _ _ _)
      | (with_reducible exact LeO.refl _)
      | (with_reducible exact LeO.none _)
      | (with_reducible refine LeO.ite ?_ ?_)
      | (with_reducible refine LeO.bind ?_ (fun _ => ?_))
      | exact ih0 _ _ _ _ _
      | exact ih1 _ _ _ _ _ _
      | exact LeO.none _
      | refine LeO.ite ?_ ?_
      | refine LeO.bind ?_ (fun _ => ?_)
theorem date_reader_number.mono : ∀ a0 a1 a2 k, LeO (date_reader_number.f k a0 a1 a2) (date_reader_number.f (k + 1) a0 a1 a2) := by
  intro a0 a1 a2 k
  obtain ⟨ih0, ih1⟩ := date_reader_number.mono_l k
  unfold date_reader_number.f
  repeat' first
      | (with_reducible exact ih0 _ _ _ _ _)
      | (with_reducible exact ih1 _ _ _ _ _ _)
      | (with_reducible exact LeO.refl _)
      | (with_reducible exact LeO.none _)
      | (with_reducible refine LeO.ite ?_ ?_)
      | (with_reducible refine LeO.bind ?_ (fun _ => ?_))
      | exact ih0 _ _ _ _ _
      | exact ih1 _ _ _ _ _ _
      | exact LeO.none _
      | refine LeO.ite ?_ ?_
      | refine LeO.bind ?_ (fun _ => ?_)
set_option maxHeartbeats 8000000 in
set_option maxRecDepth 100000 in
theorem date_reader_number.calls (k : Nat) (a0_0 : ByteArray) (a1 : Int) (a2 : Int) (r : Int) (w : World) (h : date_reader_number.f k a0_0 a1 a2 = some r) :
    Calls Tryd.prog 39 #[.agg #[.string a0_0], .int .i64 a1, .int .i64 a2] w fun e w' => e = .returned (.int .i64 r) ∧ Below w.heap.size w w' := by
  have hu59 := Tryd.underlying59
  have HB := Aside0.mk (Below.refl w.heap.size w)
  have H : (date_reader_number.l0 k a1 a2 0 a1 a0_0) = some r := h
  clear h
  have H' := Aside0.mk H
  clear H
  go_enter Tryd.func39, Tryd.ntmps39
  go_wp2_with (first | ((with_reducible refine gate_dst (N := 3) rfl ?_); (try (refine gate_guard (by rfl) ?_; dsimp only)); refine box_event ?hg (N := 3) ?hd (cs := #[.string a0_0]) (t := 59) ?hr ?_; (case hd => rfl); (case hg => rfl); (case hr => first | (go_simp; done) | (go_simp; rfl)); intro gb101 hg w4 hbox hb; have n0_ := Aside0.mk (below_step (by repeat (first | (with_reducible first | exact HB.out | apply below_alloc | apply pw_below_drewN | apply below_drew1) | exact HB.out)) hb); have n1_ := Aside0.mk (hbox); have n2_ := Aside0.mk ((by rw [hg]; exact (below_size (by repeat (first | (with_reducible first | exact HB.out | apply below_alloc | apply pw_below_drewN | apply below_drew1) | exact HB.out))) : w.heap.size ≤ gb101)); have n3_ := Aside0.mk ((by rw [hg]; exact (below_size (by repeat (first | (with_reducible first | exact HB.out | apply below_alloc | apply pw_below_drewN | apply below_drew1) | exact HB.out))) : w.heap.size ≤ gb101)); clear HB; have HB := n0_; have BK101 := n1_; have GW101 := n2_; have GE101 := n3_; clear n0_ n1_ n2_ n3_; clear hb hbox hg))
  go_loopg [7, 8] k (fun kq v7 v8 w' => ∃ (x7_1 : Int) (x8_1 : Int), v7 = .int .i64 x7_1 ∧ v8 = .int .i64 x8_1 ∧ Aside0 (date_reader_number.l0 kq a1 a2 x7_1 x8_1 a0_0 = some r) ∧ Aside0 (kq ≤ k) ∧ Aside0 (w'.heap[gb101]? = some (.cells #[.string a0_0] 59 (0, 0))) ∧ Aside0 (Below w.heap.size w w'))
  case atStart => exact ⟨(0), (a1), (by first | rfl | (simp; done) | (simp [*]; done)), (by first | rfl | (simp; done) | (simp [*]; done)), H', ⟨Nat.le_refl _⟩, ⟨by (with_reducible repeat (first | refine blk_drewN ?_ _ | refine blk_drew ?_ | refine blk_alloc ?_ _)); exact BK101.out⟩, ⟨by repeat (first | (with_reducible first | exact HB.out | apply below_alloc | apply pw_below_drewN | apply below_drew1 | refine below_set ?_ GE101.out) | exact HB.out)⟩⟩
  case round =>
    clear H'
    try clear p2
    try clear c3
    obtain ⟨x7_1, x8_1, rfl, rfl, HA, HK1, BK101, HB⟩ := hrel
    cases gk with
    | zero => exact absurd HA.out (by simp [date_reader_number.l0])
    | succ k1 =>
      have H := HA.out
      clear HA
      simp only [date_reader_number.l0] at H
      have HC5 := Aside0.mk H
      clear H
      go_upto_region 3 with (fail)
      go_cut [22] (fun v22 wc => ∃ (kq : Nat) (x22_4 : Bool), v22 = .bool x22_4 ∧ Aside0 (date_reader_number.j1 kq a1 a2 x7_1 x8_1 x22_4 a0_0 = some r) ∧ Aside0 (kq ≤ k1) ∧ Aside0 (wc.heap[gb101]? = some (.cells #[.string a0_0] 59 (0, 0))) ∧ Aside0 (Below w.heap.size w wc))
      case first =>
        have H := HC5.out
        clear HC5
        by_cases c6 : x8_1 < (wrap64 (a1 + a2))
        · rw [if_pos c6] at H
          have c6b0 : decide (x8_1 < (wrap64 (a1 + a2))) = true := decide_eq_true c6
          clear c6
          (first | rw [c6b0] | (simp only [i64_w, i32_w]; rw [c6b0]) | skip)
          have H' := Aside0.mk H
          clear H
          have hcz7_0 : wr.cell? ⟨gb101, 0, none⟩ = some (.string a0_0) := (blk_cell BK101.out 0).trans rfl
          have hfz7_0 := blk_frozen BK101.out 0
          go_wp2
          go_meet
          case rel => exact ⟨_, (decide (x8_1 < (a0_0.size : Int))), (by first | rfl | (simp; done) | (simp [*]; done)), H', ⟨by have := HK1.out; first | omega | exact Nat.le_refl _⟩, ⟨by (with_reducible repeat (first | refine blk_drewN ?_ _ | refine blk_drew ?_ | refine blk_alloc ?_ _)); exact BK101.out⟩, ⟨by repeat (first | (with_reducible first | exact HB.out | apply below_alloc | apply pw_below_drewN | apply below_drew1 | refine below_set ?_ GE101.out) | exact HB.out)⟩⟩
        · rw [if_neg c6] at H
          have c6b0 : decide (x8_1 < (wrap64 (a1 + a2))) = false := decide_eq_false c6
          clear c6
          (first | rw [c6b0] | (simp only [i64_w, i32_w]; rw [c6b0]) | skip)
          have H' := Aside0.mk H
          clear H
          go_wp2
          go_meet
          case rel => exact ⟨_, (false), (by first | rfl | (simp; done) | (simp [*]; done)), H', ⟨by have := HK1.out; first | omega | exact Nat.le_refl _⟩, ⟨by (with_reducible repeat (first | refine blk_drewN ?_ _ | refine blk_drew ?_ | refine blk_alloc ?_ _)); exact BK101.out⟩, ⟨by repeat (first | (with_reducible first | exact HB.out | apply below_alloc | apply pw_below_drewN | apply below_drew1 | refine below_set ?_ GE101.out) | exact HB.out)⟩⟩
      case rest =>
        clear HC5
        try clear p2
        try clear c3
        try clear c6
        try clear c6b0
        try clear p6
        try clear hcz7_0
        try clear hfz7_0
        try clear p2
        obtain ⟨kq, x22_4, rfl, HA, HJ4, BK101, HB⟩ := hcut
        cases kq with
        | zero => exact absurd HA.out (by simp [date_reader_number.j1])
        | succ kj4 =>
          have H := HA.out
          clear HA
          simp only [date_reader_number.j1] at H
          by_cases c8 : x22_4 = true
          · subst c8
            have H1 : (if 0 ≤ x8_1 then (if x8_1 < (a0_0.size : Int) then (if (bt a0_0 x8_1) ≥ 48 then (if (bt a0_0 x8_1) ≤ 57 then (date_reader_number.l0 kj4 a1 a2 (wrap64 ((wrap64 (10 * x7_1)) + (((bt a0_0 x8_1) - 48) % 256))) (wrap64 (x8_1 + 1)) a0_0) else (date_reader_number.l0 kj4 a1 a2 x7_1 (wrap64 (x8_1 + 1)) a0_0)) else (date_reader_number.l0 kj4 a1 a2 x7_1 (wrap64 (x8_1 + 1)) a0_0)) else (none)) else (none)) = some r := by rw [if_pos rfl] at H; exact H
            clear H
            have H := H1
            clear H1
            by_cases c9 : 0 ≤ x8_1
            · rw [if_pos c9] at H
              have c9b0 : decide (0 ≤ x8_1) = true := decide_eq_true c9
              clear c9
              by_cases c10 : x8_1 < (a0_0.size : Int)
              · rw [if_pos c10] at H
                have c10b0 : decide (x8_1 < (a0_0.size : Int)) = true := decide_eq_true c10
                clear c10
                by_cases c12 : (bt a0_0 x8_1) ≥ 48
                · rw [if_pos c12] at H
                  have c12b0 : decide (48 ≤ (bt a0_0 x8_1)) = true := decide_eq_true c12
                  clear c12
                  by_cases c13 : (bt a0_0 x8_1) ≤ 57
                  · rw [if_pos c13] at H
                    have c13b0 : decide ((bt a0_0 x8_1) ≤ 57) = true := decide_eq_true c13
                    clear c13
                    have H' := Aside0.mk H
                    clear H
                    have hcz14_0 : wc.cell? ⟨gb101, 0, none⟩ = some (.string a0_0) := (blk_cell BK101.out 0).trans rfl
                    have hfz14_0 := blk_frozen BK101.out 0
                    have p11 : 0 ≤ (x8_1 : Int) := of_decide_eq_true (by first | (with_reducible assumption) | assumption)
                    have q11 : x8_1 < (a0_0.size : Int) := of_decide_eq_true (by first | (with_reducible assumption) | assumption)
                    have hx11 := bt_at a0_0 x8_1
                    replace p11 := eq_true p11
                    replace q11 := eq_true q11
                    go_wp2
                    go_roundg kj4
                    case measure => have := HK1.out; have := HJ4.out; omega
                    case rel => exact ⟨(wrap64 ((wrap64 (10 * x7_1)) + (((bt a0_0 x8_1) - 48) % 256))), (wrap64 (x8_1 + 1)), (by first | rfl | (simp; done) | (simp [*]; done)), (by first | rfl | (simp; done) | (simp [*]; done)), H', ⟨by have := HK1.out; have := HJ4.out; omega⟩, ⟨by (with_reducible repeat (first | refine blk_drewN ?_ _ | refine blk_drew ?_ | refine blk_alloc ?_ _)); exact BK101.out⟩, ⟨by repeat (first | (with_reducible first | exact HB.out | apply below_alloc | apply pw_below_drewN | apply below_drew1 | refine below_set ?_ GE101.out) | exact HB.out)⟩⟩
                  · rw [if_neg c13] at H
                    have c13b0 : decide ((bt a0_0 x8_1) ≤ 57) = false := decide_eq_false c13
                    clear c13
                    have H' := Aside0.mk H
                    clear H
                    have hcz15_0 : wc.cell? ⟨gb101, 0, none⟩ = some (.string a0_0) := (blk_cell BK101.out 0).trans rfl
                    have hfz15_0 := blk_frozen BK101.out 0
                    have p11 : 0 ≤ (x8_1 : Int) := of_decide_eq_true (by first | (with_reducible assumption) | assumption)
                    have q11 : x8_1 < (a0_0.size : Int) := of_decide_eq_true (by first | (with_reducible assumption) | assumption)
                    have hx11 := bt_at a0_0 x8_1
                    replace p11 := eq_true p11
                    replace q11 := eq_true q11
                    go_wp2
                    go_roundg kj4
                    case measure => have := HK1.out; have := HJ4.out; omega
                    case rel => exact ⟨(x7_1), (wrap64 (x8_1 + 1)), (by first | rfl | (simp; done) | (simp [*]; done)), (by first | rfl | (simp; done) | (simp [*]; done)), H', ⟨by have := HK1.out; have := HJ4.out; omega⟩, ⟨by (with_reducible repeat (first | refine blk_drewN ?_ _ | refine blk_drew ?_ | refine blk_alloc ?_ _)); exact BK101.out⟩, ⟨by repeat (first | (with_reducible first | exact HB.out | apply below_alloc | apply pw_below_drewN | apply below_drew1 | refine below_set ?_ GE101.out) | exact HB.out)⟩⟩
                · rw [if_neg c12] at H
                  have c12b0 : decide (48 ≤ (bt a0_0 x8_1)) = false := decide_eq_false c12
                  clear c12
                  have H' := Aside0.mk H
                  clear H
                  have hcz16_0 : wc.cell? ⟨gb101, 0, none⟩ = some (.string a0_0) := (blk_cell BK101.out 0).trans rfl
                  have hfz16_0 := blk_frozen BK101.out 0
                  have p11 : 0 ≤ (x8_1 : Int) := of_decide_eq_true (by first | (with_reducible assumption) | assumption)
                  have q11 : x8_1 < (a0_0.size : Int) := of_decide_eq_true (by first | (with_reducible assumption) | assumption)
                  have hx11 := bt_at a0_0 x8_1
                  replace p11 := eq_true p11
                  replace q11 := eq_true q11
                  go_wp2
                  go_roundg kj4
                  case measure => have := HK1.out; have := HJ4.out; omega
                  case rel => exact ⟨(x7_1), (wrap64 (x8_1 + 1)), (by first | rfl | (simp; done) | (simp [*]; done)), (by first | rfl | (simp; done) | (simp [*]; done)), H', ⟨by have := HK1.out; have := HJ4.out; omega⟩, ⟨by (with_reducible repeat (first | refine blk_drewN ?_ _ | refine blk_drew ?_ | refine blk_alloc ?_ _)); exact BK101.out⟩, ⟨by repeat (first | (with_reducible first | exact HB.out | apply below_alloc | apply pw_below_drewN | apply below_drew1 | refine below_set ?_ GE101.out) | exact HB.out)⟩⟩
              · rw [if_neg c10] at H
                exact absurd H (by simp)
            · rw [if_neg c9] at H
              exact absurd H (by simp)
          · replace c8 := Bool.eq_false_iff.mpr c8
            subst c8
            have H1 : (some x7_1) = some r := by rw [if_neg (show ¬ (false = true) by decide)] at H; exact H
            clear H
            have H := H1
            clear H1
            obtain rfl := Option.some.inj H
            go_wp2
            go_ret
            exact ⟨by first | rfl | (simp [errW_none, errW_some] <;> rfl) | (simp [*, errW_none, errW_some] <;> rfl), by repeat (first | (with_reducible first | exact HB.out | apply below_alloc | apply pw_below_drewN | apply below_drew1 | refine below_set ?_ GE101.out) | exact HB.out)⟩

end Go.Proofs.YtcejglmmjbmafaaDoor.X
-- printed by a program (xp.py, over the kit's print); Lean checks it
namespace Go.Proofs.YtcejglmmjbmafaaDoor.X
open Go.RowKit Go.Proofs.YtcejglmmjbmafaaDoorW.PrintWords Go.Proofs.YtcejglmmjbmafaaDoorW.PrintLast Go.Proofs.YtcejglmmjbmafaaDoorW.PrintMore
attribute [local go_sem] max2_int min2_int max_two min_two max_three min_three max_four min_four   -- for this text's walks alone
set_option linter.unusedVariables false
set_option linter.unusedSimpArgs false

/-! ### date_reader_clock: function 38 -/
def date_reader_clock.f (k : Nat) (a0_0 : ByteArray) (a1_0 : Int) (a1_1 : Int) (a1_2 : Int) (a1_3 : Int) (a1_4 : Int) (a1_5 : Int) (a2 : Int) : Option (Int × Int × Int × Int × Int × Int) := (date_reader_number.f k a0_0 a2 2).bind fun t105 => ((date_reader_number.f k a0_0 (wrap64 (a2 + 3)) 2).bind fun t106 => ((date_reader_number.f k a0_0 (wrap64 (a2 + 6)) 2).bind fun t107 => (some (a1_0, a1_1, a1_2, t105, t106, t107))))
theorem date_reader_clock.mono : ∀ a0 a1 a2 a3 a4 a5 a6 a7 k, LeO (date_reader_clock.f k a0 a1 a2 a3 a4 a5 a6 a7) (date_reader_clock.f (k + 1) a0 a1 a2 a3 a4 a5 a6 a7) := by
  intro a0 a1 a2 a3 a4 a5 a6 a7 k
  unfold date_reader_clock.f
  repeat' first
      | (with_reducible exact date_reader_number.mono _ _ _ _)
      | (with_reducible exact LeO.refl _)
      | (with_reducible exact LeO.none _)
      | (with_reducible refine LeO.ite ?_ ?_)
      | (with_reducible refine LeO.bind ?_ (fun _ => ?_))
      | exact date_reader_number.mono _ _ _ _
      | exact LeO.none _
      | refine LeO.ite ?_ ?_
      | refine LeO.bind ?_ (fun _ => ?_)
def date_reader_clock.T1 : Bool × List (List Nat × List Nat) := (true, [([], []), ([], []), ([0, 1], [0, 1]), ([], []), ([], []), ([4], [4]), ([3, 5, 2], [3, 5]), ([], []), ([], []), ([8], [8]), ([7, 9, 6], [7, 9]), ([0, 1, 2], []), ([11, 2, 10, 0, 1, 2], [2, 11]), ([0, 1, 2, 3, 4, 5, 6, 11, 12], []), ([13, 6, 12, 0, 1, 2, 3, 4, 5, 6, 11, 12], [6, 13]), ([0, 1, 2, 3, 4, 5, 6, 7, 8, 9, 10, 11, 12, 13, 14], []), ([15, 10, 14, 0, 1, 2, 3, 4, 5, 6, 7, 8, 9, 10, 11, 12, 13, 14], [10, 15])])
def date_reader_clock.B1 : List Nat := [0, 0, 3, 0, 0, 16, 63, 0, 0, 256, 1023, 7, 4095, 8191, 16383, 32767, 65535]
theorem date_reader_clock.tab1 : rtab .any (opsOf Tryd.f38 1) = date_reader_clock.T1 := by kernel_rfl
theorem date_reader_clock.bits1 : waitsOk date_reader_clock.T1.2 date_reader_clock.B1 = true := by kernel_rfl
set_option maxHeartbeats 8000000 in
set_option maxRecDepth 100000 in
theorem date_reader_clock.calls (k : Nat) (a0_0 : ByteArray) (a1_0 : Int) (a1_1 : Int) (a1_2 : Int) (a1_3 : Int) (a1_4 : Int) (a1_5 : Int) (a2 : Int) (r1 : Int) (r2 : Int) (r3 : Int) (r4 : Int) (r5 : Int) (r6 : Int) (w : World) (h : date_reader_clock.f k a0_0 a1_0 a1_1 a1_2 a1_3 a1_4 a1_5 a2 = some (r1, r2, r3, r4, r5, r6)) :
    Calls Tryd.prog 38 #[.agg #[.string a0_0], .agg #[.int .i64 a1_0, .int .i64 a1_1, .int .i64 a1_2, .int .i64 a1_3, .int .i64 a1_4, .int .i64 a1_5], .int .i64 a2] w fun e w' => e = .returned (.agg #[.int .i64 r1, .int .i64 r2, .int .i64 r3, .int .i64 r4, .int .i64 r5, .int .i64 r6]) ∧ Below w.heap.size w w' := by
  have hu59 := Tryd.underlying59
  have hu36 := Tryd.underlying36
  have HB := Aside0.mk (Below.refl w.heap.size w)
  have H : ((date_reader_number.f k a0_0 a2 2).bind fun t105 => ((date_reader_number.f k a0_0 (wrap64 (a2 + 3)) 2).bind fun t106 => ((date_reader_number.f k a0_0 (wrap64 (a2 + 6)) 2).bind fun t107 => (some (a1_0, a1_1, a1_2, t105, t106, t107))))) = some (r1, r2, r3, r4, r5, r6) := h
  clear h
  replace H := Option.bind_eq_some_iff.mp H
  obtain ⟨t105, A40, H⟩ := H
  replace H : ((date_reader_number.f k a0_0 (wrap64 (a2 + 3)) 2).bind fun t106 => ((date_reader_number.f k a0_0 (wrap64 (a2 + 6)) 2).bind fun t107 => (some (a1_0, a1_1, a1_2, t105, t106, t107)))) = some (r1, r2, r3, r4, r5, r6) := H
  have A4 := Aside0.mk A40
  clear A40
  replace H := Option.bind_eq_some_iff.mp H
  obtain ⟨t106, A50, H⟩ := H
  replace H : ((date_reader_number.f k a0_0 (wrap64 (a2 + 6)) 2).bind fun t107 => (some (a1_0, a1_1, a1_2, t105, t106, t107))) = some (r1, r2, r3, r4, r5, r6) := H
  have A5 := Aside0.mk A50
  clear A50
  replace H := Option.bind_eq_some_iff.mp H
  obtain ⟨t107, A60, H⟩ := H
  replace H : (some (a1_0, a1_1, a1_2, t105, t106, t107)) = some (r1, r2, r3, r4, r5, r6) := H
  have A6 := Aside0.mk A60
  clear A60
  simp only [Option.some.injEq, Prod.mk.injEq] at H
  obtain ⟨rfl, rfl, rfl, rfl, rfl, rfl⟩ := H
  go_enter Tryd.func38, Tryd.ntmps38
  try go_wp2_with (first | ((with_reducible refine gate_dst (N := 3) rfl ?_); refine box_event ?hg (N := 3) ?hd (cs := #[.string a0_0]) (t := 59) ?hr ?_; (case hd => rfl); (case hg => rfl); (case hr => first | (go_simp; done) | (go_simp; rfl)); intro gb102 hg w7 hbox hb; have n0_ := Aside0.mk (below_step (by repeat (first | (with_reducible first | exact HB.out | apply below_alloc | apply pw_below_drewN | apply below_drew1) | exact HB.out)) hb); have n1_ := Aside0.mk (hbox); have n2_ := Aside0.mk ((by rw [hg]; exact (below_size (by repeat (first | (with_reducible first | exact HB.out | apply below_alloc | apply pw_below_drewN | apply below_drew1) | exact HB.out))) : w.heap.size ≤ gb102)); have n3_ := Aside0.mk ((by rw [hg]; exact (below_size (by repeat (first | (with_reducible first | exact HB.out | apply below_alloc | apply pw_below_drewN | apply below_drew1) | exact HB.out))) : w.heap.size ≤ gb102)); clear HB; have HB := n0_; have BK102 := n1_; have GW102 := n2_; have GE102 := n3_; clear n0_ n1_ n2_ n3_; clear hb hbox hg) | ((with_reducible refine gate_dst (N := 4) rfl ?_); refine box_event ?hg (N := 4) ?hd (cs := #[.int .i64 a1_0, .int .i64 a1_1, .int .i64 a1_2, .int .i64 a1_3, .int .i64 a1_4, .int .i64 a1_5]) (t := 36) ?hr ?_; (case hd => rfl); (case hg => rfl); (case hr => first | (go_simp; done) | (go_simp; rfl)); intro gb103 hg w8 hbox hb; have n0_ := Aside0.mk (blk_below (g := gb102) (o := .cells #[.string a0_0] 59 (0, 0)) (by (with_reducible repeat (first | refine blk_drewN ?_ _ | refine blk_drew ?_ | refine blk_alloc ?_ _)); exact BK102.out) hb); have n1_ := Aside0.mk (below_step (by repeat (first | (with_reducible first | exact HB.out | apply below_alloc | apply pw_below_drewN | apply below_drew1 | refine below_set ?_ GE102.out) | exact HB.out)) hb); have n2_ := Aside0.mk (hbox); have n3_ := Aside0.mk ((by rw [hg]; exact (below_size (by repeat (first | (with_reducible first | exact HB.out | apply below_alloc | apply pw_below_drewN | apply below_drew1 | refine below_set ?_ GE102.out) | exact HB.out))) : w.heap.size ≤ gb103)); have n4_ := Aside0.mk ((by rw [hg]; exact (below_size (by repeat (first | (with_reducible first | exact HB.out | apply below_alloc | apply pw_below_drewN | apply below_drew1 | refine below_set ?_ GE102.out) | exact HB.out))) : w.heap.size ≤ gb103)); have n5_ := Aside0.mk ((by rw [hg]; exact Nat.ne_of_lt (blk_lt (g := gb102) (o := .cells #[.string a0_0] 59 (0, 0)) (by (with_reducible repeat (first | refine blk_drewN ?_ _ | refine blk_drew ?_ | refine blk_alloc ?_ _)); exact BK102.out)) : gb102 ≠ gb103)); have n6_ := Aside0.mk ((by rw [hg]; exact Nat.ne_of_gt (blk_lt (g := gb102) (o := .cells #[.string a0_0] 59 (0, 0)) (by (with_reducible repeat (first | refine blk_drewN ?_ _ | refine blk_drew ?_ | refine blk_alloc ?_ _)); exact BK102.out)) : gb103 ≠ gb102)); clear BK102; clear HB; have BK102 := n0_; have HB := n1_; have BK103 := n2_; have GW103 := n3_; have GE103 := n4_; have NB102_103 := n5_; have NB103_102 := n6_; clear n0_ n1_ n2_ n3_ n4_ n5_ n6_; clear hb hbox hg) | ((with_reducible refine gate_dst (N := 6) rfl ?_); refine box_event ?hg (N := 6) ?hd (cs := #[.int .i64 0, .int .i64 0, .int .i64 0, .int .i64 0, .int .i64 0, .int .i64 0]) (t := 36) ?hr ?_; (case hd => rfl); (case hg => rfl); (case hr => first | (go_simp; done) | (go_simp; rfl)); intro gb104 hg w9 hbox hb; have n0_ := Aside0.mk (blk_below (g := gb102) (o := .cells #[.string a0_0] 59 (0, 0)) (by (with_reducible repeat (first | refine blk_drewN ?_ _ | refine blk_drew ?_ | refine blk_alloc ?_ _)); exact BK102.out) hb); have n1_ := Aside0.mk (blk_below (g := gb103) (o := .cells #[.int .i64 a1_0, .int .i64 a1_1, .int .i64 a1_2, .int .i64 a1_3, .int .i64 a1_4, .int .i64 a1_5] 36 (0, 0)) (by (with_reducible repeat (first | refine blk_drewN ?_ _ | refine blk_drew ?_ | refine blk_alloc ?_ _)); exact BK103.out) hb); have n2_ := Aside0.mk (below_step (by repeat (first | (with_reducible first | exact HB.out | apply below_alloc | apply pw_below_drewN | apply below_drew1 | refine below_set ?_ GE102.out | refine below_set ?_ GE103.out) | exact HB.out)) hb); have n3_ := Aside0.mk (hbox); have n4_ := Aside0.mk ((by rw [hg]; exact (below_size (by repeat (first | (with_reducible first | exact HB.out | apply below_alloc | apply pw_below_drewN | apply below_drew1 | refine below_set ?_ GE102.out | refine below_set ?_ GE103.out) | exact HB.out))) : w.heap.size ≤ gb104)); have n5_ := Aside0.mk ((by rw [hg]; exact (below_size (by repeat (first | (with_reducible first | exact HB.out | apply below_alloc | apply pw_below_drewN | apply below_drew1 | refine below_set ?_ GE102.out | refine below_set ?_ GE103.out) | exact HB.out))) : w.heap.size ≤ gb104)); have n6_ := Aside0.mk ((by rw [hg]; exact Nat.ne_of_lt (blk_lt (g := gb102) (o := .cells #[.string a0_0] 59 (0, 0)) (by (with_reducible repeat (first | refine blk_drewN ?_ _ | refine blk_drew ?_ | refine blk_alloc ?_ _)); exact BK102.out)) : gb102 ≠ gb104)); have n7_ := Aside0.mk ((by rw [hg]; exact Nat.ne_of_gt (blk_lt (g := gb102) (o := .cells #[.string a0_0] 59 (0, 0)) (by (with_reducible repeat (first | refine blk_drewN ?_ _ | refine blk_drew ?_ | refine blk_alloc ?_ _)); exact BK102.out)) : gb104 ≠ gb102)); have n8_ := Aside0.mk ((by rw [hg]; exact Nat.ne_of_lt (blk_lt (g := gb103) (o := .cells #[.int .i64 a1_0, .int .i64 a1_1, .int .i64 a1_2, .int .i64 a1_3, .int .i64 a1_4, .int .i64 a1_5] 36 (0, 0)) (by (with_reducible repeat (first | refine blk_drewN ?_ _ | refine blk_drew ?_ | refine blk_alloc ?_ _)); exact BK103.out)) : gb103 ≠ gb104)); have n9_ := Aside0.mk ((by rw [hg]; exact Nat.ne_of_gt (blk_lt (g := gb103) (o := .cells #[.int .i64 a1_0, .int .i64 a1_1, .int .i64 a1_2, .int .i64 a1_3, .int .i64 a1_4, .int .i64 a1_5] 36 (0, 0)) (by (with_reducible repeat (first | refine blk_drewN ?_ _ | refine blk_drew ?_ | refine blk_alloc ?_ _)); exact BK103.out)) : gb104 ≠ gb103)); clear BK102; clear BK103; clear HB; have BK102 := n0_; have BK103 := n1_; have HB := n2_; have BK104 := n3_; have GW104 := n4_; have GE104 := n5_; have NB102_104 := n6_; have NB104_102 := n7_; have NB103_104 := n8_; have NB104_103 := n9_; clear n0_ n1_ n2_ n3_ n4_ n5_ n6_ n7_ n8_ n9_; clear hb hbox hg))
  have n0_ := Aside0.mk (blk_drew BK102.out)
  have n1_ := Aside0.mk (blk_drew BK103.out)
  have n2_ := Aside0.mk (blk_drew BK104.out)
  have n3_ := Aside0.mk (below_drew1 HB.out)
  clear BK102
  clear BK103
  clear BK104
  clear HB
  have BK102 := n0_
  have BK103 := n1_
  have BK104 := n2_
  have HB := n3_
  clear n0_ n1_ n2_ n3_
  refine start_ (n := 17) (S := fun w' => w'.cell? ⟨gb102, 0, none⟩ = some (.string a0_0)) (ds := []) #[false, false, false, false, false, false, false, false, false, false, false, false, false, false, false, false, false] (by kernel_rfl) rfl rfl ((blk_cell BK102.out 0).trans rfl) (fun hHeld => ?_); refine with_tabW date_reader_clock.tab1 date_reader_clock.bits1 (fun HT_ HW_ => ?_)
  generalize w9.drew = w10 at BK102 BK103 BK104 HB hHeld ⊢
  refine pure_ (i := 1) (N := some 8) (v := ?_) (a' := ?_) #[false, true, false, false, false, false, false, false, false, false, false, false, false, false, false, false, false] rfl rfl (any_of HT_.out (by kernel_rfl)) (fun _ _ _ h => h) (Or.inl ⟨by rfl, ?_⟩) ?_ ?_
  rotate_left
  · intro w'
    go_simp
    with_reducible rfl
  rotate_left
  · simp only [Act.put, List.setIfInBounds_toArray, List.set_cons_zero, List.set_cons_succ, i64_w, i32_w]
    rfl
  refine pure_ (i := 4) (N := some 11) (v := ?_) (a' := ?_) #[false, true, false, false, true, false, false, false, false, false, false, false, false, false, false, false, false] rfl rfl (any_of HT_.out (by kernel_rfl)) (fun _ _ _ h => h) (Or.inl ⟨by rfl, ?_⟩) ?_ ?_
  rotate_left
  · intro w'
    go_simp
    with_reducible rfl
  rotate_left
  · simp only [Act.put, List.setIfInBounds_toArray, List.set_cons_zero, List.set_cons_succ, i64_w, i32_w]
    rfl
  refine pure_ (i := 5) (N := some 12) (v := ?_) (a' := ?_) #[false, true, false, false, true, true, false, false, false, false, false, false, false, false, false, false, false] rfl rfl (any_of HT_.out (by kernel_rfl)) (fun _ _ _ h => h) (Or.inl ⟨by rfl, ?_⟩) ?_ ?_
  rotate_left
  · intro w'
    go_simp
    with_reducible rfl
  rotate_left
  · simp only [Act.put, List.setIfInBounds_toArray, List.set_cons_zero, List.set_cons_succ, i64_w, i32_w]
    rfl
  refine pure_ (i := 8) (N := some 15) (v := ?_) (a' := ?_) #[false, true, false, false, true, true, false, false, true, false, false, false, false, false, false, false, false] rfl rfl (any_of HT_.out (by kernel_rfl)) (fun _ _ _ h => h) (Or.inl ⟨by rfl, ?_⟩) ?_ ?_
  rotate_left
  · intro w'
    go_simp
    with_reducible rfl
  rotate_left
  · simp only [Act.put, List.setIfInBounds_toArray, List.set_cons_zero, List.set_cons_succ, i64_w, i32_w]
    rfl
  refine pure_ (i := 9) (N := some 16) (v := ?_) (a' := ?_) #[false, true, false, false, true, true, false, false, true, true, false, false, false, false, false, false, false] rfl rfl (any_of HT_.out (by kernel_rfl)) (fun _ _ _ h => h) (Or.inl ⟨by rfl, ?_⟩) ?_ ?_
  rotate_left
  · intro w'
    go_simp
    with_reducible rfl
  rotate_left
  · simp only [Act.put, List.setIfInBounds_toArray, List.set_cons_zero, List.set_cons_succ, i64_w, i32_w]
    rfl
  refine take_ (i := 0) (N := some 7) (v := ?_) (a' := ?_) #[true, true, false, false, true, true, false, false, true, true, false, false, false, false, false, false, false] rfl rfl (take_ofW HT_.out HW_.out (by kernel_rfl)) (fun _ _ _ h => h) (Or.inl ⟨by rfl, ?_⟩) hHeld ?_ ?_
  rotate_left
  · intro w' s0
    go_simp
    with_reducible rfl
  rotate_left
  · simp only [Act.put, List.setIfInBounds_toArray, List.set_cons_zero, List.set_cons_succ, i64_w, i32_w]
    rfl
  refine take_ (i := 3) (N := some 10) (v := ?_) (a' := ?_) #[true, true, false, true, true, true, false, false, true, true, false, false, false, false, false, false, false] rfl rfl (take_ofW HT_.out HW_.out (by kernel_rfl)) (fun _ _ _ h => h) (Or.inl ⟨by rfl, ?_⟩) hHeld ?_ ?_
  rotate_left
  · intro w' s0
    go_simp
    with_reducible rfl
  rotate_left
  · simp only [Act.put, List.setIfInBounds_toArray, List.set_cons_zero, List.set_cons_succ, i64_w, i32_w]
    rfl
  refine take_ (i := 7) (N := some 14) (v := ?_) (a' := ?_) #[true, true, false, true, true, true, false, true, true, true, false, false, false, false, false, false, false] rfl rfl (take_ofW HT_.out HW_.out (by kernel_rfl)) (fun _ _ _ h => h) (Or.inl ⟨by rfl, ?_⟩) hHeld ?_ ?_
  rotate_left
  · intro w' s0
    go_simp
    with_reducible rfl
  rotate_left
  · simp only [Act.put, List.setIfInBounds_toArray, List.set_cons_zero, List.set_cons_succ, i64_w, i32_w]
    rfl
  refine one_ (i := 2) (N := some 9) #[true, true, true, true, true, true, false, true, true, true, false, false, false, false, false, false, false] rfl rfl (one_of HT_.out (by kernel_rfl)) (by decide) (fun K hK => ?_)
  refine goes_ Tryd.func39 (by kernel_rfl) rfl #[.agg #[.string a0_0], .int .i64 a2, .int .i64 2] (by rfl) rfl rfl (by (try simp only [List.map_toArray, List.map_cons, List.map_nil]); first | done | rfl | (simp only [List.length_drop, List.length_take]; rfl)) ?_
  with_reducible refine (date_reader_number.calls k a0_0 a2 2 t105 _ A4.out).mono ?_
  rintro e w11 ⟨rfl, hb⟩
  refine ⟨_, rfl, ?_⟩
  have n0_ := Aside0.mk (blk_below (g := gb102) (o := .cells #[.string a0_0] 59 (0, 0)) (by (with_reducible repeat (first | refine blk_drewN ?_ _ | refine blk_drew ?_ | refine blk_alloc ?_ _)); exact BK102.out) hb)
  have n1_ := Aside0.mk (blk_below (g := gb103) (o := .cells #[.int .i64 a1_0, .int .i64 a1_1, .int .i64 a1_2, .int .i64 a1_3, .int .i64 a1_4, .int .i64 a1_5] 36 (0, 0)) (by (with_reducible repeat (first | refine blk_drewN ?_ _ | refine blk_drew ?_ | refine blk_alloc ?_ _)); exact BK103.out) hb)
  have n2_ := Aside0.mk (blk_below (g := gb104) (o := .cells #[.int .i64 0, .int .i64 0, .int .i64 0, .int .i64 0, .int .i64 0, .int .i64 0] 36 (0, 0)) (by (with_reducible repeat (first | refine blk_drewN ?_ _ | refine blk_drew ?_ | refine blk_alloc ?_ _)); exact BK104.out) hb)
  have n3_ := Aside0.mk (below_step (by repeat (first | (with_reducible first | exact HB.out | apply below_alloc | apply pw_below_drewN | apply below_drew1 | refine below_set ?_ GE102.out | refine below_set ?_ GE103.out | refine below_set ?_ GE104.out) | exact HB.out)) hb)
  clear BK102
  clear BK103
  clear BK104
  clear HB
  have BK102 := n0_
  have BK103 := n1_
  have BK104 := n2_
  have HB := n3_
  clear n0_ n1_ n2_ n3_
  (try clear hb)
  (try clear hb2)
  (try clear hk)
  (try clear hi)
  refine hK.out _ _ ((blk_cell BK102.out 0).trans rfl) (fun hHeld => ?_)
  clear hK K
  refine norm_ (a' := ?_) ?_ ?_
  rotate_left
  · show Act.put _ (some 9) _ = _
    simp only [Act.put, List.setIfInBounds_toArray, List.set_cons_zero, List.set_cons_succ, i64_w, i32_w]
    rfl
  refine pure_ (i := 11) (N := some 18) (v := ?_) (a' := ?_) #[true, true, true, true, true, true, false, true, true, true, false, true, false, false, false, false, false] rfl rfl (any_of HT_.out (by kernel_rfl)) (fun _ _ _ h => h) (Or.inl ⟨by rfl, ?_⟩) ?_ ?_
  rotate_left
  · intro w'
    go_simp
    with_reducible rfl
  rotate_left
  · simp only [Act.put, List.setIfInBounds_toArray, List.set_cons_zero, List.set_cons_succ, i64_w, i32_w]
    rfl
  refine one_ (i := 6) (N := some 13) #[true, true, true, true, true, true, true, true, true, true, false, true, false, false, false, false, false] rfl rfl (one_of HT_.out (by kernel_rfl)) (by decide) (fun K hK => ?_)
  refine goes_ Tryd.func39 (by kernel_rfl) rfl #[.agg #[.string a0_0], .int .i64 (wrap64 (a2 + 3)), .int .i64 2] (by rfl) rfl rfl (by (try simp only [List.map_toArray, List.map_cons, List.map_nil]); first | done | rfl | (simp only [List.length_drop, List.length_take]; rfl)) ?_
  with_reducible refine (date_reader_number.calls k a0_0 (wrap64 (a2 + 3)) 2 t106 _ A5.out).mono ?_
  rintro e w12 ⟨rfl, hb⟩
  refine ⟨_, rfl, ?_⟩
  have n0_ := Aside0.mk (blk_below (g := gb102) (o := .cells #[.string a0_0] 59 (0, 0)) (by (with_reducible repeat (first | refine blk_drewN ?_ _ | refine blk_drew ?_ | refine blk_alloc ?_ _)); exact BK102.out) hb)
  have n1_ := Aside0.mk (blk_below (g := gb103) (o := .cells #[.int .i64 a1_0, .int .i64 a1_1, .int .i64 a1_2, .int .i64 a1_3, .int .i64 a1_4, .int .i64 a1_5] 36 (0, 0)) (by (with_reducible repeat (first | refine blk_drewN ?_ _ | refine blk_drew ?_ | refine blk_alloc ?_ _)); exact BK103.out) hb)
  have n2_ := Aside0.mk (blk_below (g := gb104) (o := .cells #[.int .i64 0, .int .i64 0, .int .i64 0, .int .i64 0, .int .i64 0, .int .i64 0] 36 (0, 0)) (by (with_reducible repeat (first | refine blk_drewN ?_ _ | refine blk_drew ?_ | refine blk_alloc ?_ _)); exact BK104.out) hb)
  have n3_ := Aside0.mk (below_step (by repeat (first | (with_reducible first | exact HB.out | apply below_alloc | apply pw_below_drewN | apply below_drew1 | refine below_set ?_ GE102.out | refine below_set ?_ GE103.out | refine below_set ?_ GE104.out) | exact HB.out)) hb)
  clear BK102
  clear BK103
  clear BK104
  clear HB
  have BK102 := n0_
  have BK103 := n1_
  have BK104 := n2_
  have HB := n3_
  clear n0_ n1_ n2_ n3_
  (try clear hb)
  (try clear hb2)
  (try clear hk)
  (try clear hi)
  refine hK.out _ _ ((blk_cell BK102.out 0).trans rfl) (fun hHeld => ?_)
  clear hK K
  refine norm_ (a' := ?_) ?_ ?_
  rotate_left
  · show Act.put _ (some 13) _ = _
    simp only [Act.put, List.setIfInBounds_toArray, List.set_cons_zero, List.set_cons_succ, i64_w, i32_w]
    rfl
  refine one_ (i := 10) (N := some 17) #[true, true, true, true, true, true, true, true, true, true, true, true, false, false, false, false, false] rfl rfl (one_of HT_.out (by kernel_rfl)) (by decide) (fun K hK => ?_)
  refine goes_ Tryd.func39 (by kernel_rfl) rfl #[.agg #[.string a0_0], .int .i64 (wrap64 (a2 + 6)), .int .i64 2] (by rfl) rfl rfl (by (try simp only [List.map_toArray, List.map_cons, List.map_nil]); first | done | rfl | (simp only [List.length_drop, List.length_take]; rfl)) ?_
  with_reducible refine (date_reader_number.calls k a0_0 (wrap64 (a2 + 6)) 2 t107 _ A6.out).mono ?_
  rintro e w13 ⟨rfl, hb⟩
  refine ⟨_, rfl, ?_⟩
  have n0_ := Aside0.mk (blk_below (g := gb102) (o := .cells #[.string a0_0] 59 (0, 0)) (by (with_reducible repeat (first | refine blk_drewN ?_ _ | refine blk_drew ?_ | refine blk_alloc ?_ _)); exact BK102.out) hb)
  have n1_ := Aside0.mk (blk_below (g := gb103) (o := .cells #[.int .i64 a1_0, .int .i64 a1_1, .int .i64 a1_2, .int .i64 a1_3, .int .i64 a1_4, .int .i64 a1_5] 36 (0, 0)) (by (with_reducible repeat (first | refine blk_drewN ?_ _ | refine blk_drew ?_ | refine blk_alloc ?_ _)); exact BK103.out) hb)
  have n2_ := Aside0.mk (blk_below (g := gb104) (o := .cells #[.int .i64 0, .int .i64 0, .int .i64 0, .int .i64 0, .int .i64 0, .int .i64 0] 36 (0, 0)) (by (with_reducible repeat (first | refine blk_drewN ?_ _ | refine blk_drew ?_ | refine blk_alloc ?_ _)); exact BK104.out) hb)
  have n3_ := Aside0.mk (below_step (by repeat (first | (with_reducible first | exact HB.out | apply below_alloc | apply pw_below_drewN | apply below_drew1 | refine below_set ?_ GE102.out | refine below_set ?_ GE103.out | refine below_set ?_ GE104.out) | exact HB.out)) hb)
  clear BK102
  clear BK103
  clear BK104
  clear HB
  have BK102 := n0_
  have BK103 := n1_
  have BK104 := n2_
  have HB := n3_
  clear n0_ n1_ n2_ n3_
  (try clear hb)
  (try clear hb2)
  (try clear hk)
  (try clear hi)
  refine hK.out _ _ ((blk_cell BK102.out 0).trans rfl) (fun hHeld => ?_)
  clear hK K
  refine norm_ (a' := ?_) ?_ ?_
  rotate_left
  · show Act.put _ (some 17) _ = _
    simp only [Act.put, List.setIfInBounds_toArray, List.set_cons_zero, List.set_cons_succ, i64_w, i32_w]
    rfl
  refine one_ (i := 12) (N := none) #[true, true, true, true, true, true, true, true, true, true, true, true, true, false, false, false, false] rfl rfl (one_of HT_.out (by kernel_rfl)) (by decide) (fun K hK => ?_)
  have hs14 : w13.cell? ⟨gb103, 3, none⟩ = some (.int .i64 a1_3) := (blk_cell BK103.out 3).trans rfl
  have hfs14 := blk_frozen BK103.out 3
  have hns14_0 := NB102_103.out
  have hns14_2 := NB104_103.out
  have hms14_0 := NB103_102.out
  have hms14_2 := NB103_104.out
  refine skip_ (w1 := ?_) (by rfl) rfl ?_ ?_
  rotate_left
  · go_simp
    rfl
  refine hK.out _ _ (((cell_far (p := ⟨gb103, _, none⟩) NB102_103.out _).trans (hHeld))) (fun hHeld => ?_)
  clear hK K
  refine pure_ (i := 13) (N := some 19) (v := ?_) (a' := ?_) #[true, true, true, true, true, true, true, true, true, true, true, true, true, true, false, false, false] rfl rfl (any_of HT_.out (by kernel_rfl)) (fun _ _ _ h => h) (Or.inl ⟨by rfl, ?_⟩) ?_ ?_
  rotate_left
  · intro w'
    go_simp
    with_reducible rfl
  rotate_left
  · simp only [Act.put, List.setIfInBounds_toArray, List.set_cons_zero, List.set_cons_succ, i64_w, i32_w]
    rfl
  refine one_ (i := 14) (N := none) #[true, true, true, true, true, true, true, true, true, true, true, true, true, true, true, false, false] rfl rfl (one_of HT_.out (by kernel_rfl)) (by decide) (fun K hK => ?_)
  have hs15 : w13.cell? ⟨gb103, 4, none⟩ = some (.int .i64 a1_4) := (blk_cell BK103.out 4).trans rfl
  have hfs15 := blk_frozen BK103.out 4
  have hns15_0 := NB102_103.out
  have hns15_2 := NB104_103.out
  have hms15_0 := NB103_102.out
  have hms15_2 := NB103_104.out
  refine skip_ (w1 := ?_) (by rfl) rfl ?_ ?_
  rotate_left
  · go_simp
    rfl
  refine hK.out _ _ (((cell_far (p := ⟨gb103, _, none⟩) NB102_103.out _).trans (hHeld))) (fun hHeld => ?_)
  clear hK K
  refine pure_ (i := 15) (N := some 20) (v := ?_) (a' := ?_) #[true, true, true, true, true, true, true, true, true, true, true, true, true, true, true, true, false] rfl rfl (any_of HT_.out (by kernel_rfl)) (fun _ _ _ h => h) (Or.inl ⟨by rfl, ?_⟩) ?_ ?_
  rotate_left
  · intro w'
    go_simp
    with_reducible rfl
  rotate_left
  · simp only [Act.put, List.setIfInBounds_toArray, List.set_cons_zero, List.set_cons_succ, i64_w, i32_w]
    rfl
  refine one_ (i := 16) (N := none) #[true, true, true, true, true, true, true, true, true, true, true, true, true, true, true, true, true] rfl rfl (one_of HT_.out (by kernel_rfl)) (by decide) (fun K hK => ?_)
  have hs16 : w13.cell? ⟨gb103, 5, none⟩ = some (.int .i64 a1_5) := (blk_cell BK103.out 5).trans rfl
  have hfs16 := blk_frozen BK103.out 5
  have hns16_0 := NB102_103.out
  have hns16_2 := NB104_103.out
  have hms16_0 := NB103_102.out
  have hms16_2 := NB103_104.out
  refine skip_ (w1 := ?_) (by rfl) rfl ?_ ?_
  rotate_left
  · go_simp
    rfl
  refine hK.out _ _ (((cell_far (p := ⟨gb103, _, none⟩) NB102_103.out _).trans (hHeld))) (fun hHeld => ?_)
  clear hK K
  refine done_ (done_of HT_.out (by kernel_rfl)) ?_
  have hnb17 := NB103_102.out
  have hnc17 := NB102_103.out
  have hnb18 := NB103_104.out
  have hnc18 := NB104_103.out
  have hcz19_0 : w13.cell? ⟨gb103, 0, none⟩ = some (.int .i64 a1_0) := (blk_cell BK103.out 0).trans rfl
  have hcz19_1 : w13.cell? ⟨gb103, 1, none⟩ = some (.int .i64 a1_1) := (blk_cell BK103.out 1).trans rfl
  have hcz19_2 : w13.cell? ⟨gb103, 2, none⟩ = some (.int .i64 a1_2) := (blk_cell BK103.out 2).trans rfl
  have hcz19_3 : w13.cell? ⟨gb103, 3, none⟩ = some (.int .i64 a1_3) := (blk_cell BK103.out 3).trans rfl
  have hcz19_4 : w13.cell? ⟨gb103, 4, none⟩ = some (.int .i64 a1_4) := (blk_cell BK103.out 4).trans rfl
  have hcz19_5 : w13.cell? ⟨gb103, 5, none⟩ = some (.int .i64 a1_5) := (blk_cell BK103.out 5).trans rfl
  have hfz19_0 := blk_frozen BK103.out 0
  have hfz19_1 := blk_frozen BK103.out 1
  have hfz19_2 := blk_frozen BK103.out 2
  have hfz19_3 := blk_frozen BK103.out 3
  have hfz19_4 := blk_frozen BK103.out 4
  have hfz19_5 := blk_frozen BK103.out 5
  have hnb20 := NB104_102.out
  have hnc20 := NB102_104.out
  have hcz21_0 : w13.cell? ⟨gb104, 0, none⟩ = some (.int .i64 0) := (blk_cell BK104.out 0).trans rfl
  have hcz21_1 : w13.cell? ⟨gb104, 1, none⟩ = some (.int .i64 0) := (blk_cell BK104.out 1).trans rfl
  have hcz21_2 : w13.cell? ⟨gb104, 2, none⟩ = some (.int .i64 0) := (blk_cell BK104.out 2).trans rfl
  have hcz21_3 : w13.cell? ⟨gb104, 3, none⟩ = some (.int .i64 0) := (blk_cell BK104.out 3).trans rfl
  have hcz21_4 : w13.cell? ⟨gb104, 4, none⟩ = some (.int .i64 0) := (blk_cell BK104.out 4).trans rfl
  have hcz21_5 : w13.cell? ⟨gb104, 5, none⟩ = some (.int .i64 0) := (blk_cell BK104.out 5).trans rfl
  have hfz21_0 := blk_frozen BK104.out 0
  have hfz21_1 := blk_frozen BK104.out 1
  have hfz21_2 := blk_frozen BK104.out 2
  have hfz21_3 := blk_frozen BK104.out 3
  have hfz21_4 := blk_frozen BK104.out 4
  have hfz21_5 := blk_frozen BK104.out 5
  try go_wp2
  refine bodyPost_ret (results_cell_row rfl _ _ gb104 36 #[.int .i64 a1_0, .int .i64 a1_1, .int .i64 a1_2, .int .i64 t105, .int .i64 t106, .int .i64 t107] (0, 0) _ rfl (by (with_reducible repeat (first | refine blk_drewN ?_ _ | refine blk_drew ?_ | refine blk_alloc ?_ _)); refine blk_put (cs := #[.int .i64 a1_0, .int .i64 a1_1, .int .i64 a1_2, .int .i64 t105, .int .i64 t106, .int .i64 0]) ?_ 5 _ rfl; (with_reducible repeat (first | refine blk_drewN ?_ _ | refine blk_drew ?_ | refine blk_alloc ?_ _)); refine blk_put (cs := #[.int .i64 a1_0, .int .i64 a1_1, .int .i64 a1_2, .int .i64 t105, .int .i64 0, .int .i64 0]) ?_ 4 _ rfl; (with_reducible repeat (first | refine blk_drewN ?_ _ | refine blk_drew ?_ | refine blk_alloc ?_ _)); refine blk_put (cs := #[.int .i64 a1_0, .int .i64 a1_1, .int .i64 a1_2, .int .i64 0, .int .i64 0, .int .i64 0]) ?_ 3 _ rfl; (with_reducible repeat (first | refine blk_drewN ?_ _ | refine blk_drew ?_ | refine blk_alloc ?_ _)); refine blk_put (cs := #[.int .i64 a1_0, .int .i64 a1_1, .int .i64 0, .int .i64 0, .int .i64 0, .int .i64 0]) ?_ 2 _ rfl; (with_reducible repeat (first | refine blk_drewN ?_ _ | refine blk_drew ?_ | refine blk_alloc ?_ _)); refine blk_put (cs := #[.int .i64 a1_0, .int .i64 0, .int .i64 0, .int .i64 0, .int .i64 0, .int .i64 0]) ?_ 1 _ rfl; (with_reducible repeat (first | refine blk_drewN ?_ _ | refine blk_drew ?_ | refine blk_alloc ?_ _)); refine blk_put (cs := #[.int .i64 0, .int .i64 0, .int .i64 0, .int .i64 0, .int .i64 0, .int .i64 0]) ?_ 0 _ rfl; (with_reducible repeat (first | refine blk_drewN ?_ _ | refine blk_drew ?_ | refine blk_alloc ?_ _)); refine blk_far ?_ NB104_103.out _; (with_reducible repeat (first | refine blk_drewN ?_ _ | refine blk_drew ?_ | refine blk_alloc ?_ _)); refine blk_far ?_ NB104_103.out _; (with_reducible repeat (first | refine blk_drewN ?_ _ | refine blk_drew ?_ | refine blk_alloc ?_ _)); refine blk_far ?_ NB104_103.out _; (with_reducible repeat (first | refine blk_drewN ?_ _ | refine blk_drew ?_ | refine blk_alloc ?_ _)); exact BK104.out) Tryd.underlying36 rfl (by kernel_rfl)) rfl ?_
  exact ⟨by first | rfl | (simp [errW_none, errW_some] <;> rfl) | (simp [*, errW_none, errW_some] <;> rfl), by repeat (first | (with_reducible first | exact HB.out | apply below_alloc | apply pw_below_drewN | apply below_drew1 | refine below_set ?_ GE102.out | refine below_set ?_ GE103.out | refine below_set ?_ GE104.out) | exact HB.out)⟩

end Go.Proofs.YtcejglmmjbmafaaDoor.X
