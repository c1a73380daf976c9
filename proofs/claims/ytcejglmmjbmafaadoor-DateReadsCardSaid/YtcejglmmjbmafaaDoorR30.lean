/- Words and walks, joined by a program. -/
import Derived.Test.YtcejglmmjbmafaaDoorR28
import Derived.Test.YtcejglmmjbmafaaDoorR23
import Derived.Test.YtcejglmmjbmafaaDoorR27
import Derived.Test.YtcejglmmjbmafaaDoorR26
import Derived.Test.YtcejglmmjbmafaaDoorR29
import Derived.Lib.IndexBytes
/- Plain Lean: what the printed functions of dates come to, in the calendar's words. -/
namespace Go.Proofs.YtcejglmmjbmafaaDoor.Pure
open Go.RowKit Go.Proofs.YtcejglmmjbmafaaDoor.X Go.Proofs.YtcejglmmjbmafaaDoor.Cal Go.Proofs.YtcejglmmjbmafaaDoorW.PrintWords Go.Proofs.YtcejglmmjbmafaaDoorW.PrintLast Go.Proofs.YtcejglmmjbmafaaDoorW.PrintMore
set_option linter.unusedVariables false
set_option linter.unusedSimpArgs false

theorem tdiv_nn {a : Int} (b : Int) (h : 0 ≤ a) : Int.tdiv a b = a / b := Int.tdiv_eq_ediv_of_nonneg h
theorem tmod_nn {a : Int} (b : Int) (h : 0 ≤ a) : Int.tmod a b = a % b := Int.tmod_eq_emod_of_nonneg h

theorem days_f (y : Int) (h0 : 1970 ≤ y) (h1 : y ≤ 10000) : date_days.f y = some (dys y) := by
  unfold date_days.f
  have e : wrap64 (y - 1) = y - 1 := w64 (by omega) (by omega)
  rw [e, tdiv_nn 4 (by omega), tdiv_nn 100 (by omega), tdiv_nn 400 (by omega)]
  congr 1
  unfold dys wrap64
  omega
theorem ahead_f (y : Int) (h0 : 1970 ≤ y) (h1 : y ≤ 10000) : ambryref9_ahead.f y = some (dys y) := by
  unfold ambryref9_ahead.f
  have e : wrap64 (y - 1) = y - 1 := w64 (by omega) (by omega)
  rw [e, tdiv_nn 4 (by omega), tdiv_nn 100 (by omega), tdiv_nn 400 (by omega)]
  congr 1
  unfold dys wrap64
  omega
theorem length_f (y m : Int) (h0 : 0 ≤ y) : date_length.f y m = some (len y m) := by
  unfold date_length.f
  rw [tmod_nn 4 h0, tmod_nn 100 h0, tmod_nn 400 h0]
  unfold len lp
  by_cases c1 : m = 1
  · rw [if_pos c1, if_pos c1]
    by_cases a : y % 4 = 0 <;> by_cases b : y % 100 = 0 <;> by_cases c : y % 400 = 0 <;> simp [a, b, c]
  · rw [if_neg c1, if_neg c1]
    by_cases c3 : m = 3
    · simp [c3]
    by_cases c5 : m = 5
    · simp [c5]
    by_cases c8 : m = 8
    · simp [c8]
    by_cases c10 : m = 10
    · simp [c10]
    simp [c3, c5, c8, c10]
theorem leap_f (y : Int) (h0 : 0 ≤ y) : ambryref9_leap.f y = some (lp y == 1) := by
  unfold ambryref9_leap.f
  rw [tmod_nn 4 h0, tmod_nn 100 h0, tmod_nn 400 h0]
  unfold lp
  by_cases a : y % 4 = 0 <;> by_cases b : y % 100 = 0 <;> by_cases c : y % 400 = 0 <;> simp [a, b, c]
theorem rlength_f (y m : Int) (h0 : 0 ≤ y) (h1 : 1 ≤ m) (h2 : m ≤ 12) : ambryref9_length.f y m = some (len y (m - 1)) := by
  unfold ambryref9_length.f
  rw [leap_f y h0, w64 (x := m - 1) (by omega) (by omega)]
  simp only [Option.bind_some]
  obtain ⟨n, rfl⟩ : ∃ n : Nat, m = n + 1 := ⟨(m - 1).toNat, by omega⟩
  have e : ((n : Int) + 1 - 1) = n := by omega
  rw [e]
  have hn : n < 12 := by omega
  match n, hn with
  | 0, _ | 2, _ | 3, _ | 4, _ | 5, _ | 6, _ | 7, _ | 8, _ | 9, _ | 10, _ | 11, _ => rfl
  | 1, _ =>
    have := lp_01 y
    rcases this with h | h <;> simp [len, h, rd]
  | n + 12, h => omega

/-- The months' loop. -/
theorem of_l1 (n y h mi s : Int) (hy0 : 1970 ≤ y) (hy1 : y ≤ 9999) (hn : n < dys (y + 1)) (hn0 : 0 ≤ n) (hn1 : n ≤ 2932896) (c : Nat) : ∀ (m : Int), (c : Int) = 12 - m → 0 ≤ m → m < 12 → dys y + cum y m ≤ n →
    ∃ m' d, Ok y m' d ∧ num y m' d = n ∧ Ev (fun k => date_of.l1 k n (n - dys y - cum y m) y m 0 h mi s) (y, m', d, h, mi, s, (n + 4) % 7) := by
  induction c with
  | zero => intro m hc h0 h1; omega
  | succ c ih =>
    intro m hc h0 h1 hle
    have hs := cum_succ y m h0 h1
    have hl := len_lo y m
    have hh := len_hi y m
    have hb := cum_pos y m h0 (by omega)
    have hd0 : 0 ≤ dys y := by have := dys_le hy0; rw [dys_1970] at this; exact this
    by_cases hg : len y m ≤ n - dys y - cum y m
    · have hm : m + 1 < 12 := by
        by_cases e : m = 11
        · subst e
          have := cum_12 y
          have := dys_succ y
          have e12 : (11 : Int) + 1 = 12 := rfl
          rw [e12] at hs
          omega
        · omega
      obtain ⟨m', d, ho, hnum, hev⟩ := ih (m + 1) (by omega) (by omega) hm (by omega)
      refine ⟨m', d, ho, hnum, Ev.step (f := fun k => date_of.l1 k n (n - dys y - cum y (m + 1)) y (m + 1) 0 h mi s) (fun k => ?_) hev⟩
      simp only [date_of.l1, length_f y m (by omega), Option.bind_some]
      rw [if_pos hg, w64 (x := m + 1) (by omega) (by omega), w64 (by omega) (by omega), hs]
      congr 1
      omega
    · refine ⟨m, n - dys y - cum y m + 1, ⟨hy0, hy1, h0, h1, by omega, by omega⟩, by unfold num; omega, Ev.step (f := fun _ => some _) (fun k => ?_) (Ev.now _)⟩
      simp only [date_of.l1, length_f y m (by omega), Option.bind_some]
      rw [if_neg hg]
      simp only [date_weekday.f, Option.bind_some]
      rw [w64 (x := n + 4) (by omega) (by omega), tmod_nn 7 (by omega), w64 (by omega) (by omega)]
/-- The years' loop. -/
theorem of_l0 (n h mi s : Int) (hn0 : 0 ≤ n) (hn1 : n ≤ 2932896) (c : Nat) : ∀ (y : Int), (c : Int) = 10000 - y → 1970 ≤ y → y ≤ 9999 → dys y ≤ n →
    ∃ y' m' d, Ok y' m' d ∧ num y' m' d = n ∧ Ev (fun k => date_of.l0 k n y 0 0 h mi s) (y', m', d, h, mi, s, (n + 4) % 7) := by
  induction c with
  | zero => intro y hc h0 h1; omega
  | succ c ih =>
    intro y hc h0 h1 hle
    by_cases hg : dys (y + 1) ≤ n
    · have hm : y + 1 ≤ 9999 := by
        by_cases e : y = 9999
        · subst e
          have := dys_10000
          have e12 : (9999 : Int) + 1 = 10000 := rfl
          rw [e12] at hg
          omega
        · omega
      obtain ⟨y', m', d, ho, hnum, hev⟩ := ih (y + 1) (by omega) (by omega) hm hg
      refine ⟨y', m', d, ho, hnum, Ev.step (f := fun k => date_of.l0 k n (y + 1) 0 0 h mi s) (fun k => ?_) hev⟩
      simp only [date_of.l0]
      rw [w64 (x := y + 1) (by omega) (by omega), days_f (y + 1) (by omega) (by omega)]
      simp only [Option.bind_some]
      rw [if_pos hg]
    · obtain ⟨m', d, ho, hnum, hev⟩ := of_l1 n y h mi s h0 h1 (by omega) hn0 hn1 12 0 (by omega) (by omega) (by omega) (by rw [cum_0]; omega)
      refine ⟨y, m', d, ho, hnum, Ev.step (f := fun k => date_of.l1 k n (n - dys y - cum y 0) y 0 0 h mi s) (fun k => ?_) hev⟩
      simp only [date_of.l0]
      rw [w64 (x := y + 1) (by omega) (by omega), days_f (y + 1) (by omega) (by omega), days_f y h0 (by omega)]
      simp only [Option.bind_some]
      have hd0 : 0 ≤ dys y := by have := dys_le h0; rw [dys_1970] at this; exact this
      rw [if_neg hg, cum_0, w64 (by omega) (by omega)]
      congr 1
      omega
theorem guess (n : Int) (h0 : 0 ≤ n) : dys (1970 + n / 366) ≤ n := by unfold dys; omega
theorem guess_hi (n : Int) (h0 : 0 ≤ n) (h1 : n ≤ 2932896) : 1970 + n / 366 ≤ 9999 := by omega

/-- 'of': a time's parts. -/
theorem of_ev (t : Int) (h0 : 0 ≤ t) (h1 : t ≤ 253402300799) :
    ∃ y m d, Ok y m d ∧ num y m d = t / 86400 ∧ Ev (fun k => date_of.f k t) (y, m, d, t % 86400 / 3600, t % 86400 / 60 % 60, t % 60, (t / 86400 + 4) % 7) := by
  obtain ⟨y, m, d, ho, hn, hev⟩ := of_l0 (t / 86400) (t % 86400 / 3600) (t % 86400 / 60 % 60) (t % 60) (by omega) (by omega) (10000 - (1970 + t / 86400 / 366)).toNat (1970 + t / 86400 / 366) (by omega) (by omega) (by omega) (guess _ (by omega))
  refine ⟨y, m, d, ho, hn, Ev.congr (fun k => ?_) hev⟩
  simp only [date_of.f]
  rw [tdiv_nn 86400 h0, tmod_nn 86400 h0, tmod_nn 60 h0, tdiv_nn 3600 (by omega), tdiv_nn 60 (a := t % 86400) (by omega), w64 (x := t / 86400) (by omega) (by omega), tdiv_nn 366 (by omega), w64 (x := t / 86400 / 366) (by omega) (by omega), w64 (by omega) (by omega), w64 (x := t % 86400 / 3600) (by omega) (by omega), w64 (x := t % 86400 / 60) (by omega) (by omega), tmod_nn 60 (by omega)]

/-- 'seconds'. -/
theorem sec_l0 (y mo d h mi s : Int) (hy0 : 1970 ≤ y) (hy1 : y ≤ 9999) (hm0 : 0 ≤ mo) (hm1 : mo < 12) (hh : 0 ≤ h ∧ h ≤ 23) (hmi : 0 ≤ mi ∧ mi ≤ 59) (hs : 0 ≤ s ∧ s ≤ 59) (a : Int) (ha0 : 0 ≤ a) (ha1 : a ≤ 4000000) (c : Nat) : ∀ i : Int, (c : Int) = mo - i → 0 ≤ i → i ≤ mo →
    Ev (fun k => date_moment_seconds.l0 k (a + cum y i) mo i y mo d h mi s) ((a + cum y mo) * 86400 + h * 3600 + mi * 60 + s) := by
  induction c with
  | zero =>
    intro i hc h0 h1
    obtain rfl : i = mo := by omega
    refine Ev.step (f := fun _ => some _) (fun k => ?_) (Ev.now _)
    simp only [date_moment_seconds.l0]
    have hb := cum_pos y i h0 (by omega)
    rw [if_neg (by omega), w64 (x := (a + cum y i) * 86400) (by omega) (by omega), w64 (x := h * 3600) (by omega) (by omega), w64 (x := mi * 60) (by omega) (by omega), w64 (x := h * 3600 + mi * 60) (by omega) (by omega), w64 (x := h * 3600 + mi * 60 + s) (by omega) (by omega), w64 (by omega) (by omega)]
    congr 1
    omega
  | succ c ih =>
    intro i hc h0 h1
    have hb := cum_pos y i h0 (by omega)
    have hs := cum_succ y i h0 (by omega)
    have hh := len_hi y i
    have hl := len_lo y i
    refine Ev.step (f := fun k => date_moment_seconds.l0 k (a + cum y (i + 1)) mo (i + 1) y mo d h mi s) (fun k => ?_) (ih (i + 1) (by omega) (by omega) (by omega))
    simp only [date_moment_seconds.l0]
    rw [if_pos (by omega), length_f y i (by omega)]
    simp only [Option.bind_some]
    rw [w64 (x := i + 1) (by omega) (by omega), w64 (by omega) (by omega), hs]
    congr 1
    omega
theorem sec_ev (y mo d h mi s : Int) (ho : Ok y mo d) (hh : 0 ≤ h ∧ h ≤ 23) (hmi : 0 ≤ mi ∧ mi ≤ 59) (hs : 0 ≤ s ∧ s ≤ 59) :
    Ev (fun k => date_moment_seconds.f k y mo d h mi s) (num y mo d * 86400 + h * 3600 + mi * 60 + s) := by
  have hd0 : 0 ≤ dys y := by have := dys_le ho.y0; rw [dys_1970] at this; exact this
  have hd1 : dys y ≤ 2932897 := by have := dys_le (show y ≤ 10000 by have := ho.y1; omega); rw [dys_10000] at this; exact this
  have hl := len_hi y mo
  have hev := sec_l0 y mo d h mi s ho.y0 ho.y1 ho.m0 ho.m1 hh hmi hs (dys y + d - 1) (by have := ho.d0; omega) (by have := ho.d1; omega) mo.toNat 0 (by have := ho.m0; omega) (by omega) ho.m0
  have e : dys y + d - 1 + cum y mo = num y mo d := by unfold num; omega
  rw [e] at hev
  refine Ev.congr (fun k => ?_) hev
  simp only [date_moment_seconds.f, days_f y ho.y0 (by have := ho.y1; omega), Option.bind_some]
  have := ho.d0; have := ho.d1
  rw [w64 (x := dys y + d) (by omega) (by omega), w64 (by omega) (by omega), cum_0]
  congr 1
  omega
end Go.Proofs.YtcejglmmjbmafaaDoor.Pure
/- Plain Lean: the three forms of a time's text, as lists of bytes; what the printed functions write. -/
namespace Go.Proofs.YtcejglmmjbmafaaDoor.Pure
open Go.RowKit Go.Proofs.YtcejglmmjbmafaaDoor.X Go.Proofs.YtcejglmmjbmafaaDoor.Cal Go.Proofs.YtcejglmmjbmafaaDoorW.PrintWords Go.Proofs.YtcejglmmjbmafaaDoorW.PrintLast Go.Proofs.YtcejglmmjbmafaaDoorW.PrintMore
set_option linter.unusedVariables false
set_option linter.unusedSimpArgs false

theorem bytes_append (a b : List UInt8) : X.bytes a ++ X.bytes b = X.bytes (a ++ b) := by
  apply ByteArray.ext
  simp [X.bytes]
theorem bytes_size (a : List UInt8) : (X.bytes a).size = a.length := rfl
theorem bytes_inj {a b : List UInt8} (h : X.bytes a = X.bytes b) : a = b := by
  have := congrArg (fun x : ByteArray => x.data.toList) h
  simpa [X.bytes] using this
theorem eq_bytes (s : ByteArray) : s = X.bytes s.data.toList := by
  apply ByteArray.ext
  simp [X.bytes]
theorem bytes_list (l : List UInt8) : (X.bytes l).data.toList = l := by simp [X.bytes]
theorem bytes_toList (l : List UInt8) : (X.bytes l).toList = l := by rw [ByteArray.toList_eq, bytes_list]
theorem bt_bytes (l : List UInt8) (i : Nat) (h : i < l.length) : bt (X.bytes l) i = ((l[i]).toNat : Int) := by
  have h' : i < (X.bytes l).size := h
  rw [← bt_at (X.bytes l) (i : Int) (by simpa using h')]
  rfl
theorem extract_bytes (l : List UInt8) (a b : Nat) : (X.bytes l).extract a b = X.bytes ((l.drop a).take (b - a)) := by
  apply ByteArray.ext
  simp [X.bytes, ByteArray.data_extract]

/-- A digit's byte. -/
def dg (n : Int) : UInt8 := UInt8.ofNat (48 + n.toNat)
theorem dg_nat {n : Int} (h0 : 0 ≤ n) (h9 : n ≤ 9) : ((dg n).toNat : Int) = 48 + n := by
  unfold dg
  rw [UInt8.toNat_ofNat']
  omega
/-- Two digits. -/
def tw (n : Int) : List UInt8 := [dg (n / 10 % 10), dg (n % 10)]
theorem itoa_f (n : Int) (h0 : 0 ≤ n) (h9 : n < 10) : strconv_Itoa.f n = some (X.bytes [dg n]) := by
  unfold strconv_Itoa.f
  rw [if_pos (by omega)]
  unfold Lib.decDigits
  rw [dif_pos (by omega)]
  rfl
theorem two_f (n : Int) (h0 : 0 ≤ n) (h1 : n ≤ 1000000) : date_two.f n = some (X.bytes (tw n)) := by
  unfold date_two.f
  rw [tdiv_nn 10 h0, w64 (x := n / 10) (by omega) (by omega), tmod_nn 10 (by omega), tmod_nn 10 h0, itoa_f _ (by omega) (by omega), itoa_f _ (by omega) (by omega)]
  simp only [Option.bind_some]
  rw [if_pos (by simp [bytes_size]), bytes_append]
  rfl
theorem digits10 (n : Int) (h0 : 0 ≤ n) (h9 : n < 10) : (⟨#[48, 49, 50, 51, 52, 53, 54, 55, 56, 57]⟩ : ByteArray).extract n.toNat (n + 1).toNat = X.bytes [dg n] := by
  obtain ⟨k, rfl⟩ := Int.eq_ofNat_of_zero_le h0
  match k, h9 with
  | 0, _ | 1, _ | 2, _ | 3, _ | 4, _ | 5, _ | 6, _ | 7, _ | 8, _ | 9, _ => decide
  | k + 10, h => omega
theorem rtwo_f (n : Int) (h0 : 0 ≤ n) (h1 : n ≤ 1000000) : ambryref9_two.f n = some (X.bytes (tw n)) := by
  unfold ambryref9_two.f
  rw [tdiv_nn 10 h0, w64 (x := n / 10) (by omega) (by omega), tmod_nn 10 (by omega), tmod_nn 10 h0, w64 (x := n / 10 % 10 + 1) (by omega) (by omega), w64 (x := n % 10 + 1) (by omega) (by omega), digits10 _ (by omega) (by omega), digits10 _ (by omega) (by omega), bytes_append]
  rw [if_pos (by omega), if_pos (by omega), if_pos (by omega), if_pos (by omega), if_pos (by omega), if_pos (by omega), if_pos (by simp [bytes_size])]
  rfl
/-- A time of day. -/
def ck (h mi s : Int) : List UInt8 := tw h ++ [58] ++ tw mi ++ [58] ++ tw s
theorem lit_bytes (l : List UInt8) : (⟨l.toArray⟩ : ByteArray) = X.bytes l := rfl
theorem clock_f (y mo d h mi s : Int) (hh : 0 ≤ h ∧ h ≤ 23) (hmi : 0 ≤ mi ∧ mi ≤ 59) (hs : 0 ≤ s ∧ s ≤ 59) : date_moment_clock.f y mo d h mi s = some (X.bytes (ck h mi s)) := by
  unfold date_moment_clock.f
  rw [two_f h hh.1 (by omega), two_f mi hmi.1 (by omega), two_f s hs.1 (by omega)]
  simp only [Option.bind_some, lit_bytes, bytes_append]
  rw [if_pos (by simp [bytes_size, tw]), if_pos (by simp [bytes_size, tw]), if_pos (by simp [bytes_size, tw]), if_pos (by simp [bytes_size, tw])]
  rfl
/-- Names. -/
def ld (w : Int) : List UInt8 := (longDay w).data.toList
def sd (w : Int) : List UInt8 := (ld w).take 3
def m3 (m : Int) : List UInt8 := (shortMonth m).data.toList
theorem ld_f (w : Int) : longDay w = X.bytes (ld w) := eq_bytes _
theorem sd_f (w : Int) : (longDay w).extract 0 3 = X.bytes (sd w) := by rw [ld_f, extract_bytes]; rfl
theorem m3_f (m : Int) : shortMonth m = X.bytes (m3 m) := eq_bytes _
/-- A day's number, a blank ahead of one digit. -/
def dl (d : Int) : List UInt8 := if d < 10 then [32, dg d] else tw d
/-- The three forms. -/
def T1 (y mo d h mi s w : Int) : List UInt8 := sd w ++ [44, 32] ++ tw d ++ [32] ++ m3 mo ++ [32] ++ tw (y / 100) ++ tw y ++ [32] ++ ck h mi s ++ [32, 71, 77, 84]
def T2 (y mo d h mi s w : Int) : List UInt8 := ld w ++ [44, 32] ++ tw d ++ [45] ++ m3 mo ++ [45] ++ tw y ++ [32] ++ ck h mi s ++ [32, 71, 77, 84]
def T3 (y mo d h mi s w : Int) : List UInt8 := sd w ++ [32] ++ m3 mo ++ [32] ++ dl d ++ [32] ++ ck h mi s ++ [32] ++ tw (y / 100) ++ tw y
/-- A time's parts that may be. -/
structure Tm (y mo d h mi s : Int) : Prop where
  ok : Ok y mo d
  h0 : 0 ≤ h
  h1 : h ≤ 23
  mi0 : 0 ≤ mi
  mi1 : mi ≤ 59
  s0 : 0 ≤ s
  s1 : s ≤ 59
/-- Its seconds, its day of the week. -/
def sec (y mo d h mi s : Int) : Int := num y mo d * 86400 + h * 3600 + mi * 60 + s
def wk (y mo d : Int) : Int := (num y mo d + 4) % 7
theorem wk0 (y mo d : Int) : 0 ≤ wk y mo d ∧ wk y mo d < 7 := by unfold wk; omega
theorem Tm.d {y mo d h mi s : Int} (t : Tm y mo d h mi s) : 1 ≤ d ∧ d ≤ 31 := ⟨t.ok.d0, Int.le_trans t.ok.d1 (len_hi _ _)⟩
theorem text1_f {y mo d h mi s : Int} (t : Tm y mo d h mi s) (w : Int) (hw : 0 ≤ w ∧ w < 7) : text1 y mo d h mi s w = some (X.bytes (T1 y mo d h mi s w)) := by
  have := t.ok.y0; have := t.ok.y1; have hd := t.d
  unfold text1
  rw [if_pos ⟨hw.1, hw.2, t.ok.m0, t.ok.m1⟩, tdiv_nn 100 (by omega), w64 (x := y / 100) (by omega) (by omega), two_f d (by omega) (by omega), two_f (y / 100) (by omega) (by omega), two_f y (by omega) (by omega), clock_f y mo d h mi s ⟨t.h0, t.h1⟩ ⟨t.mi0, t.mi1⟩ ⟨t.s0, t.s1⟩]
  simp only [Option.bind_some, sd_f, m3_f, bytes_append]
  rfl
theorem late_f {y mo d h mi s : Int} (t : Tm y mo d h mi s) (w : Int) (hw : 0 ≤ w ∧ w < 7) : date_late.f y mo d h mi s w = some (X.bytes (T2 y mo d h mi s w)) := by
  have := t.ok.y0; have := t.ok.y1; have hd := t.d
  unfold date_late.f
  rw [if_pos ⟨hw.1, hw.2, t.ok.m0, t.ok.m1⟩, two_f d (by omega) (by omega), two_f y (by omega) (by omega), clock_f y mo d h mi s ⟨t.h0, t.h1⟩ ⟨t.mi0, t.mi1⟩ ⟨t.s0, t.s1⟩]
  simp only [Option.bind_some, ld_f, m3_f, bytes_append]
  rfl
theorem dayOf_f (d : Int) (h0 : 1 ≤ d) (h1 : d ≤ 31) : dayOf d (X.bytes (tw d)) = X.bytes (dl d) := by
  unfold dayOf dl
  split
  · rw [extract_bytes, bytes_append]
    have e : d % 10 = d := by omega
    simp [tw, e]
  · rfl
theorem plain_f {y mo d h mi s : Int} (t : Tm y mo d h mi s) (w : Int) (hw : 0 ≤ w ∧ w < 7) : date_plain.f y mo d h mi s w = some (X.bytes (T3 y mo d h mi s w)) := by
  have := t.ok.y0; have := t.ok.y1; have hd := t.d
  unfold date_plain.f
  rw [if_pos ⟨hw.1, hw.2, t.ok.m0, t.ok.m1⟩, tdiv_nn 100 (by omega), w64 (x := y / 100) (by omega) (by omega), two_f d (by omega) (by omega), two_f (y / 100) (by omega) (by omega), two_f y (by omega) (by omega), clock_f y mo d h mi s ⟨t.h0, t.h1⟩ ⟨t.mi0, t.mi1⟩ ⟨t.s0, t.s1⟩]
  simp only [Option.bind_some, sd_f, m3_f, bytes_append, dayOf_f d hd.1 hd.2]
  rfl
/-- A time within the limits. -/
def cl (t : Int) : Int := mn (mx t 0) 253402300799
theorem cl_lo (t : Int) : 0 ≤ cl t ∧ cl t ≤ 253402300799 := by unfold cl mn mx; split <;> split <;> omega
theorem cl_id {t : Int} (h0 : 0 ≤ t) (h1 : t ≤ 253402300799) : cl t = t := by unfold cl mn mx; split <;> split <;> omega
/-- Every time within the limits has its parts. -/
theorem parts (t : Int) (h0 : 0 ≤ t) (h1 : t ≤ 253402300799) :
    ∃ y mo d, Tm y mo d (t % 86400 / 3600) (t % 86400 / 60 % 60) (t % 60) ∧ sec y mo d (t % 86400 / 3600) (t % 86400 / 60 % 60) (t % 60) = t ∧ num y mo d = t / 86400 ∧
      Ev (fun k => date_of.f k t) (y, mo, d, t % 86400 / 3600, t % 86400 / 60 % 60, t % 60, wk y mo d) := by
  obtain ⟨y, mo, d, ho, hn, hev⟩ := of_ev t h0 h1
  refine ⟨y, mo, d, ⟨ho, by omega, by omega, by omega, by omega, by omega, by omega⟩, by unfold sec; rw [hn]; omega, hn, ?_⟩
  unfold wk
  rw [hn]
  exact hev
/-- What 'of' makes of a time's seconds. -/
theorem of_sec {y mo d h mi s : Int} (t : Tm y mo d h mi s) : 0 ≤ sec y mo d h mi s ∧ sec y mo d h mi s ≤ 253402300799 ∧ Ev (fun k => date_of.f k (sec y mo d h mi s)) (y, mo, d, h, mi, s, wk y mo d) := by
  have hb := t.ok.bound
  have := t.h0; have := t.h1; have := t.mi0; have := t.mi1; have := t.s0; have := t.s1
  have hs0 : 0 ≤ sec y mo d h mi s := by unfold sec; omega
  have hs1 : sec y mo d h mi s ≤ 253402300799 := by unfold sec; omega
  refine ⟨hs0, hs1, ?_⟩
  obtain ⟨y', mo', d', t', hs', hn', hev⟩ := parts _ hs0 hs1
  have hn : num y' mo' d' = num y mo d := by rw [hn']; unfold sec; omega
  obtain ⟨rfl, rfl, rfl⟩ := num_inj t'.ok t.ok hn
  have e1 : sec y' mo' d' h mi s % 86400 / 3600 = h := by unfold sec; omega
  have e2 : sec y' mo' d' h mi s % 86400 / 60 % 60 = mi := by unfold sec; omega
  have e3 : sec y' mo' d' h mi s % 60 = s := by unfold sec; omega
  rw [e1, e2, e3] at hev
  exact hev
/-- 'Text' of a time. -/
theorem text_ev {y mo d h mi s : Int} (t : Tm y mo d h mi s) {x : Int} (hx : cl x = sec y mo d h mi s) : Ev (fun k => date_Text.f k x) (X.bytes (T1 y mo d h mi s (wk y mo d))) := by
  obtain ⟨h0, h1, hev⟩ := of_sec t
  refine Ev.congr (fun k => ?_) (Ev.bind hev (f := fun k z => text1 z.1 z.2.1 z.2.2.1 z.2.2.2.1 z.2.2.2.2.1 z.2.2.2.2.2.1 z.2.2.2.2.2.2) (Ev.congr (fun k => text1_f t _ (wk0 y mo d)) (Ev.now _)))
  simp only [date_Text.f]
  rw [show mn (mx x 0) 253402300799 = sec y mo d h mi s from hx]
end Go.Proofs.YtcejglmmjbmafaaDoor.Pure
/- Plain Lean: what the printed functions of dates read. -/
namespace Go.Proofs.YtcejglmmjbmafaaDoor.Pure
open Go.RowKit Go.Proofs.YtcejglmmjbmafaaDoor.X Go.Proofs.YtcejglmmjbmafaaDoor.Cal Go.Proofs.YtcejglmmjbmafaaDoorW.PrintWords Go.Proofs.YtcejglmmjbmafaaDoorW.PrintLast Go.Proofs.YtcejglmmjbmafaaDoorW.PrintMore
set_option linter.unusedVariables false
set_option linter.unusedSimpArgs false

/-! ### number -/
/-- One byte more. -/
def stepD (n : Int) (b : UInt8) : Int := if 48 ≤ (b.toNat : Int) ∧ (b.toNat : Int) ≤ 57 then 10 * n + ((b.toNat : Int) - 48) else n
def numS (l : List UInt8) (at_ size : Nat) : Int := ((l.drop at_).take size).foldl stepD 0
def bnd : Nat → Int
  | 0 => 100000000
  | c + 1 => bnd c / 10
theorem bnd_le : ∀ c, bnd c ≤ 100000000
  | 0 => by decide
  | c + 1 => by have := bnd_le c; simp only [bnd]; omega
theorem bt_getD (s : ByteArray) (i : Int) (h0 : 0 ≤ i) (h1 : i < s.size) : ∃ b, s.data.toList[i.toNat]? = some b ∧ bt s i = (b.toNat : Int) := by
  have h : i.toNat < s.size := by omega
  refine ⟨s[i.toNat], Lib.data_getElem? s _ h, (bt_at s i h).symm⟩
theorem num_l0 (s : ByteArray) (x1 x2 : Int) (h1 : 0 ≤ x1) (h2 : x1 ≤ 1000000000000) (h3 : 0 ≤ x2) (h4 : x2 ≤ 4) (c : Nat) : ∀ (n i : Int), (c : Int) = x1 + x2 - i → x1 ≤ i → 0 ≤ n → n + 1 ≤ bnd c →
    Ev (fun k => date_reader_number.l0 k x1 x2 n i s) (((s.data.toList.drop i.toNat).take c).foldl stepD n) ∧ 0 ≤ ((s.data.toList.drop i.toNat).take c).foldl stepD n ∧ ((s.data.toList.drop i.toNat).take c).foldl stepD n + 1 ≤ bnd 0 := by
  induction c with
  | zero =>
    intro n i hc hi hn hb
    refine ⟨?_, by simpa using hn, by simpa using hb⟩
    refine Ev.step (f := fun k => date_reader_number.j1 k x1 x2 n i false s) (fun k => ?_) (Ev.step (f := fun _ => some _) (fun k => ?_) (Ev.now _))
    · simp only [date_reader_number.l0]
      rw [w64 (x := x1 + x2) (by omega) (by omega), if_neg (by omega)]
    · simp only [date_reader_number.j1]
      simp
  | succ c ih =>
    intro n i hc hi hn hb
    have hlt : i < x1 + x2 := by omega
    have hbc := bnd_le c
    have hb2 : 10 * n + 10 ≤ bnd c := by simp only [bnd] at hb; omega
    have e1 : (i + 1).toNat = i.toNat + 1 := by omega
    by_cases hs : i < s.size
    · obtain ⟨b, hbl, hbt⟩ := bt_getD s i (by omega) hs
      have hbb := b.toNat_lt
      have hd : (s.data.toList.drop i.toNat).take (c + 1) = b :: (s.data.toList.drop (i + 1).toNat).take c := by
        rw [e1]
        have hlt' : i.toNat < s.data.toList.length := (List.getElem?_eq_some_iff.1 hbl).1
        rw [List.drop_eq_getElem_cons hlt', List.take_succ_cons]
        congr 1
        exact (List.getElem?_eq_some_iff.1 hbl).2
      rw [hd, List.foldl_cons]
      have hst : 0 ≤ stepD n b ∧ stepD n b + 1 ≤ bnd c := by unfold stepD; split <;> omega
      obtain ⟨hev, hr⟩ := ih (stepD n b) (i + 1) (by omega) (by omega) hst.1 hst.2
      refine ⟨?_, hr⟩
      refine Ev.step (f := fun k => date_reader_number.j1 k x1 x2 n i true s) (fun k => ?_) (Ev.step (f := fun k => date_reader_number.l0 k x1 x2 (stepD n b) (i + 1) s) (fun k => ?_) hev)
      · simp only [date_reader_number.l0]
        rw [w64 (x := x1 + x2) (by omega) (by omega), if_pos hlt, decide_eq_true hs]
      · simp only [date_reader_number.j1, if_true]
        rw [if_pos (by omega), if_pos hs, hbt, w64 (x := i + 1) (by omega) (by omega)]
        unfold stepD
        by_cases c1 : (b.toNat : Int) ≥ 48
        · by_cases c2 : (b.toNat : Int) ≤ 57
          · rw [if_pos c1, if_pos c2, if_pos ⟨c1, c2⟩, w64 (x := 10 * n) (by omega) (by omega), w64 (by omega) (by omega)]
            congr 1
            omega
          · rw [if_pos c1, if_neg c2, if_neg (fun z => c2 z.2)]
        · rw [if_neg c1, if_neg (fun z => c1 z.1)]
    · have hd : (s.data.toList.drop i.toNat).take (c + 1) = [] := by
        have h9 : s.data.toList.length = s.size := by simp
        have : s.data.toList.length ≤ i.toNat := by omega
        rw [List.drop_eq_nil_of_le this]
        rfl
      rw [hd]
      refine ⟨?_, by simpa using hn, by have e0 : bnd 0 = 100000000 := rfl; rw [e0]; simp; omega⟩
      refine Ev.step (f := fun k => date_reader_number.j1 k x1 x2 n i false s) (fun k => ?_) (Ev.step (f := fun _ => some _) (fun k => ?_) (Ev.now _))
      · simp only [date_reader_number.l0]
        rw [w64 (x := x1 + x2) (by omega) (by omega), if_pos hlt, decide_eq_false hs]
      · simp only [date_reader_number.j1]
        simp
theorem num_ev (s : ByteArray) (i : Int) (sz : Nat) (h0 : 0 ≤ i) (h1 : i ≤ 1000000000000) (h2 : sz ≤ 4) :
    Ev (fun k => date_reader_number.f k s i sz) (numS s.data.toList i.toNat sz) ∧ 0 ≤ numS s.data.toList i.toNat sz ∧ numS s.data.toList i.toNat sz ≤ 99999999 := by
  have hb : (0 : Int) + 1 ≤ bnd sz := by
    match sz, h2 with
    | 0, _ | 1, _ | 2, _ | 3, _ | 4, _ => decide
  obtain ⟨a, b, c⟩ := num_l0 s i sz h0 h1 (by omega) (by omega) sz 0 i (by omega) (by omega) (by omega) hb
  have e0 : bnd 0 = 100000000 := rfl
  rw [e0] at c
  exact ⟨a, b, by unfold numS; omega⟩

/-! ### month -/
/-- A short month's number, -1 for another text. -/
def mIdx (x : List UInt8) : Int := Lib.idxOfS shortMonths (X.bytes x)
theorem idx_cases (x : ByteArray) : ∀ (zs : List ByteArray) (i : Nat), (Lib.idxFromS zs x i = -1 ∧ ∀ z ∈ zs, z ≠ x) ∨ ∃ k, k < zs.length ∧ Lib.idxFromS zs x i = ((i + k : Nat) : Int) ∧ zs[k]? = some x
  | [], i => .inl ⟨rfl, by simp⟩
  | z :: zs, i => by
    by_cases h : z = x
    · exact .inr ⟨0, by simp, by simp [Lib.idxFromS, h], by simp [h]⟩
    · rcases idx_cases x zs (i + 1) with ⟨h1, h2⟩ | ⟨k, hk, h1, h2⟩
      · exact .inl ⟨by simp [Lib.idxFromS, h, h1], by intro y hy; rcases List.mem_cons.1 hy with rfl | hy; exact h; exact h2 y hy⟩
      · exact .inr ⟨k + 1, by simp; omega, by simp only [Lib.idxFromS, if_neg h, h1]; omega, by simpa using h2⟩
theorem mIdx_cases (x : List UInt8) : mIdx x = -1 ∨ 0 ≤ mIdx x ∧ mIdx x < 12 ∧ x = m3 (mIdx x) := by
  unfold mIdx Lib.idxOfS
  rcases idx_cases (X.bytes x) shortMonths 0 with ⟨h, _⟩ | ⟨k, hk, h, hx⟩
  · exact .inl h
  · have hk' : k < 12 := hk
    rw [h]
    refine .inr ⟨by omega, by omega, ?_⟩
    unfold m3 shortMonth
    have e : ((0 + k : Nat) : Int).toNat = k := by omega
    rw [e, List.getD_eq_getElem?_getD, hx]
    simp [X.bytes]
theorem mIdx_m3 (m : Int) (h0 : 0 ≤ m) (h1 : m < 12) : mIdx (m3 m) = m := by
  obtain ⟨k, rfl⟩ := Int.eq_ofNat_of_zero_le h0
  match k, h1 with
  | 0, _ | 1, _ | 2, _ | 3, _ | 4, _ | 5, _ | 6, _ | 7, _ | 8, _ | 9, _ | 10, _ | 11, _ => decide
  | k + 12, h => omega
theorem m3_len (m : Int) (h0 : 0 ≤ m) (h1 : m < 12) : (m3 m).length = 3 := by
  have := shortMonth_size h0 h1
  unfold m3
  simpa using this
def monS (l : List UInt8) (at_ : Nat) : Int := if l.length < at_ + 3 then -1 else mIdx ((l.drop at_).take 3)
theorem month_f (s : ByteArray) (i : Int) (h0 : 0 ≤ i) (h1 : i ≤ 1000000000000) : date_reader_month.f s i = some (monS s.data.toList i.toNat) := by
  unfold date_reader_month.f monS
  have hl : s.data.toList.length = s.size := by simp
  rw [if_pos (by omega), hl]
  by_cases c : (s.size : Int) < i + 3
  · rw [if_pos c, if_pos (by omega)]
  · rw [if_neg c, if_neg (by omega)]
    unfold mIdx
    rw [eq_bytes s, extract_bytes, bytes_list]
    congr 4
    omega
theorem monS_hi (l : List UInt8) (i : Nat) : -1 ≤ monS l i ∧ monS l i < 12 := by
  unfold monS
  split
  · omega
  · rcases mIdx_cases ((l.drop i).take 3) with h | h <;> omega

/-! ### right, and one moment -/
theorem right_f (y mo d h mi s : Int) (hm : mo < 12) (hh : 0 ≤ h) (hmi : 0 ≤ mi) (hs : 0 ≤ s) : ∃ b, date_moment_right.f y mo d h mi s = some b ∧ (b = true ↔ Tm y mo d h mi s) := by
  unfold date_moment_right.f
  by_cases c1 : y ≥ 1970
  · rw [if_pos c1]
    by_cases c2 : y ≤ 9999
    · rw [if_pos c2]
      by_cases c3 : mo ≥ 0
      · rw [if_pos c3]
        by_cases c4 : d ≥ 1
        · rw [if_pos c4, length_f y mo (by omega)]
          simp only [Option.bind_some]
          by_cases c5 : d ≤ len y mo
          · rw [if_pos c5]
            by_cases c6 : h ≤ 23
            · rw [if_pos c6]
              by_cases c7 : mi ≤ 59
              · rw [if_pos c7]
                refine ⟨_, rfl, ?_⟩
                rw [decide_eq_true_iff]
                exact ⟨fun c8 => ⟨⟨c1, c2, c3, hm, c4, c5⟩, hh, c6, hmi, c7, hs, c8⟩, fun t => t.s1⟩
              · rw [if_neg c7]
                exact ⟨_, rfl, by simp; exact fun t => c7 t.mi1⟩
            · rw [if_neg c6]
              exact ⟨_, rfl, by simp; exact fun t => c6 t.h1⟩
          · rw [if_neg c5]
            exact ⟨_, rfl, by simp; exact fun t => c5 t.ok.d1⟩
        · rw [if_neg c4]
          exact ⟨_, rfl, by simp; exact fun t => c4 t.ok.d0⟩
      · rw [if_neg c3]
        exact ⟨_, rfl, by simp; exact fun t => c3 t.ok.m0⟩
    · rw [if_neg c2]
      exact ⟨_, rfl, by simp; exact fun t => c2 t.ok.y1⟩
  · rw [if_neg c1]
    exact ⟨_, rfl, by simp; exact fun t => c1 t.ok.y0⟩
/-- A text is one of a moment's three. -/
def Says (s : ByteArray) (y mo d h mi sc : Int) : Prop :=
  s = X.bytes (T1 y mo d h mi sc (wk y mo d)) ∨ s = X.bytes (T2 y mo d h mi sc (wk y mo d)) ∧ y < 2070 ∨ s = X.bytes (T3 y mo d h mi sc (wk y mo d))
/-- The end of one moment's trial. -/
def fin (a0 : ByteArray) (y mo d h mi s : Int) (t : Int) (z : Int × Int × Int × Int × Int × Int × Int) (a : ByteArray) : Option (Int × Int) :=
  if a0 = a then some (t, 0) else (date_late.f y mo d h mi s z.2.2.2.2.2.2).bind fun b => (date_plain.f y mo d h mi s z.2.2.2.2.2.2).bind fun c =>
        if (a0 = b ∧ 1970 ≤ y ∧ y < 2070) ∨ a0 = c then some (t, 0) else some (0, 80)
theorem one_ev (a0 : ByteArray) {y mo d h mi s : Int} (t : Tm y mo d h mi s) {r : Int × Int} (hr : fin a0 y mo d h mi s (sec y mo d h mi s) (y, mo, d, h, mi, s, wk y mo d) (X.bytes (T1 y mo d h mi s (wk y mo d))) = some r) :
    Ev (fun k => parseOne k a0 y mo d h mi s) r := by
  obtain ⟨b, hb, hbt⟩ := right_f y mo d h mi s t.ok.m1 t.h0 t.mi0 t.s0
  obtain rfl := hbt.2 t
  obtain ⟨h0, h1, hof⟩ := of_sec t
  have hsec : Ev (fun k => date_moment_seconds.f k y mo d h mi s) (sec y mo d h mi s) := sec_ev y mo d h mi s t.ok ⟨t.h0, t.h1⟩ ⟨t.mi0, t.mi1⟩ ⟨t.s0, t.s1⟩
  have htx := text_ev t (cl_id h0 h1)
  refine Ev.congr (f := fun k => (date_moment_seconds.f k y mo d h mi s).bind fun t => (date_of.f k t).bind fun z => (date_Text.f k t).bind fun a => fin a0 y mo d h mi s t z a) (fun k => ?_) ?_
  · simp only [parseOne, hb, Option.bind_some, if_true]
    rfl
  refine Ev.bind (f := fun k t => (date_of.f k t).bind fun z => (date_Text.f k t).bind fun a => fin a0 y mo d h mi s t z a) hsec ?_
  refine Ev.bind (f := fun k z => (date_Text.f k (sec y mo d h mi s)).bind fun a => fin a0 y mo d h mi s (sec y mo d h mi s) z a) hof ?_
  refine Ev.bind (f := fun k a => fin a0 y mo d h mi s (sec y mo d h mi s) (y, mo, d, h, mi, s, wk y mo d) a) htx ?_
  exact Ev.congr (fun k => hr) (Ev.now _)
theorem one_yes (a0 : ByteArray) {y mo d h mi s : Int} (t : Tm y mo d h mi s) (hs : Says a0 y mo d h mi s) : Ev (fun k => parseOne k a0 y mo d h mi s) (sec y mo d h mi s, 0) := by
  refine one_ev a0 t ?_
  unfold fin
  simp only
  rw [late_f t _ (wk0 y mo d), plain_f t _ (wk0 y mo d)]
  simp only [Option.bind_some]
  rcases hs with hs | ⟨hs, hy⟩ | hs
  · rw [if_pos hs]
  · split
    · rfl
    · rw [if_pos (.inl ⟨hs, t.ok.y0, hy⟩)]
  · split
    · rfl
    · rw [if_pos (.inr hs)]
theorem one_no (a0 : ByteArray) (y mo d h mi s : Int) (hm : mo < 12) (hh : 0 ≤ h) (hmi : 0 ≤ mi) (hs : 0 ≤ s) (hn : ¬ (Tm y mo d h mi s ∧ Says a0 y mo d h mi s)) : Ev (fun k => parseOne k a0 y mo d h mi s) (0, 80) := by
  by_cases t : Tm y mo d h mi s
  · refine one_ev a0 t ?_
    unfold fin
    simp only
    rw [late_f t _ (wk0 y mo d), plain_f t _ (wk0 y mo d)]
    simp only [Option.bind_some]
    rw [if_neg (fun e => hn ⟨t, .inl e⟩), if_neg (fun e => hn ⟨t, e.elim (fun e => .inr (.inl ⟨e.1, e.2.2⟩)) (fun e => .inr (.inr e))⟩)]
  · obtain ⟨b, hb, hbt⟩ := right_f y mo d h mi s hm hh hmi hs
    have hf : b = false := by cases b; rfl; exact absurd (hbt.1 rfl) t
    subst hf
    refine Ev.congr (fun k => ?_) (Ev.now _)
    simp only [parseOne, hb, Option.bind_some]
    simp
end Go.Proofs.YtcejglmmjbmafaaDoor.Pure
/- Plain Lean: what date.Parse makes of any text. -/
namespace Go.Proofs.YtcejglmmjbmafaaDoor.Pure
open Go.RowKit Go.Proofs.YtcejglmmjbmafaaDoor.X Go.Proofs.YtcejglmmjbmafaaDoor.Cal Go.Proofs.YtcejglmmjbmafaaDoorW.PrintWords Go.Proofs.YtcejglmmjbmafaaDoorW.PrintLast Go.Proofs.YtcejglmmjbmafaaDoorW.PrintMore
set_option linter.unusedVariables false
set_option linter.unusedSimpArgs false

theorem idx_hit : ∀ (l r : List UInt8), (∀ b ∈ l, b ≠ 44) → Lib.indexByte (l ++ 44 :: r) 44 = l.length
  | [], r, _ => by simp [Lib.indexByte]
  | b :: l, r, h => by
    have hb : b ≠ 44 := h b (by simp)
    have ih := idx_hit l r (fun x hx => h x (by simp [hx]))
    have hn : ((l.length : Int) == -1) = false := by simp
    simp only [List.cons_append, Lib.indexByte, ih, hn]
    simp [hb]
theorem idx_none : ∀ (l : List UInt8), (∀ b ∈ l, b ≠ 44) → Lib.indexByte l 44 = -1
  | [], _ => rfl
  | b :: l, h => by
    have hb : b ≠ 44 := h b (by simp)
    have ih := idx_none l (fun x hx => h x (by simp [hx]))
    simp [Lib.indexByte, hb, ih]
theorem idx_range : ∀ (l : List UInt8) (c : UInt8), -1 ≤ Lib.indexByte l c ∧ Lib.indexByte l c < (l.length : Int) 
  | [], _ => by simp [Lib.indexByte]
  | b :: l, c => by
    have ih := idx_range l c
    simp only [Lib.indexByte, List.length_cons]
    split
    · omega
    · split
      · omega
      · omega

/-- A year of two digits. -/
def yr (n : Int) : Int := if n + 1900 < 1970 then n + 2000 else n + 1900
/-- What is read ahead of the trial. -/
def candI (l : List UInt8) (i : Int) : S36 :=
  if i < 0 then ⟨numS l 20 4, monS l 4, numS l 8 2, numS l 11 2, numS l 14 2, numS l 17 2⟩
  else if i = 3 then ⟨numS l 12 4, monS l 8, numS l 5 2, numS l 17 2, numS l 20 2, numS l 23 2⟩
  else ⟨yr (numS l (i + 9).toNat 2), monS l (i + 5).toNat, numS l (i + 2).toNat 2, numS l (i + 12).toNat 2, numS l (i + 15).toNat 2, numS l (i + 18).toNat 2⟩
theorem numS_nn (l : List UInt8) (a sz : Nat) : 0 ≤ numS l a sz := by
  unfold numS
  have : ∀ (l : List UInt8) (n : Int), 0 ≤ n → 0 ≤ l.foldl stepD n := by
    intro l
    induction l with
    | nil => intro n h; exact h
    | cons b l ih => intro n h; exact ih _ (by unfold stepD; split <;> omega)
  exact this _ _ (by omega)
theorem num_e (s : ByteArray) (i : Int) (sz : Nat) (h0 : 0 ≤ i) (h1 : i ≤ 1000000000000) (h2 : sz ≤ 4) : Ev (fun k => date_reader_number.f k s i sz) (numS s.data.toList i.toNat sz) := (num_ev s i sz h0 h1 h2).1
theorem num_hi (s : ByteArray) (i : Int) (sz : Nat) (h0 : 0 ≤ i) (h1 : i ≤ 1000000000000) (h2 : sz ≤ 4) : numS s.data.toList i.toNat sz ≤ 99999999 := (num_ev s i sz h0 h1 h2).2.2
theorem clockE (s : ByteArray) (y mo d i : Int) (h0 : 0 ≤ i) (h1 : i ≤ 100000000000) :
    Ev (fun k => date_reader_clock.f k s y mo d 0 0 0 i) (y, mo, d, numS s.data.toList i.toNat 2, numS s.data.toList (i + 3).toNat 2, numS s.data.toList (i + 6).toNat 2) := by
  have e3 : wrap64 (i + 3) = i + 3 := w64 (by omega) (by omega)
  have e6 : wrap64 (i + 6) = i + 6 := w64 (by omega) (by omega)
  refine Ev.congr (f := fun k => (date_reader_number.f k s i 2).bind fun t105 => ((date_reader_number.f k s (i + 3) 2).bind fun t106 => ((date_reader_number.f k s (i + 6) 2).bind fun t107 => (some (y, mo, d, t105, t106, t107))))) (fun k => by simp only [date_reader_clock.f, e3, e6]) ?_
  refine Ev.bind (f := fun k t105 => ((date_reader_number.f k s (i + 3) 2).bind fun t106 => ((date_reader_number.f k s (i + 6) 2).bind fun t107 => (some (y, mo, d, t105, t106, t107))))) (num_e s i 2 h0 (by omega) (by omega)) ?_
  refine Ev.bind (f := fun k t106 => ((date_reader_number.f k s (i + 6) 2).bind fun t107 => (some (y, mo, d, numS s.data.toList i.toNat 2, t106, t107)))) (num_e s (i + 3) 2 (by omega) (by omega) (by omega)) ?_
  refine Ev.bind (f := fun k t107 => some (y, mo, d, numS s.data.toList i.toNat 2, numS s.data.toList (i + 3).toNat 2, t107)) (num_e s (i + 6) 2 (by omega) (by omega) (by omega)) (Ev.now _)
/-- A year, a month, a day and a clock, at four places. -/
theorem fourE (s : ByteArray) (y : Nat → Option Int) (Y m d c : Int) (hy : Ev y Y) (hm : 0 ≤ m) (hm1 : m ≤ 100000000000) (hd : 0 ≤ d) (hd1 : d ≤ 100000000000) (hc : 0 ≤ c) (hc1 : c ≤ 100000000000) :
    Ev (fun k => (y k).bind fun t1 => (date_reader_month.f s m).bind fun t2 => (date_reader_number.f k s d 2).bind fun t3 => (date_reader_clock.f k s t1 t2 t3 0 0 0 c).bind fun b => some [(⟨b.1, b.2.1, b.2.2.1, b.2.2.2.1, b.2.2.2.2.1, b.2.2.2.2.2⟩ : S36)])
      [⟨Y, monS s.data.toList m.toNat, numS s.data.toList d.toNat 2, numS s.data.toList c.toNat 2, numS s.data.toList (c + 3).toNat 2, numS s.data.toList (c + 6).toNat 2⟩] := by
  refine Ev.bind (f := fun k t1 => (date_reader_month.f s m).bind fun t2 => (date_reader_number.f k s d 2).bind fun t3 => (date_reader_clock.f k s t1 t2 t3 0 0 0 c).bind fun b => some [(⟨b.1, b.2.1, b.2.2.1, b.2.2.2.1, b.2.2.2.2.1, b.2.2.2.2.2⟩ : S36)]) hy ?_
  refine Ev.congr (f := fun k => (date_reader_number.f k s d 2).bind fun t3 => (date_reader_clock.f k s Y (monS s.data.toList m.toNat) t3 0 0 0 c).bind fun b => some [(⟨b.1, b.2.1, b.2.2.1, b.2.2.2.1, b.2.2.2.2.1, b.2.2.2.2.2⟩ : S36)]) (fun k => by rw [month_f s m hm (by omega)]; rfl) ?_
  refine Ev.bind (f := fun k t3 => (date_reader_clock.f k s Y (monS s.data.toList m.toNat) t3 0 0 0 c).bind fun b => some [(⟨b.1, b.2.1, b.2.2.1, b.2.2.2.1, b.2.2.2.2.1, b.2.2.2.2.2⟩ : S36)]) (num_e s d 2 hd (by omega) (by omega)) ?_
  refine Ev.bind (f := fun k b => some [(⟨b.1, b.2.1, b.2.2.1, b.2.2.2.1, b.2.2.2.2.1, b.2.2.2.2.2⟩ : S36)]) (clockE s Y (monS s.data.toList m.toNat) (numS s.data.toList d.toNat 2) c hc hc1) (Ev.now _)
theorem cand_ev (s : ByteArray) (hs : s.size ≤ 1000000000) : Ev (fun k => date_candidates.f k s) [candI s.data.toList (Lib.indexByte s.data.toList 44)] := by
  have hr := idx_range s.data.toList 44
  have hl : s.data.toList.length = s.size := by simp
  generalize hi : Lib.indexByte s.data.toList 44 = i at hr
  have hidx : strings_IndexByte.f s 44 = some i := by rw [← hi]; rfl
  unfold candI
  by_cases c1 : i < 0
  · rw [if_pos c1]
    refine Ev.congr (fun k => ?_) (fourE s (fun k => date_reader_number.f k s 20 4) _ 4 8 11 (num_e s 20 4 (by omega) (by omega) (by omega)) (by omega) (by omega) (by omega) (by omega) (by omega) (by omega))
    simp only [date_candidates.f, hidx, Option.bind_some]
    rw [if_pos c1]
  · by_cases c3 : i = 3
    · rw [if_neg c1, if_pos c3]
      refine Ev.congr (fun k => ?_) (fourE s (fun k => date_reader_number.f k s 12 4) _ 8 5 17 (num_e s 12 4 (by omega) (by omega) (by omega)) (by omega) (by omega) (by omega) (by omega) (by omega) (by omega))
      simp only [date_candidates.f, hidx, Option.bind_some]
      rw [if_neg c1, if_pos c3]
    · rw [if_neg c1, if_neg c3]
      have hn := numS_nn s.data.toList (i + 9).toNat 2
      have hh := num_hi s (i + 9) 2 (by omega) (by omega) (by omega)
      have hnum := num_e s (i + 9) 2 (by omega) (by omega) (by omega)
      have e2 : wrap64 (i + 2) = i + 2 := w64 (by omega) (by omega)
      have e5 : wrap64 (i + 5) = i + 5 := w64 (by omega) (by omega)
      have e9 : wrap64 (i + 9) = i + 9 := w64 (by omega) (by omega)
      have e12 : wrap64 (i + 12) = i + 12 := w64 (by omega) (by omega)
      have a1 : i + 12 + 3 = i + 15 := by omega
      have a2 : i + 12 + 6 = i + 18 := by omega
      have H := fourE s (fun _ => some (yr (numS s.data.toList (i + 9).toNat 2))) _ (i + 5) (i + 2) (i + 12) (Ev.now _) (by omega) (by omega) (by omega) (by omega) (by omega) (by omega)
      rw [a1, a2] at H
      refine Ev.congr (fun k => ?_) (Ev.bind (f := fun k _ => (some (yr (numS s.data.toList (i + 9).toNat 2))).bind fun t1 => (date_reader_month.f s (i + 5)).bind fun t2 => (date_reader_number.f k s (i + 2) 2).bind fun t3 => (date_reader_clock.f k s t1 t2 t3 0 0 0 (i + 12)).bind fun b => some [(⟨b.1, b.2.1, b.2.2.1, b.2.2.2.1, b.2.2.2.2.1, b.2.2.2.2.2⟩ : S36)]) hnum H)
      simp only [date_candidates.f, hidx, Option.bind_some, e2, e5, e9, e12]
      rw [if_neg c1, if_neg c3]
      rcases hq : date_reader_number.f k s (i + 9) 2 with _ | v
      · rfl
      · have hv : v = numS s.data.toList (i + 9).toNat 2 := by
          obtain ⟨K, hK⟩ := hnum
          have h1 := at_rounds (g := fun k => date_reader_number.f k s (i + 9) ((2 : Nat) : Int)) (fun k => date_reader_number.mono _ _ _ k) (Nat.le_max_left k K) hq
          have h2 := hK _ (Nat.le_max_right k K)
          exact Option.some.inj (h1.symm.trans h2)
        rw [hv]
        simp only [Option.bind_some]
        have w1 : wrap64 (numS s.data.toList (i + 9).toNat 2 + 1900) = numS s.data.toList (i + 9).toNat 2 + 1900 := w64 (by omega) (by omega)
        have w2 : wrap64 (numS s.data.toList (i + 9).toNat 2 + 1900 + 100) = numS s.data.toList (i + 9).toNat 2 + 2000 := by rw [w64 (by omega) (by omega)]; omega
        rw [w1, w2]
        unfold yr
        by_cases c4 : numS s.data.toList (i + 9).toNat 2 + 1900 < 1970
        · rw [if_pos c4, if_pos c4]
        · rw [if_neg c4, if_neg c4]
theorem cand_ok (l : List UInt8) (i : Int) : (candI l i).f1 < 12 ∧ 0 ≤ (candI l i).f3 ∧ 0 ≤ (candI l i).f4 ∧ 0 ≤ (candI l i).f5 := by
  unfold candI
  split
  · exact ⟨(monS_hi _ _).2, numS_nn _ _ _, numS_nn _ _ _, numS_nn _ _ _⟩
  · split
    · exact ⟨(monS_hi _ _).2, numS_nn _ _ _, numS_nn _ _ _, numS_nn _ _ _⟩
    · exact ⟨(monS_hi _ _).2, numS_nn _ _ _, numS_nn _ _ _, numS_nn _ _ _⟩
theorem parse_at (s : ByteArray) (hs : s.size ≤ 1000000000) {m : S36} (hm : candI s.data.toList (Lib.indexByte s.data.toList 44) = m) {r : Int × Int} (h : Ev (fun k => parseOne k s m.f0 m.f1 m.f2 m.f3 m.f4 m.f5) r) : Ev (fun k => date_Parse.f k s) r := by
  have hc := cand_ev s hs
  rw [hm] at hc
  exact Ev.bind (f := fun k l => match l with | [m] => parseOne k s m.f0 m.f1 m.f2 m.f3 m.f4 m.f5 | _ => none) hc h
/-- A text that is no time's is refused. -/
theorem parse_no (s : ByteArray) (hs : s.size ≤ 1000000000) (hn : ∀ y mo d h mi sc, Tm y mo d h mi sc → ¬ Says s y mo d h mi sc) : Ev (fun k => date_Parse.f k s) (0, 80) := by
  refine parse_at s hs rfl ?_
  obtain ⟨h1, h2, h3, h4⟩ := cand_ok s.data.toList (Lib.indexByte s.data.toList 44)
  exact one_no s _ _ _ _ _ _ h1 h2 h3 h4 (fun z => hn _ _ _ _ _ _ z.1 z.2)

/-! ### What is said is read -/
theorem stepD_dg (n x : Int) (h0 : 0 ≤ x) (h9 : x ≤ 9) : stepD n (dg x) = 10 * n + x := by
  unfold stepD
  rw [dg_nat h0 h9, if_pos (by omega)]
  omega
theorem stepD_32 (n : Int) : stepD n 32 = n := by
  unfold stepD
  rw [if_neg (by decide)]
theorem two_num (n : Int) (h0 : 0 ≤ n) (h1 : n ≤ 99) : (tw n).foldl stepD 0 = n := by
  simp only [tw, List.foldl_cons, List.foldl_nil]
  rw [stepD_dg _ _ (by omega) (by omega), stepD_dg _ _ (by omega) (by omega)]
  omega
theorem two_num' (n : Int) (h0 : 0 ≤ n) : (tw n).foldl stepD 0 = n % 100 := by
  simp only [tw, List.foldl_cons, List.foldl_nil]
  rw [stepD_dg _ _ (by omega) (by omega), stepD_dg _ _ (by omega) (by omega)]
  omega
theorem four_num (y : Int) (h0 : 0 ≤ y) (h1 : y ≤ 9999) : (tw (y / 100) ++ tw y).foldl stepD 0 = y := by
  simp only [tw, List.cons_append, List.nil_append, List.foldl_cons, List.foldl_nil]
  rw [stepD_dg _ _ (by omega) (by omega), stepD_dg _ _ (by omega) (by omega), stepD_dg _ _ (by omega) (by omega), stepD_dg _ _ (by omega) (by omega)]
  omega
theorem dg_ne (x : Int) (h0 : 0 ≤ x) (h9 : x ≤ 9) : dg x ≠ 44 := by
  intro h
  have := dg_nat h0 h9
  rw [h] at this
  simp at this
  omega
theorem tw_two (n : Int) : ∃ a b, tw n = [a, b] ∧ a ≠ 44 ∧ b ≠ 44 := ⟨_, _, rfl, dg_ne _ (by omega) (by omega), dg_ne _ (by omega) (by omega)⟩
theorem dl_two (d : Int) (h0 : 0 ≤ d) : ∃ a b, dl d = [a, b] ∧ a ≠ 44 ∧ b ≠ 44 := by
  unfold dl
  split
  · exact ⟨_, _, rfl, by decide, dg_ne _ h0 (by omega)⟩
  · exact tw_two d
theorem dl_num (d : Int) (h0 : 0 ≤ d) (h1 : d ≤ 99) : (dl d).foldl stepD 0 = d := by
  unfold dl
  split
  · simp only [List.foldl_cons, List.foldl_nil]
    rw [stepD_32, stepD_dg _ _ h0 (by omega)]
    omega
  · exact two_num d h0 h1
theorem sd_three (w : Int) (hw : 0 ≤ w ∧ w < 7) : ∃ a b c, sd w = [a, b, c] ∧ a ≠ 44 ∧ b ≠ 44 ∧ c ≠ 44 := by
  obtain ⟨h0, h1⟩ := hw
  obtain ⟨n, rfl⟩ := Int.eq_ofNat_of_zero_le h0
  match n, h1 with
  | 0, _ | 1, _ | 2, _ | 3, _ | 4, _ | 5, _ | 6, _ => exact ⟨_, _, _, rfl, by decide, by decide, by decide⟩
  | n + 7, h => omega
theorem m3_three (m : Int) (h0 : 0 ≤ m) (h1 : m < 12) : ∃ a b c, m3 m = [a, b, c] ∧ a ≠ 44 ∧ b ≠ 44 ∧ c ≠ 44 := by
  obtain ⟨n, rfl⟩ := Int.eq_ofNat_of_zero_le h0
  match n, h1 with
  | 0, _ | 1, _ | 2, _ | 3, _ | 4, _ | 5, _ | 6, _ | 7, _ | 8, _ | 9, _ | 10, _ | 11, _ => exact ⟨_, _, _, rfl, by decide, by decide, by decide⟩
  | n + 12, h => omega
theorem ld_ok (w : Int) (hw : 0 ≤ w ∧ w < 7) : 6 ≤ (ld w).length ∧ (ld w).length ≤ 9 ∧ ∀ b ∈ ld w, b ≠ 44 := by
  obtain ⟨h0, h1⟩ := hw
  obtain ⟨n, rfl⟩ := Int.eq_ofNat_of_zero_le h0
  match n, h1 with
  | 0, _ | 1, _ | 2, _ | 3, _ | 4, _ | 5, _ | 6, _ => exact ⟨by decide, by decide, by decide⟩
  | n + 7, h => omega
theorem numS_at (l r t : List UInt8) (a sz : Nat) (h : (l.drop a).take sz = r) {n : Int} (hr : r.foldl stepD 0 = n) : numS l a sz = n := by
  unfold numS
  rw [h, hr]
theorem monS_at (l : List UInt8) (m : Int) (a : Nat) (h0 : 0 ≤ m) (h1 : m < 12) (h : (l.drop a).take 3 = m3 m) : monS l a = m := by
  unfold monS
  have hl := congrArg List.length h
  rw [m3_len m h0 h1] at hl
  simp only [List.length_take, List.length_drop] at hl
  rw [if_neg (by omega), h, mIdx_m3 m h0 h1]
theorem cand_T1 {y mo d h mi s : Int} (t : Tm y mo d h mi s) (w : Int) (hw : 0 ≤ w ∧ w < 7) :
    candI (T1 y mo d h mi s w) (Lib.indexByte (T1 y mo d h mi s w) 44) = ⟨y, mo, d, h, mi, s⟩ := by
  obtain ⟨a, b, c, es, ha, hb, hc⟩ := sd_three w hw
  obtain ⟨p, q, r, em, _⟩ := m3_three mo t.ok.m0 t.ok.m1
  have hi : Lib.indexByte (T1 y mo d h mi s w) 44 = 3 := by
    have := idx_hit [a, b, c] (32 :: (tw d ++ [32] ++ m3 mo ++ [32] ++ tw (y / 100) ++ tw y ++ [32] ++ ck h mi s ++ [32, 71, 77, 84])) (by simp [ha, hb, hc])
    unfold T1
    rw [es]
    simpa using this
  have hd := t.d
  have n1 := four_num y (Int.le_trans (by decide) t.ok.y0) t.ok.y1
  have n2 := two_num d (by omega) (by omega)
  have n3 := two_num h t.h0 (Int.le_trans t.h1 (by decide))
  have n4 := two_num mi t.mi0 (Int.le_trans t.mi1 (by decide))
  have n5 := two_num s t.s0 (Int.le_trans t.s1 (by decide))
  have mm : monS (T1 y mo d h mi s w) 8 = mo := monS_at _ _ 8 t.ok.m0 t.ok.m1 (by
    obtain ⟨d1, d2, e1, _⟩ := tw_two d
    unfold T1
    rw [es, em, e1]
    rfl)
  rw [hi]
  unfold candI
  rw [if_neg (by decide), if_pos rfl, mm]
  unfold T1 ck
  obtain ⟨d1, d2, e1, _⟩ := tw_two d
  obtain ⟨d3, d4, e2, _⟩ := tw_two h
  obtain ⟨d5, d6, e3, _⟩ := tw_two mi
  obtain ⟨d7, d8, e4, _⟩ := tw_two s
  obtain ⟨d9, d10, e5, _⟩ := tw_two (y / 100)
  obtain ⟨d11, d12, e6, _⟩ := tw_two y
  rw [e5, e6] at n1
  rw [e1] at n2
  rw [e2] at n3
  rw [e3] at n4
  rw [e4] at n5
  rw [es, em, e1, e2, e3, e4, e5, e6]
  rw [numS_at _ ([d9, d10] ++ [d11, d12]) [] 12 4 rfl n1, numS_at _ [d1, d2] [] 5 2 rfl n2, numS_at _ [d3, d4] [] 17 2 rfl n3, numS_at _ [d5, d6] [] 20 2 rfl n4, numS_at _ [d7, d8] [] 23 2 rfl n5]
theorem cand_T3 {y mo d h mi s : Int} (t : Tm y mo d h mi s) (w : Int) (hw : 0 ≤ w ∧ w < 7) :
    candI (T3 y mo d h mi s w) (Lib.indexByte (T3 y mo d h mi s w) 44) = ⟨y, mo, d, h, mi, s⟩ := by
  obtain ⟨a, b, c, es, ha, hb, hc⟩ := sd_three w hw
  obtain ⟨p, q, r, em, hp, hq, hr⟩ := m3_three mo t.ok.m0 t.ok.m1
  have hd := t.d
  have n1 := four_num y (Int.le_trans (by decide) t.ok.y0) t.ok.y1
  have n2 := dl_num d (by omega) (by omega)
  have n3 := two_num h t.h0 (Int.le_trans t.h1 (by decide))
  have n4 := two_num mi t.mi0 (Int.le_trans t.mi1 (by decide))
  have n5 := two_num s t.s0 (Int.le_trans t.s1 (by decide))
  have mm : monS (T3 y mo d h mi s w) 4 = mo := monS_at _ _ 4 t.ok.m0 t.ok.m1 (by
    unfold T3
    rw [es, em]
    rfl)
  obtain ⟨d1, d2, e1, x1, x2⟩ := dl_two d (by omega)
  obtain ⟨d3, d4, e2, x3, x4⟩ := tw_two h
  obtain ⟨d5, d6, e3, x5, x6⟩ := tw_two mi
  obtain ⟨d7, d8, e4, x7, x8⟩ := tw_two s
  obtain ⟨d9, d10, e5, x9, x10⟩ := tw_two (y / 100)
  obtain ⟨d11, d12, e6, x11, x12⟩ := tw_two y
  have hi : Lib.indexByte (T3 y mo d h mi s w) 44 = -1 := by
    refine idx_none _ ?_
    unfold T3 ck
    rw [es, em, e1, e2, e3, e4, e5, e6]
    simp [ha, hb, hc, hp, hq, hr, x1, x2, x3, x4, x5, x6, x7, x8, x9, x10, x11, x12]
  rw [hi]
  unfold candI
  rw [if_pos (by decide), mm]
  unfold T3 ck
  rw [e5, e6] at n1
  rw [e1] at n2
  rw [e2] at n3
  rw [e3] at n4
  rw [e4] at n5
  rw [es, em, e1, e2, e3, e4, e5, e6]
  rw [numS_at _ ([d9, d10] ++ [d11, d12]) [] 20 4 rfl n1, numS_at _ [d1, d2] [] 8 2 rfl n2, numS_at _ [d3, d4] [] 11 2 rfl n3, numS_at _ [d5, d6] [] 14 2 rfl n4, numS_at _ [d7, d8] [] 17 2 rfl n5]
theorem drop_more (l r : List UInt8) (k : Nat) (n : Int) (hn : n = k) : (l ++ r).drop ((l.length : Int) + n).toNat = r.drop k := by
  have : ((l.length : Int) + n).toNat = l.length + k := by omega
  rw [this, List.drop_append]
  simp
theorem cand_T2 {y mo d h mi s : Int} (t : Tm y mo d h mi s) (hy : y < 2070) (w : Int) (hw : 0 ≤ w ∧ w < 7) :
    candI (T2 y mo d h mi s w) (Lib.indexByte (T2 y mo d h mi s w) 44) = ⟨y, mo, d, h, mi, s⟩ := by
  obtain ⟨hl0, hl1, hl⟩ := ld_ok w hw
  obtain ⟨p, q, r, em, _⟩ := m3_three mo t.ok.m0 t.ok.m1
  have hd := t.d
  have hy0 := t.ok.y0
  have n1 := two_num' y (by omega)
  have n2 := two_num d (by omega) (by omega)
  have n3 := two_num h t.h0 (Int.le_trans t.h1 (by decide))
  have n4 := two_num mi t.mi0 (Int.le_trans t.mi1 (by decide))
  have n5 := two_num s t.s0 (Int.le_trans t.s1 (by decide))
  obtain ⟨d1, d2, e1, _⟩ := tw_two d
  obtain ⟨d3, d4, e2, _⟩ := tw_two h
  obtain ⟨d5, d6, e3, _⟩ := tw_two mi
  obtain ⟨d7, d8, e4, _⟩ := tw_two s
  obtain ⟨d11, d12, e6, _⟩ := tw_two y
  rw [e6] at n1
  rw [e1] at n2
  rw [e2] at n3
  rw [e3] at n4
  rw [e4] at n5
  have e : T2 y mo d h mi s w = ld w ++ (44 :: 32 :: ([d1, d2] ++ [45] ++ [p, q, r] ++ [45] ++ [d11, d12] ++ [32] ++ ([d3, d4] ++ [58] ++ [d5, d6] ++ [58] ++ [d7, d8]) ++ [32, 71, 77, 84])) := by
    unfold T2 ck
    rw [em, e1, e2, e3, e4, e6]
    simp
  have hi : Lib.indexByte (T2 y mo d h mi s w) 44 = (ld w).length := by
    rw [e]
    exact idx_hit _ _ hl
  rw [hi, e]
  unfold candI
  rw [if_neg (by omega), if_neg (by omega)]
  have mm : monS (ld w ++ (44 :: 32 :: ([d1, d2] ++ [45] ++ [p, q, r] ++ [45] ++ [d11, d12] ++ [32] ++ ([d3, d4] ++ [58] ++ [d5, d6] ++ [58] ++ [d7, d8]) ++ [32, 71, 77, 84]))) (((ld w).length : Int) + 5).toNat = mo :=
    monS_at _ _ _ t.ok.m0 t.ok.m1 (by rw [em, drop_more _ _ 5 5 rfl]; rfl)
  rw [mm, numS_at _ [d11, d12] [] (((ld w).length : Int) + 9).toNat 2 (by rw [drop_more _ _ 9 9 rfl]; rfl) n1, numS_at _ [d1, d2] [] (((ld w).length : Int) + 2).toNat 2 (by rw [drop_more _ _ 2 2 rfl]; rfl) n2,
    numS_at _ [d3, d4] [] (((ld w).length : Int) + 12).toNat 2 (by rw [drop_more _ _ 12 12 rfl]; rfl) n3, numS_at _ [d5, d6] [] (((ld w).length : Int) + 15).toNat 2 (by rw [drop_more _ _ 15 15 rfl]; rfl) n4,
    numS_at _ [d7, d8] [] (((ld w).length : Int) + 18).toNat 2 (by rw [drop_more _ _ 18 18 rfl]; rfl) n5]
  have : yr (y % 100) = y := by unfold yr; split <;> omega
  rw [this]
theorem says_cand {a : ByteArray} {y mo d h mi s : Int} (t : Tm y mo d h mi s) (hs : Says a y mo d h mi s) : candI a.data.toList (Lib.indexByte a.data.toList 44) = ⟨y, mo, d, h, mi, s⟩ := by
  rcases hs with rfl | ⟨rfl, hy⟩ | rfl
  · rw [bytes_list]; exact cand_T1 t _ (wk0 _ _ _)
  · rw [bytes_list]; exact cand_T2 t hy _ (wk0 _ _ _)
  · rw [bytes_list]; exact cand_T3 t _ (wk0 _ _ _)
theorem says_size {a : ByteArray} {y mo d h mi s : Int} (t : Tm y mo d h mi s) (hs : Says a y mo d h mi s) : a.size ≤ 40 := by
  obtain ⟨a', b', c', es, _⟩ := sd_three _ (wk0 y mo d)
  obtain ⟨p, q, r, em, _⟩ := m3_three mo t.ok.m0 t.ok.m1
  obtain ⟨u, v, ed, _⟩ := dl_two d (Int.le_trans (by decide) t.d.1)
  obtain ⟨hl0, hl1, hl⟩ := ld_ok _ (wk0 y mo d)
  rcases hs with rfl | ⟨rfl, hy⟩ | rfl
  · simp [bytes_size, T1, es, em, tw, ck]
  · simp [bytes_size, T2, em, tw, ck]; omega
  · simp [bytes_size, T3, es, em, ed, tw, ck]
/-- A text of a time is read as that time. -/
theorem parse_yes {a : ByteArray} {y mo d h mi s : Int} (t : Tm y mo d h mi s) (hs : Says a y mo d h mi s) : Ev (fun k => date_Parse.f k a) (sec y mo d h mi s, 0) :=
  parse_at a (by have := says_size t hs; omega) (says_cand t hs) (one_yes a t hs)
/-- A text is of one moment alone. -/
theorem says_one {a : ByteArray} {y mo d h mi s y' mo' d' h' mi' s' : Int} (t : Tm y mo d h mi s) (hs : Says a y mo d h mi s) (t' : Tm y' mo' d' h' mi' s') (hs' : Says a y' mo' d' h' mi' s') :
    y = y' ∧ mo = mo' ∧ d = d' ∧ h = h' ∧ mi = mi' ∧ s = s' := by
  have e := (says_cand t hs).symm.trans (says_cand t' hs')
  simpa using e
theorem parse_no0 : Ev (fun k => date_Parse.f k (⟨#[]⟩ : ByteArray)) (0, 80) := by
  refine parse_no _ (by decide) ?_
  intro y mo d h mi s t hs
  obtain ⟨a', b', c', es, _⟩ := sd_three _ (wk0 y mo d)
  obtain ⟨hl0, hl1, hl⟩ := ld_ok _ (wk0 y mo d)
  rcases hs with hs | ⟨hs, hy⟩ | hs
  · have := congrArg ByteArray.size hs
    have e0 : (⟨#[]⟩ : ByteArray).size = 0 := rfl
    simp [bytes_size, T1, es] at this
    omega
  · have := congrArg ByteArray.size hs
    have e0 : (⟨#[]⟩ : ByteArray).size = 0 := rfl
    simp [bytes_size, T2, es] at this
    omega
  · have := congrArg ByteArray.size hs
    have e0 : (⟨#[]⟩ : ByteArray).size = 0 := rfl
    simp [bytes_size, T3, es] at this
    omega
/-- 'known' holds. -/
theorem known_ev : Ev (fun k => ambrylaw9_known.f k) true := by
  have t : Tm 1994 10 6 8 49 37 := ⟨⟨by decide, by decide, by decide, by decide, by decide, by decide⟩, by decide, by decide, by decide, by decide, by decide, by decide⟩
  have es : sec 1994 10 6 8 49 37 = 784111777 := by decide
  have p1 := parse_yes (a := (⟨#[83, 117, 110, 44, 32, 48, 54, 32, 78, 111, 118, 32, 49, 57, 57, 52, 32, 48, 56, 58, 52, 57, 58, 51, 55, 32, 71, 77, 84]⟩ : ByteArray)) t (.inl (by decide))
  have p2 := parse_yes (a := (⟨#[83, 117, 110, 100, 97, 121, 44, 32, 48, 54, 45, 78, 111, 118, 45, 57, 52, 32, 48, 56, 58, 52, 57, 58, 51, 55, 32, 71, 77, 84]⟩ : ByteArray)) t (.inr (.inl ⟨by decide, by decide⟩))
  have p3 := parse_yes (a := (⟨#[83, 117, 110, 32, 78, 111, 118, 32, 32, 54, 32, 48, 56, 58, 52, 57, 58, 51, 55, 32, 49, 57, 57, 52]⟩ : ByteArray)) t (.inr (.inr (by decide)))
  have p4 := parse_no0
  have p5 := text_ev t (x := 784111777) (by decide)
  rw [es] at p1 p2 p3
  obtain ⟨k1, h1⟩ := p1
  obtain ⟨k2, h2⟩ := p2
  obtain ⟨k3, h3⟩ := p3
  obtain ⟨k4, h4⟩ := p4
  obtain ⟨k5, h5⟩ := p5
  refine ⟨k1 + k2 + k3 + k4 + k5, fun k hk => ?_⟩
  have e1 := h1 k (by omega)
  have e2 := h2 k (by omega)
  have e3 := h3 k (by omega)
  have e4 := h4 k (by omega)
  have e5 := h5 k (by omega)
  simp only at e1 e2 e3 e4 e5
  simp only [ambrylaw9_known.f, e1, e2, e3, e4, Option.bind_some, e5, if_true, bytes_toList]
  have ew : wrap64 (wrap64 ((0 : Int) + 0) + 0) = 0 := by rw [w64 (x := (0 : Int) + 0) (by omega) (by omega), w64 (by omega) (by omega)]; rfl
  rw [if_pos ew]
  congr 1
end Go.Proofs.YtcejglmmjbmafaaDoor.Pure
/- Plain Lean: the document's text of a time is the program's. -/
namespace Go.Proofs.YtcejglmmjbmafaaDoor.Pure
open Go.RowKit Go.Proofs.YtcejglmmjbmafaaDoor.X Go.Proofs.YtcejglmmjbmafaaDoor.Cal Go.Proofs.YtcejglmmjbmafaaDoorW.PrintWords Go.Proofs.YtcejglmmjbmafaaDoorW.PrintLast Go.Proofs.YtcejglmmjbmafaaDoorW.PrintMore
set_option linter.unusedVariables false
set_option linter.unusedSimpArgs false

def rdays : List ByteArray := [(⟨#[83, 117, 110]⟩ : ByteArray), (⟨#[77, 111, 110]⟩ : ByteArray), (⟨#[84, 117, 101]⟩ : ByteArray), (⟨#[87, 101, 100]⟩ : ByteArray), (⟨#[84, 104, 117]⟩ : ByteArray), (⟨#[70, 114, 105]⟩ : ByteArray), (⟨#[83, 97, 116]⟩ : ByteArray)]
def rmonths : List ByteArray := [(⟨#[74, 97, 110]⟩ : ByteArray), (⟨#[70, 101, 98]⟩ : ByteArray), (⟨#[77, 97, 114]⟩ : ByteArray), (⟨#[65, 112, 114]⟩ : ByteArray), (⟨#[77, 97, 121]⟩ : ByteArray), (⟨#[74, 117, 110]⟩ : ByteArray), (⟨#[74, 117, 108]⟩ : ByteArray), (⟨#[65, 117, 103]⟩ : ByteArray), (⟨#[83, 101, 112]⟩ : ByteArray), (⟨#[79, 99, 116]⟩ : ByteArray), (⟨#[78, 111, 118]⟩ : ByteArray), (⟨#[68, 101, 99]⟩ : ByteArray)]
theorem rdays_f : ambryref9_days.f = some rdays := rfl
theorem rmonths_f : ambryref9_months.f = some rmonths := rfl
theorem rdays_at (w : Int) (h0 : 0 ≤ w) (h1 : w < 7) : rdOf ByteArray.empty rdays w = X.bytes (sd w) := by
  obtain ⟨n, rfl⟩ := Int.eq_ofNat_of_zero_le h0
  match n, h1 with
  | 0, _ | 1, _ | 2, _ | 3, _ | 4, _ | 5, _ | 6, _ => rfl
  | n + 7, h => omega
theorem rmonths_at (w : Int) (h0 : 0 ≤ w) (h1 : w < 12) : rdOf ByteArray.empty rmonths w = X.bytes (m3 w) := by
  obtain ⟨n, rfl⟩ := Int.eq_ofNat_of_zero_le h0
  match n, h1 with
  | 0, _ | 1, _ | 2, _ | 3, _ | 4, _ | 5, _ | 6, _ | 7, _ | 8, _ | 9, _ | 10, _ | 11, _ => rfl
  | n + 12, h => omega
theorem tw_mod (y : Int) : tw (y % 100) = tw y := by
  unfold tw
  rw [show y % 100 / 10 % 10 = y / 10 % 10 by omega, show y % 100 % 10 = y % 10 by omega]
theorem rtext_l1 (n y r : Int) (hy0 : 1970 ≤ y) (hy1 : y ≤ 9999) (hn : n < dys (y + 1)) (hn0 : 0 ≤ n) (hn1 : n ≤ 2932896) (hr0 : 0 ≤ r) (hr1 : r < 86400) (c : Nat) : ∀ (m : Int), (c : Int) = 12 - m → 0 ≤ m → m < 12 → dys y + cum y m ≤ n →
    ∃ m' d, Ok y m' d ∧ num y m' d = n ∧ Ev (fun k => ambryref9_Text.l1 k n r y (n - dys y - cum y m) (m + 1)) (X.bytes (T1 y m' d (r / 3600) (r / 60 % 60) (r % 60) ((n + 4) % 7))) := by
  induction c with
  | zero => intro m hc h0 h1; omega
  | succ c ih =>
    intro m hc h0 h1 hle
    have hs := cum_succ y m h0 h1
    have hl := len_lo y m
    have hh := len_hi y m
    have hb := cum_pos y m h0 (by omega)
    have hd0 : 0 ≤ dys y := by have := dys_le hy0; rw [dys_1970] at this; exact this
    have em : m + 1 - 1 = m := by omega
    have hlen : ambryref9_length.f y (m + 1) = some (len y m) := by rw [rlength_f y (m + 1) (by omega) (by omega) (by omega), em]
    by_cases hg : len y m ≤ n - dys y - cum y m
    · have hm : m + 1 < 12 := by
        by_cases e : m = 11
        · subst e
          have := cum_12 y
          have := dys_succ y
          have e12 : (11 : Int) + 1 = 12 := rfl
          rw [e12] at hs
          omega
        · omega
      obtain ⟨m', d, ho, hnum, hev⟩ := ih (m + 1) (by omega) (by omega) hm (by omega)
      refine ⟨m', d, ho, hnum, Ev.step (f := fun k => ambryref9_Text.l1 k n r y (n - dys y - cum y (m + 1)) (m + 1 + 1)) (fun k => ?_) hev⟩
      simp only [ambryref9_Text.l1, hlen, Option.bind_some]
      rw [if_pos hg, w64 (x := m + 1 + 1) (by omega) (by omega), w64 (by omega) (by omega), hs]
      congr 1
      omega
    · refine ⟨m, n - dys y - cum y m + 1, ⟨hy0, hy1, h0, h1, by omega, by omega⟩, by unfold num; omega, Ev.step (f := fun _ => some _) (fun k => ?_) (Ev.now _)⟩
      simp only [ambryref9_Text.l1, hlen, Option.bind_some, rdays_f, rmonths_f]
      have l7 : (rdays.length : Int) = 7 := rfl
      have l12 : (rmonths.length : Int) = 12 := rfl
      rw [if_neg hg, w64 (x := n + 4) (by omega) (by omega), tmod_nn 7 (by omega), w64 (x := n - dys y - cum y m + 1) (by omega) (by omega), w64 (x := m + 1 - 1) (by omega) (by omega), em, tdiv_nn 100 (by omega), w64 (x := y / 100) (by omega) (by omega), tmod_nn 100 (by omega), tdiv_nn 3600 hr0, tdiv_nn 60 hr0, tmod_nn 60 hr0, w64 (x := r / 3600) (by omega) (by omega), w64 (x := r / 60) (by omega) (by omega), tmod_nn 60 (by omega), l7, l12,
        rdays_at ((n + 4) % 7) (by omega) (by omega), rmonths_at m h0 h1, rtwo_f (n - dys y - cum y m + 1) (by omega) (by omega), rtwo_f (y / 100) (by omega) (by omega), rtwo_f (y % 100) (by omega) (by omega), rtwo_f (r / 3600) (by omega) (by omega), rtwo_f (r / 60 % 60) (by omega) (by omega), rtwo_f (r % 60) (by omega) (by omega)]
      rw [if_pos (by omega), if_pos (by omega)]
      simp only [Option.bind_some]
      obtain ⟨a, b, c', es, _⟩ := sd_three ((n + 4) % 7) ⟨by omega, by omega⟩
      obtain ⟨p, q, r', e3, _⟩ := m3_three m h0 h1
      unfold T1 ck
      rw [es, e3, tw_mod]
      obtain ⟨d1, d2, e1, _⟩ := tw_two (n - dys y - cum y m + 1)
      obtain ⟨d3, d4, e2, _⟩ := tw_two (r / 3600)
      obtain ⟨d5, d6, e4, _⟩ := tw_two (r / 60 % 60)
      obtain ⟨d7, d8, e5, _⟩ := tw_two (r % 60)
      obtain ⟨d9, d10, e6, _⟩ := tw_two (y / 100)
      obtain ⟨d11, d12, e7, _⟩ := tw_two y
      rw [e1, e2, e4, e5, e6, e7]
      simp only [lit_bytes, bytes_append, bytes_size]
      repeat rw [if_pos (by first | exact h0 | exact h1 | simp)]
      congr 2
theorem rtext_l0 (n r : Int) (hn0 : 0 ≤ n) (hn1 : n ≤ 2932896) (hr0 : 0 ≤ r) (hr1 : r < 86400) (c : Nat) : ∀ (y : Int), (c : Int) = 10000 - y → 1970 ≤ y → y ≤ 9999 → dys y ≤ n →
    ∃ y' m' d, Ok y' m' d ∧ num y' m' d = n ∧ Ev (fun k => ambryref9_Text.l0 k n r y) (X.bytes (T1 y' m' d (r / 3600) (r / 60 % 60) (r % 60) ((n + 4) % 7))) := by
  induction c with
  | zero => intro y hc h0 h1; omega
  | succ c ih =>
    intro y hc h0 h1 hle
    by_cases hg : dys (y + 1) ≤ n
    · have hm : y + 1 ≤ 9999 := by
        by_cases e : y = 9999
        · subst e
          have := dys_10000
          have e12 : (9999 : Int) + 1 = 10000 := rfl
          rw [e12] at hg
          omega
        · omega
      obtain ⟨y', m', d, ho, hnum, hev⟩ := ih (y + 1) (by omega) (by omega) hm hg
      refine ⟨y', m', d, ho, hnum, Ev.step (f := fun k => ambryref9_Text.l0 k n r (y + 1)) (fun k => ?_) hev⟩
      simp only [ambryref9_Text.l0]
      rw [w64 (x := y + 1) (by omega) (by omega), ahead_f (y + 1) (by omega) (by omega)]
      simp only [Option.bind_some]
      rw [if_pos hg]
    · obtain ⟨m', d, ho, hnum, hev⟩ := rtext_l1 n y r h0 h1 (by omega) hn0 hn1 hr0 hr1 12 0 (by omega) (by omega) (by omega) (by rw [cum_0]; omega)
      refine ⟨y, m', d, ho, hnum, Ev.step (f := fun k => ambryref9_Text.l1 k n r y (n - dys y - cum y 0) (0 + 1)) (fun k => ?_) hev⟩
      simp only [ambryref9_Text.l0]
      rw [w64 (x := y + 1) (by omega) (by omega), ahead_f (y + 1) (by omega) (by omega), ahead_f y h0 (by omega)]
      simp only [Option.bind_some]
      have hd0 : 0 ≤ dys y := by have := dys_le h0; rw [dys_1970] at this; exact this
      rw [if_neg hg, cum_0, w64 (by omega) (by omega)]
      congr 1
      omega
/-- The document's text. -/
theorem rtext_ev {y mo d h mi s : Int} (t : Tm y mo d h mi s) {x : Int} (hx : cl x = sec y mo d h mi s) : Ev (fun k => ambryref9_Text.f k x) (X.bytes (T1 y mo d h mi s (wk y mo d))) := by
  obtain ⟨h0, h1, _⟩ := of_sec t
  have hb := t.ok.bound
  have := t.h0; have := t.h1; have := t.mi0; have := t.mi1; have := t.s0; have := t.s1
  generalize hS : sec y mo d h mi s = S at h0 h1 hx
  obtain ⟨y', mo', d', ho, hn, hev⟩ := rtext_l0 (S / 86400) (S % 86400) (by omega) (by omega) (by omega) (by omega) (10000 - (1970 + S / 86400 / 366)).toNat (1970 + S / 86400 / 366) (by omega) (by omega) (by omega) (guess _ (by omega))
  have hnn : num y' mo' d' = num y mo d := by rw [hn, ← hS]; unfold sec; omega
  obtain ⟨rfl, rfl, rfl⟩ := num_inj ho t.ok hnn
  have e1 : S % 86400 / 3600 = h := by rw [← hS]; unfold sec; omega
  have e2 : S % 86400 / 60 % 60 = mi := by rw [← hS]; unfold sec; omega
  have e3 : S % 86400 % 60 = s := by rw [← hS]; unfold sec; omega
  rw [e1, e2, e3] at hev
  have ew : (S / 86400 + 4) % 7 = wk y' mo' d' := by unfold wk; rw [hn]
  rw [ew] at hev
  refine Ev.congr (fun k => ?_) hev
  simp only [ambryref9_Text.f]
  rw [show mn (mx x 0) 253402300799 = S from hx]
end Go.Proofs.YtcejglmmjbmafaaDoor.Pure
/- Plain Lean: the document's reader, part by part. -/
namespace Go.Proofs.YtcejglmmjbmafaaDoor.Pure
open Go.RowKit Go.Proofs.YtcejglmmjbmafaaDoor.X Go.Proofs.YtcejglmmjbmafaaDoor.Cal Go.Proofs.YtcejglmmjbmafaaDoorW.PrintWords Go.Proofs.YtcejglmmjbmafaaDoorW.PrintLast Go.Proofs.YtcejglmmjbmafaaDoorW.PrintMore
set_option linter.unusedVariables false
set_option linter.unusedSimpArgs false

/-! ### digits -/
def isd (b : UInt8) : Bool := decide (48 ≤ (b.toNat : Int) ∧ (b.toNat : Int) ≤ 57)
/-- A text's number, whether it is one. -/
def D (l : List UInt8) : Int × Bool := if l.all isd = true then (l.foldl stepD 0, decide (0 < l.length)) else (0, false)
theorem digits_l0 (l : List UInt8) (hl : l.length ≤ 4) (c : Nat) : ∀ (n i : Int), (c : Int) = l.length - i → 0 ≤ i → 0 ≤ n → n + 1 ≤ bnd c →
    Ev (fun k => ambryref9_digits.l0 k (X.bytes l) n i) (if (l.drop i.toNat).all isd = true then ((l.drop i.toNat).foldl stepD n, decide (0 < l.length)) else (0, false)) := by
  induction c with
  | zero =>
    intro n i hc hi hn hb
    have e : l.drop i.toNat = [] := List.drop_eq_nil_of_le (by omega)
    rw [e]
    refine Ev.step (f := fun _ => some _) (fun k => ?_) (Ev.now _)
    simp only [ambryref9_digits.l0, bytes_size]
    have hh : ¬ i < (l.length : Int) := by omega
    simp only [hh, if_false]
    simp
  | succ c ih =>
    intro n i hc hi hn hb
    have hbc := bnd_le c
    have hb2 : 10 * n + 10 ≤ bnd c := by simp only [bnd] at hb; omega
    have hlt : i.toNat < l.length := by omega
    have e1 : (i + 1).toNat = i.toNat + 1 := by omega
    have hd : l.drop i.toNat = l[i.toNat] :: l.drop (i + 1).toNat := by rw [e1, List.drop_eq_getElem_cons hlt]
    have hbt : bt (X.bytes l) i = ((l[i.toNat]).toNat : Int) := by
      have := bt_bytes l i.toNat hlt
      rwa [show ((i.toNat : Nat) : Int) = i by omega] at this
    have hbb := (l[i.toNat]).toNat_lt
    rw [hd]
    generalize l[i.toNat] = b at hbt hbb
    by_cases c1 : (b.toNat : Int) < 48
    · refine Ev.step (f := fun _ => some _) (fun k => ?_) (Ev.now _)
      simp only [ambryref9_digits.l0, bytes_size, hbt]
      rw [if_pos (by omega), if_pos hi, if_pos c1]
      have : isd b = false := by unfold isd; simp; omega
      simp [this]
    · by_cases c2 : (b.toNat : Int) > 57
      · refine Ev.step (f := fun _ => some _) (fun k => ?_) (Ev.now _)
        simp only [ambryref9_digits.l0, bytes_size, hbt]
        rw [if_pos (by omega), if_pos hi, if_neg c1, if_pos c2]
        have : isd b = false := by unfold isd; simp; omega
        simp [this]
      · have hst : stepD n b = 10 * n + ((b.toNat : Int) - 48) := by unfold stepD; rw [if_pos (by omega)]
        have hi' := ih (stepD n b) (i + 1) (by omega) (by omega) (by rw [hst]; omega) (by rw [hst]; omega)
        have hid : isd b = true := by unfold isd; simp; omega
        rw [List.all_cons, List.foldl_cons, hid, Bool.true_and]
        refine Ev.step (f := fun k => ambryref9_digits.l0 k (X.bytes l) (stepD n b) (i + 1)) (fun k => ?_) hi'
        simp only [ambryref9_digits.l0, bytes_size, hbt]
        rw [if_pos (by omega), if_pos hi, if_neg c1, if_neg c2, w64 (x := i + 1) (by omega) (by omega), w64 (x := 10 * n) (by omega) (by omega), w64 (by omega) (by omega), hst]
        congr 1
        omega
theorem digits_ev (l : List UInt8) (hl : l.length ≤ 4) : Ev (fun k => ambryref9_digits.f k (X.bytes l)) (D l) := by
  have hb : (0 : Int) + 1 ≤ bnd l.length := by
    generalize l.length = n at hl
    match n, hl with
    | 0, _ | 1, _ | 2, _ | 3, _ | 4, _ => decide
  exact digits_l0 l hl l.length 0 0 (by omega) (by omega) (by omega) hb
theorem isd_dg {b : UInt8} (h : isd b = true) : ∃ n : Int, 0 ≤ n ∧ n ≤ 9 ∧ b = dg n := by
  unfold isd at h
  have h := of_decide_eq_true h
  refine ⟨(b.toNat : Int) - 48, by omega, by omega, ?_⟩
  unfold dg
  have : 48 + ((b.toNat : Int) - 48).toNat = b.toNat := by omega
  rw [this]
  simp
theorem dg_isd (n : Int) (h0 : 0 ≤ n) (h9 : n ≤ 9) : isd (dg n) = true := by
  unfold isd
  rw [dg_nat h0 h9]
  exact decide_eq_true (by omega)
theorem D_yes {l : List UInt8} {n : Int} (h : D l = (n, true)) : l.all isd = true ∧ l.foldl stepD 0 = n := by
  unfold D at h
  split at h
  · rename_i c
    exact ⟨c, (Prod.mk.inj h).1⟩
  · exact absurd (Prod.mk.inj h).2 (by decide)
theorem D_one {a : UInt8} {n : Int} (h : D [a] = (n, true)) : 0 ≤ n ∧ n ≤ 9 ∧ a = dg n := by
  obtain ⟨h1, h2⟩ := D_yes h
  simp only [List.all_cons, List.all_nil, Bool.and_true] at h1
  obtain ⟨x, x0, x9, rfl⟩ := isd_dg h1
  simp only [List.foldl_cons, List.foldl_nil] at h2
  rw [stepD_dg _ _ x0 x9] at h2
  obtain rfl : x = n := by omega
  exact ⟨x0, x9, rfl⟩
theorem D_two {a b : UInt8} {n : Int} (h : D [a, b] = (n, true)) : 0 ≤ n ∧ n ≤ 99 ∧ [a, b] = tw n := by
  obtain ⟨h1, h2⟩ := D_yes h
  simp only [List.all_cons, List.all_nil, Bool.and_true, Bool.and_eq_true] at h1
  obtain ⟨x, x0, x9, rfl⟩ := isd_dg h1.1
  obtain ⟨y, y0, y9, rfl⟩ := isd_dg h1.2
  simp only [List.foldl_cons, List.foldl_nil] at h2
  rw [stepD_dg _ _ x0 x9, stepD_dg _ _ y0 y9] at h2
  refine ⟨by omega, by omega, ?_⟩
  unfold tw
  rw [show n / 10 % 10 = x by omega, show n % 10 = y by omega]
theorem D_four {a b c d : UInt8} {n : Int} (h : D [a, b, c, d] = (n, true)) : 0 ≤ n ∧ n ≤ 9999 ∧ [a, b, c, d] = tw (n / 100) ++ tw n := by
  obtain ⟨h1, h2⟩ := D_yes h
  simp only [List.all_cons, List.all_nil, Bool.and_true, Bool.and_eq_true] at h1
  obtain ⟨x, x0, x9, rfl⟩ := isd_dg h1.1
  obtain ⟨y, y0, y9, rfl⟩ := isd_dg h1.2.1
  obtain ⟨z, z0, z9, rfl⟩ := isd_dg h1.2.2.1
  obtain ⟨u, u0, u9, rfl⟩ := isd_dg h1.2.2.2
  simp only [List.foldl_cons, List.foldl_nil] at h2
  rw [stepD_dg _ _ x0 x9, stepD_dg _ _ y0 y9, stepD_dg _ _ z0 z9, stepD_dg _ _ u0 u9] at h2
  refine ⟨by omega, by omega, ?_⟩
  unfold tw
  rw [show n / 100 / 10 % 10 = x by omega, show n / 100 % 10 = y by omega, show n / 10 % 10 = z by omega, show n % 10 = u by omega]
  rfl
theorem D_tw (n : Int) (h0 : 0 ≤ n) (h1 : n ≤ 99) : D (tw n) = (n, true) := by
  unfold D
  have : (tw n).all isd = true := by simp only [tw, List.all_cons, List.all_nil, dg_isd (n / 10 % 10) (by omega) (by omega), dg_isd (n % 10) (by omega) (by omega), Bool.and_self]
  rw [if_pos this, two_num n h0 h1]
  rfl
theorem D_tw4 (n : Int) (h0 : 0 ≤ n) (h1 : n ≤ 9999) : D (tw (n / 100) ++ tw n) = (n, true) := by
  unfold D
  have : (tw (n / 100) ++ tw n).all isd = true := by simp only [tw, List.cons_append, List.nil_append, List.all_cons, List.all_nil, dg_isd (n / 100 / 10 % 10) (by omega) (by omega), dg_isd (n / 100 % 10) (by omega) (by omega), dg_isd (n / 10 % 10) (by omega) (by omega), dg_isd (n % 10) (by omega) (by omega), Bool.and_self]
  rw [if_pos this, four_num n h0 h1]
  rfl
theorem D_dg (n : Int) (h0 : 0 ≤ n) (h1 : n ≤ 9) : D [dg n] = (n, true) := by
  unfold D
  have : [dg n].all isd = true := by simp only [List.all_cons, List.all_nil, dg_isd n h0 h1, Bool.and_self]
  rw [if_pos this]
  simp only [List.foldl_cons, List.foldl_nil]
  rw [stepD_dg _ _ h0 h1]
  congr 1
  omega

/-! ### index -/
theorem index_l0 (zs : List ByteArray) (x : ByteArray) (hz : zs.length ≤ 1000) (c : Nat) : ∀ (i : Nat), c = zs.length - i → i ≤ zs.length →
    Ev (fun k => ambryref9_index.l0 k zs x (i : Int)) (Lib.idxFromS (zs.drop i) x i) := by
  induction c with
  | zero =>
    intro i hc hi
    have e : zs.drop i = [] := List.drop_eq_nil_of_le (by omega)
    rw [e]
    refine Ev.step (f := fun _ => some _) (fun k => ?_) (Ev.now _)
    simp only [ambryref9_index.l0]
    rw [if_neg (by omega)]
    rfl
  | succ c ih =>
    intro i hc hi
    have hlt : i < zs.length := by omega
    have hd : zs.drop i = zs[i] :: zs.drop (i + 1) := List.drop_eq_getElem_cons hlt
    have hr : rdOf ByteArray.empty zs (i : Int) = zs[i] := by
      unfold rdOf
      rw [show ((i : Int)).toNat = i by omega, List.getD_eq_getElem?_getD, List.getElem?_eq_getElem hlt]
      rfl
    rw [hd]
    simp only [Lib.idxFromS]
    by_cases c1 : zs[i] = x
    · rw [if_pos c1]
      refine Ev.step (f := fun _ => some _) (fun k => ?_) (Ev.now _)
      simp only [ambryref9_index.l0, hr]
      rw [if_pos (by omega), if_pos (by omega), if_pos (by rw [c1])]
    · rw [if_neg c1]
      refine Ev.step (f := fun k => ambryref9_index.l0 k zs x ((i + 1 : Nat) : Int)) (fun k => ?_) (ih (i + 1) (by omega) (by omega))
      simp only [ambryref9_index.l0, hr]
      rw [if_pos (by omega), if_pos (by omega), if_neg (fun e => c1 (by rw [eq_bytes zs[i], eq_bytes x, ← ByteArray.toList_eq, ← ByteArray.toList_eq, e])), w64 (by omega) (by omega)]
      rfl
theorem index_ev (zs : List ByteArray) (x : ByteArray) (hz : zs.length ≤ 1000) : Ev (fun k => ambryref9_index.f k zs x) (Lib.idxOfS zs x) := index_l0 zs x hz zs.length 0 (by omega) (by omega)
theorem months_ev (l : List UInt8) : Ev (fun k => ambryref9_index.f k rmonths (X.bytes l)) (mIdx l) := index_ev rmonths (X.bytes l) (by decide)
/-- A short day's number. -/
def dIdx (x : List UInt8) : Int := Lib.idxOfS rdays (X.bytes x)
theorem days_ev (l : List UInt8) : Ev (fun k => ambryref9_index.f k rdays (X.bytes l)) (dIdx l) := index_ev rdays (X.bytes l) (by decide)
theorem dIdx_cases (x : List UInt8) : dIdx x = -1 ∨ 0 ≤ dIdx x ∧ dIdx x < 7 ∧ x = sd (dIdx x) := by
  unfold dIdx Lib.idxOfS
  rcases idx_cases (X.bytes x) rdays 0 with ⟨h, _⟩ | ⟨k, hk, h, hx⟩
  · exact .inl h
  · have hk' : k < 7 := hk
    rw [h]
    have e : rdOf ByteArray.empty rdays ((0 + k : Nat) : Int) = X.bytes x := by
      unfold rdOf
      rw [show (((0 + k : Nat) : Int)).toNat = k by omega, List.getD_eq_getElem?_getD, hx]
      rfl
    rw [rdays_at _ (by omega) (by omega)] at e
    exact .inr ⟨by omega, by omega, (bytes_inj e).symm⟩
theorem dIdx_sd (w : Int) (h0 : 0 ≤ w) (h1 : w < 7) : dIdx (sd w) = w := by
  obtain ⟨k, rfl⟩ := Int.eq_ofNat_of_zero_le h0
  match k, h1 with
  | 0, _ | 1, _ | 2, _ | 3, _ | 4, _ | 5, _ | 6, _ => decide
  | k + 7, h => omega
end Go.Proofs.YtcejglmmjbmafaaDoor.Pure
/- Plain Lean: the document's reader: the clock, the day, what is made of the parts. -/
namespace Go.Proofs.YtcejglmmjbmafaaDoor.Pure
open Go.RowKit Go.Proofs.YtcejglmmjbmafaaDoor.X Go.Proofs.YtcejglmmjbmafaaDoor.Cal Go.Proofs.YtcejglmmjbmafaaDoorW.PrintWords Go.Proofs.YtcejglmmjbmafaaDoorW.PrintLast Go.Proofs.YtcejglmmjbmafaaDoorW.PrintMore
set_option linter.unusedVariables false
set_option linter.unusedSimpArgs false

theorem cj0_true (s : ByteArray) : Ev (fun k => ambryref9_clock.j0 k s true) (0, false) := Ev.step (f := fun _ => some (0, false)) (fun k => by simp only [ambryref9_clock.j0, if_true]) (Ev.now _)
/-- Two digits each, within their bounds. -/
def cok (x y z : Int × Bool) : Bool := x.2 && (y.2 && (z.2 && (decide (x.1 ≤ 23) && (decide (y.1 ≤ 59) && decide (z.1 ≤ 59)))))
theorem D_range (l : List UInt8) (hl : l.length ≤ 4) : 0 ≤ (D l).1 ∧ (D l).1 ≤ 99999999 := by
  have hb : (0 : Int) + 1 ≤ bnd l.length := by
    generalize l.length = n at hl
    match n, hl with
    | 0, _ | 1, _ | 2, _ | 3, _ | 4, _ => decide
  have key : ∀ (l : List UInt8) (n : Int), 0 ≤ n → n + 1 ≤ bnd l.length → 0 ≤ l.foldl stepD n ∧ l.foldl stepD n + 1 ≤ bnd 0 := by
    intro l
    induction l with
    | nil => intro n h0 h1; exact ⟨h0, h1⟩
    | cons b l ih =>
      intro n h0 h1
      have hbb := b.toNat_lt
      simp only [List.length_cons, bnd] at h1
      refine ih (stepD n b) ?_ ?_
      · unfold stepD; split <;> omega
      · unfold stepD; split <;> omega
  obtain ⟨h0, h1⟩ := key l 0 (by omega) hb
  have e0 : bnd 0 = 100000000 := rfl
  rw [e0] at h1
  unfold D
  split
  · exact ⟨h0, by simp only; omega⟩
  · exact ⟨by simp, by simp⟩
theorem cj0_false (l : List UInt8) (hl : l.length = 8) : Ev (fun k => ambryref9_clock.j0 k (X.bytes l) false)
    ((D (l.take 2)).1 * 3600 + (D ((l.drop 3).take 2)).1 * 60 + (D (l.drop 6)).1, cok (D (l.take 2)) (D ((l.drop 3).take 2)) (D (l.drop 6))) := by
  have l1 : (l.take 2).length ≤ 4 := by simp; omega
  have l2 : ((l.drop 3).take 2).length ≤ 4 := by simp; omega
  have l3 : (l.drop 6).length ≤ 4 := by simp; omega
  obtain ⟨k1, h1⟩ := digits_ev _ l1
  obtain ⟨k2, h2⟩ := digits_ev _ l2
  obtain ⟨k3, h3⟩ := digits_ev _ l3
  have r1 := D_range _ l1
  have r2 := D_range _ l2
  have r3 := D_range _ l3
  have x1 : (X.bytes l).extract 0 2 = X.bytes (l.take 2) := by rw [extract_bytes]; rfl
  have x2 : (X.bytes l).extract 3 5 = X.bytes ((l.drop 3).take 2) := by rw [extract_bytes]
  have x3 : (X.bytes l).extract 6 (X.bytes l).size = X.bytes (l.drop 6) := by rw [extract_bytes, bytes_size, List.take_of_length_le (by simp)]
  refine ⟨k1 + k2 + k3 + 1, fun k hk => ?_⟩
  obtain ⟨k, rfl⟩ : ∃ k', k = k' + 1 := ⟨k - 1, by omega⟩
  have e1 := h1 k (by omega)
  have e2 := h2 k (by omega)
  have e3 := h3 k (by omega)
  simp only at e1 e2 e3
  have hz : ((X.bytes l).size : Int) = 8 := by rw [bytes_size]; omega
  simp only [ambryref9_clock.j0, Bool.false_eq_true, if_false, x1, x2, x3, e1, e2, e3, Option.bind_some, hz]
  rw [if_pos (by decide), if_pos (by decide), if_pos (by decide), if_pos (by decide), if_pos (by decide), w64 (x := (D (l.take 2)).1 * 3600) (by omega) (by omega), w64 (x := (D ((l.drop 3).take 2)).1 * 60) (by omega) (by omega), w64 (x := (D (l.take 2)).1 * 3600 + (D ((l.drop 3).take 2)).1 * 60) (by omega) (by omega), w64 (by omega) (by omega)]
  unfold cok
  generalize D (l.take 2) = p
  generalize D ((l.drop 3).take 2) = q
  generalize D (l.drop 6) = r
  obtain ⟨p1, p2⟩ := p
  obtain ⟨q1, q2⟩ := q
  obtain ⟨s1, s2⟩ := r
  cases p2 <;> cases q2 <;> cases s2 <;> simp
  by_cases c1 : p1 ≤ 23 <;> by_cases c2 : q1 ≤ 59 <;> simp [c1, c2]
/-- A text's clock. -/
theorem clk (l : List UInt8) (hl : l.length = 8) : ∃ v ok, Ev (fun k => ambryref9_clock.f k (X.bytes l)) (v, ok) ∧ (ok = true → ∃ h mi s, 0 ≤ h ∧ h ≤ 23 ∧ 0 ≤ mi ∧ mi ≤ 59 ∧ 0 ≤ s ∧ s ≤ 59 ∧ l = ck h mi s ∧ v = h * 3600 + mi * 60 + s) ∧
    (∀ h mi s, 0 ≤ h → h ≤ 23 → 0 ≤ mi → mi ≤ 59 → 0 ≤ s → s ≤ 59 → l = ck h mi s → ok = true ∧ v = h * 3600 + mi * 60 + s) := by
  have hz : ((X.bytes l).size : Int) = 8 := by rw [bytes_size]; omega
  match l, hl with
  | [a, b, c, d, e, f, g, h], _ =>
    have b2 : bt (X.bytes [a, b, c, d, e, f, g, h]) 2 = (c.toNat : Int) := bt_bytes [a, b, c, d, e, f, g, h] 2 (by simp)
    have b5 : bt (X.bytes [a, b, c, d, e, f, g, h]) 5 = (f.toNat : Int) := bt_bytes [a, b, c, d, e, f, g, h] 5 (by simp)
    have h58 : ∀ x : UInt8, (x.toNat : Int) = 58 → x = 58 := by
      intro x hx
      apply UInt8.toNat_inj.1
      have : (58 : UInt8).toNat = 58 := rfl
      omega
    by_cases c2 : (c.toNat : Int) = 58
    · by_cases c5 : (f.toNat : Int) = 58
      · obtain rfl := h58 _ c2
        obtain rfl := h58 _ c5
        refine ⟨_, _, Ev.congr (fun k => ?_) (cj0_false [a, b, 58, d, e, 58, g, h] rfl), ?_, ?_⟩
        · simp only [ambryref9_clock.f, hz, b2, b5, if_true]
          rw [if_pos (by decide), if_pos c2, if_pos (by decide)]
          rfl
        · intro hok
          unfold cok at hok
          simp only [Bool.and_eq_true, decide_eq_true_iff] at hok
          obtain ⟨o1, o2, o3, o4, o5, o6⟩ := hok
          obtain ⟨p0, p1, pe⟩ := D_two (a := a) (b := b) (n := (D [a, b]).1) (by rw [← show (D [a, b]).2 = true from o1])
          obtain ⟨q0, q1, qe⟩ := D_two (a := d) (b := e) (n := (D [d, e]).1) (by rw [← show (D [d, e]).2 = true from o2])
          obtain ⟨r0, r1, re⟩ := D_two (a := g) (b := h) (n := (D [g, h]).1) (by rw [← show (D [g, h]).2 = true from o3])
          refine ⟨(D [a, b]).1, (D [d, e]).1, (D [g, h]).1, p0, o4, q0, o5, r0, o6, ?_, rfl⟩
          unfold ck
          rw [← pe, ← qe, ← re]
          rfl
        · intro hh mi s h0 h1 m0 m1 s0 s1 he
          unfold ck at he
          have t1 : [a, b] = tw hh := by simpa [tw] using congrArg (List.take 2) he
          have t2 : [d, e] = tw mi := by simpa [tw] using congrArg (fun l => (l.drop 3).take 2) he
          have t3 : [g, h] = tw s := by simpa [tw] using congrArg (fun l => l.drop 6) he
          have d1 := D_tw hh h0 (by omega)
          have d2 := D_tw mi m0 (by omega)
          have d3 := D_tw s s0 (by omega)
          rw [← t1] at d1
          rw [← t2] at d2
          rw [← t3] at d3
          have e1 : List.take 2 [a, b, 58, d, e, 58, g, h] = [a, b] := rfl
          have e2 : (List.drop 3 [a, b, 58, d, e, 58, g, h]).take 2 = [d, e] := rfl
          have e3 : List.drop 6 [a, b, 58, d, e, 58, g, h] = [g, h] := rfl
          rw [e1, e2, e3, d1, d2, d3]
          unfold cok
          simp
          omega
      · refine ⟨0, false, Ev.congr (fun k => ?_) (cj0_true (X.bytes [a, b, c, d, e, f, g, h])), (fun z => by cases z), ?_⟩
        · simp only [ambryref9_clock.f, hz, b2, b5, if_true]
          rw [if_pos (by decide), if_pos c2, if_pos (by decide)]
          have : ((f.toNat : Int) != 58) = true := by simpa using c5
          rw [this]
        · intro hh mi s h0 h1 m0 m1 s0 s1 he
          unfold ck tw at he
          simp at he
          exact absurd (by rw [he.2.2.2.2.2.1]; rfl) c5
    · refine ⟨0, false, Ev.congr (fun k => ?_) (cj0_true (X.bytes [a, b, c, d, e, f, g, h])), (fun z => by cases z), ?_⟩
      · simp only [ambryref9_clock.f, hz, b2, b5, if_true]
        rw [if_pos (by decide), if_neg c2]
      · intro hh mi s h0 h1 m0 m1 s0 s1 he
        unfold ck tw at he
        simp at he
        exact absurd (by rw [he.2.2.1]; rfl) c2
theorem day_l0 (y m d : Int) (hy0 : 1970 ≤ y) (hy1 : y ≤ 9999) (hm0 : 0 ≤ m) (hm1 : m < 12) (hd0 : 1 ≤ d) (hd1 : d ≤ 31) (c : Nat) : ∀ i : Int, (c : Int) = m - i → 0 ≤ i → i ≤ m →
    Ev (fun k => ambryref9_day.l0 k y (m + 1) d (dys y + cum y i) (i + 1)) (num y m d) := by
  have hq0 : 0 ≤ dys y := by have := dys_le hy0; rw [dys_1970] at this; exact this
  have hq1 : dys y ≤ 2932897 := by have := dys_le (show y ≤ 10000 by omega); rw [dys_10000] at this; exact this
  induction c with
  | zero =>
    intro i hc h0 h1
    obtain rfl : i = m := by omega
    have hb := cum_pos y i h0 (by omega)
    refine Ev.step (f := fun _ => some _) (fun k => ?_) (Ev.now _)
    simp only [ambryref9_day.l0]
    rw [if_neg (by omega), w64 (x := d - 1) (by omega) (by omega), w64 (by omega) (by omega)]
    unfold num
    congr 1
    omega
  | succ c ih =>
    intro i hc h0 h1
    have hb := cum_pos y i h0 (by omega)
    have hs := cum_succ y i h0 (by omega)
    have hh := len_hi y i
    have hl := len_lo y i
    refine Ev.step (f := fun k => ambryref9_day.l0 k y (m + 1) d (dys y + cum y (i + 1)) (i + 1 + 1)) (fun k => ?_) (ih (i + 1) (by omega) (by omega) (by omega))
    simp only [ambryref9_day.l0]
    rw [if_pos (by omega), rlength_f y (i + 1) (by omega) (by omega) (by omega), show i + 1 - 1 = i by omega]
    simp only [Option.bind_some]
    rw [w64 (x := i + 1 + 1) (by omega) (by omega), w64 (by omega) (by omega), hs]
    congr 1
    omega
theorem day_ev {y m d : Int} (o : Ok y m d) : Ev (fun k => ambryref9_day.f k y (m + 1) d) (num y m d) := by
  have := day_l0 y m d o.y0 o.y1 o.m0 o.m1 o.d0 (Int.le_trans o.d1 (len_hi _ _)) m.toNat 0 (by have := o.m0; omega) (by omega) o.m0
  refine Ev.congr (fun k => ?_) this
  have hy1 := o.y1
  simp only [ambryref9_day.f, ahead_f y o.y0 (by omega), Option.bind_some, cum_0, Int.add_zero]
  rfl
theorem mj0_true (w y m d v : Int) : Ev (fun k => ambryref9_made.j0 k w y m d v true) (0, 80) := Ev.step (f := fun _ => some (0, 80)) (fun k => by simp only [ambryref9_made.j0, if_true]) (Ev.now _)
theorem mj0_false (w v : Int) {y m d : Int} (o : Ok y m d) (hv0 : 0 ≤ v) (hv1 : v ≤ 86400) : Ev (fun k => ambryref9_made.j0 k w y m d v false) (if wk y m d = w then (num y m d * 86400 + v, 0) else (0, 80)) := by
  obtain ⟨hb0, hb1⟩ := o.bound
  have hm1 := o.m1; have hm0 := o.m0
  refine Ev.step (f := fun k => (ambryref9_day.f k y (m + 1) d).bind fun t => if wk y m d = w then some (num y m d * 86400 + v, 0) else some (0, 80)) (fun k => ?_) ?_
  · simp only [ambryref9_made.j0, Bool.false_eq_true, if_false]
    rw [w64 (x := m + 1) (by omega) (by omega)]
    rcases hq : ambryref9_day.f k y (m + 1) d with _ | n
    · rfl
    · have hn : n = num y m d := by
        obtain ⟨K, hK⟩ := day_ev o
        have h1 := at_rounds (g := fun k => ambryref9_day.f k y (m + 1) d) (fun k => ambryref9_day.mono _ _ _ k) (Nat.le_max_left k K) hq
        have h2 := hK _ (Nat.le_max_right k K)
        exact Option.some.inj (h1.symm.trans h2)
      subst hn
      simp only [Option.bind_some]
      rw [w64 (x := num y m d + 4) (by omega) (by omega), tmod_nn 7 (by omega), w64 (x := num y m d * 86400) (by omega) (by omega), w64 (by omega) (by omega)]
      rfl
  · refine Ev.bind (f := fun k t => if wk y m d = w then some (num y m d * 86400 + v, 0) else some (0, 80)) (day_ev o) ?_
    refine Ev.congr (fun k => ?_) (Ev.now _)
    split <;> rfl
/-- What is made of the parts. -/
theorem made_tot (w y m d : Int) (l : List UInt8) (hl : l.length = 8) (hm : m < 12) (hm' : -1 ≤ m) : ∃ r, Ev (fun k => ambryref9_made.f k w y m d (X.bytes l)) r ∧
    (r = (0, 80) ∨ ∃ h mi s, Tm y m d h mi s ∧ l = ck h mi s ∧ w = wk y m d ∧ r = (sec y m d h mi s, 0)) ∧
    (∀ h mi s, Tm y m d h mi s → l = ck h mi s → w = wk y m d → r = (sec y m d h mi s, 0)) := by
  obtain ⟨v, ok, hc, hyes, hall⟩ := clk l hl
  have B : ∀ {g : Nat → Option (Int × Int)} {r : Int × Int}, (∀ k, (fun k (bt234 : Int × Bool) => (if bt234.2 = true then (if w < 0 then (ambryref9_made.j0 k w y m d bt234.1 true) else (if m < 0 then (ambryref9_made.j0 k w y m d bt234.1 true) else (if y < 1970 then (ambryref9_made.j0 k w y m d bt234.1 true) else (if y > 9999 then (ambryref9_made.j0 k w y m d bt234.1 true) else (if d < 1 then (ambryref9_made.j0 k w y m d bt234.1 true) else ((ambryref9_length.f y (wrap64 (m + 1))).bind fun t236 => (ambryref9_made.j0 k w y m d bt234.1 (decide (d > t236))))))))) else (ambryref9_made.j0 k w y m d bt234.1 true))) k (v, ok) = g k) → Ev g r → Ev (fun k => ambryref9_made.f k w y m d (X.bytes l)) r := by
    intro g r he hg
    exact Ev.bind (f := fun k (bt234 : Int × Bool) => (if bt234.2 = true then (if w < 0 then (ambryref9_made.j0 k w y m d bt234.1 true) else (if m < 0 then (ambryref9_made.j0 k w y m d bt234.1 true) else (if y < 1970 then (ambryref9_made.j0 k w y m d bt234.1 true) else (if y > 9999 then (ambryref9_made.j0 k w y m d bt234.1 true) else (if d < 1 then (ambryref9_made.j0 k w y m d bt234.1 true) else ((ambryref9_length.f y (wrap64 (m + 1))).bind fun t236 => (ambryref9_made.j0 k w y m d bt234.1 (decide (d > t236))))))))) else (ambryref9_made.j0 k w y m d bt234.1 true))) hc (Ev.congr he hg)
  by_cases cok : ok = true
  · subst cok
    by_cases cw : w < 0
    · exact ⟨_, B (fun k => by simp only [if_true]; rw [if_pos cw]) (mj0_true w y m d v), .inl rfl, fun h mi s t e ew => by have := wk0 y m d; omega⟩
    · by_cases cm : m < 0
      · exact ⟨_, B (fun k => by simp only [if_true]; rw [if_neg cw, if_pos cm]) (mj0_true w y m d v), .inl rfl, fun h mi s t e ew => by have := t.ok.m0; omega⟩
      · by_cases cy : y < 1970
        · exact ⟨_, B (fun k => by simp only [if_true]; rw [if_neg cw, if_neg cm, if_pos cy]) (mj0_true w y m d v), .inl rfl, fun h mi s t e ew => by have := t.ok.y0; omega⟩
        · by_cases cy1 : y > 9999
          · exact ⟨_, B (fun k => by simp only [if_true]; rw [if_neg cw, if_neg cm, if_neg cy, if_pos cy1]) (mj0_true w y m d v), .inl rfl, fun h mi s t e ew => by have := t.ok.y1; omega⟩
          · by_cases cd : d < 1
            · exact ⟨_, B (fun k => by simp only [if_true]; rw [if_neg cw, if_neg cm, if_neg cy, if_neg cy1, if_pos cd]) (mj0_true w y m d v), .inl rfl, fun h mi s t e ew => by have := t.ok.d0; omega⟩
            · have hlen : ambryref9_length.f y (wrap64 (m + 1)) = some (len y m) := by
                rw [w64 (x := m + 1) (by omega) (by omega), rlength_f y (m + 1) (by omega) (by omega) (by omega), show m + 1 - 1 = m by omega]
              by_cases cl : d > len y m
              · exact ⟨_, B (fun k => by simp only [if_true]; rw [if_neg cw, if_neg cm, if_neg cy, if_neg cy1, if_neg cd, hlen]; simp only [Option.bind_some, decide_eq_true cl]) (mj0_true w y m d v), .inl rfl, fun h mi s t e ew => by have := t.ok.d1; omega⟩
              · have o : Ok y m d := ⟨by omega, by omega, by omega, hm, by omega, by omega⟩
                obtain ⟨h, mi, s, h0, h1, m0, m1, s0, s1, hle, hv⟩ := hyes rfl
                have t : Tm y m d h mi s := ⟨o, h0, h1, m0, m1, s0, s1⟩
                refine ⟨_, B (fun k => by simp only [if_true]; rw [if_neg cw, if_neg cm, if_neg cy, if_neg cy1, if_neg cd, hlen]; simp only [Option.bind_some, decide_eq_false cl]) (mj0_false w v o (by omega) (by omega)), ?_, ?_⟩
                · by_cases ew : wk y m d = w
                  · rw [if_pos ew]
                    refine .inr ⟨h, mi, s, t, hle, ew.symm, ?_⟩
                    unfold sec
                    congr 1
                    omega
                  · rw [if_neg ew]
                    exact .inl rfl
                · intro h' mi' s' t' e' ew
                  obtain ⟨_, hv'⟩ := hall h' mi' s' t'.h0 t'.h1 t'.mi0 t'.mi1 t'.s0 t'.s1 e'
                  rw [if_pos ew.symm]
                  unfold sec
                  congr 1
                  omega
  · have hf : ok = false := by cases ok; rfl; exact absurd rfl cok
    subst hf
    refine ⟨_, B (fun k => by simp only [Bool.false_eq_true, if_false]) (mj0_true w y m d v), .inl rfl, fun h mi s t e ew => ?_⟩
    obtain ⟨ho, _⟩ := hall h mi s t.h0 t.h1 t.mi0 t.mi1 t.s0 t.s1 e
    cases ho
end Go.Proofs.YtcejglmmjbmafaaDoor.Pure
/- Plain Lean: the document's reader, one form's parts. -/
namespace Go.Proofs.YtcejglmmjbmafaaDoor.Pure
open Go.RowKit Go.Proofs.YtcejglmmjbmafaaDoor.X Go.Proofs.YtcejglmmjbmafaaDoor.Cal Go.Proofs.YtcejglmmjbmafaaDoorW.PrintWords Go.Proofs.YtcejglmmjbmafaaDoorW.PrintLast Go.Proofs.YtcejglmmjbmafaaDoorW.PrintMore
set_option linter.unusedVariables false
set_option linter.unusedSimpArgs false

theorem rparts_tot (d y w m c : List UInt8) (hd : d.length ≤ 4) (hy : y.length ≤ 4) (hc : c.length = 8) : ∃ r, Ev (fun k => rparts k (X.bytes d) (X.bytes y) (X.bytes w) (X.bytes m) (X.bytes c)) r ∧
    (r = (0, 80) ∨ ∃ h mi s, (D d).2 = true ∧ (D y).2 = true ∧ Tm (D y).1 (mIdx m) (D d).1 h mi s ∧ c = ck h mi s ∧ dIdx w = wk (D y).1 (mIdx m) (D d).1 ∧ r = (sec (D y).1 (mIdx m) (D d).1 h mi s, 0)) ∧
    (∀ h mi s, (D d).2 = true → (D y).2 = true → Tm (D y).1 (mIdx m) (D d).1 h mi s → c = ck h mi s → dIdx w = wk (D y).1 (mIdx m) (D d).1 → r = (sec (D y).1 (mIdx m) (D d).1 h mi s, 0)) := by
  obtain ⟨r, hr, h1, h2⟩ := made_tot (dIdx w) (D y).1 (mIdx m) (D d).1 c hc (by rcases mIdx_cases m with h | h <;> omega) (by rcases mIdx_cases m with h | h <;> omega)
  by_cases hb : (D d).2 = true ∧ (D y).2 = true
  · obtain ⟨k1, e1⟩ := digits_ev d hd
    obtain ⟨k2, e2⟩ := digits_ev y hy
    obtain ⟨k3, e3⟩ := days_ev w
    obtain ⟨k4, e4⟩ := months_ev m
    obtain ⟨k5, e5⟩ := hr
    refine ⟨r, ⟨k1 + k2 + k3 + k4 + k5, fun k hk => ?_⟩, ?_, fun h mi s a b t e ew => h2 h mi s t e ew⟩
    · have q1 := e1 k (by omega)
      have q2 := e2 k (by omega)
      have q3 := e3 k (by omega)
      have q4 := e4 k (by omega)
      have q5 := e5 k (by omega)
      simp only at q1 q2 q3 q4 q5
      simp only [rparts, q1, q2, Option.bind_some, rdays_f, rmonths_f, q3, q4]
      rw [if_pos hb]
      exact q5
    · rcases h1 with h1 | ⟨h, mi, s, t, e, ew, er⟩
      · exact .inl h1
      · exact .inr ⟨h, mi, s, hb.1, hb.2, t, e, ew, er⟩
  · obtain ⟨k1, e1⟩ := digits_ev d hd
    obtain ⟨k2, e2⟩ := digits_ev y hy
    refine ⟨(0, 80), ⟨k1 + k2, fun k hk => ?_⟩, .inl rfl, fun h mi s a b => absurd ⟨a, b⟩ hb⟩
    have q1 := e1 k (by omega)
    have q2 := e2 k (by omega)
    simp only at q1 q2
    simp only [rparts, q1, q2, Option.bind_some]
    rw [if_neg hb]
end Go.Proofs.YtcejglmmjbmafaaDoor.Pure
/- Plain Lean: the document's reader of dates answers just as the three texts say. -/
namespace Go.Proofs.YtcejglmmjbmafaaDoor.Pure
open Go.RowKit Go.Proofs.YtcejglmmjbmafaaDoor.X Go.Proofs.YtcejglmmjbmafaaDoor.Cal Go.Proofs.YtcejglmmjbmafaaDoorW.PrintWords Go.Proofs.YtcejglmmjbmafaaDoorW.PrintLast Go.Proofs.YtcejglmmjbmafaaDoorW.PrintMore
set_option linter.unusedVariables false
set_option linter.unusedSimpArgs false

/-- An answer that fits a text. -/
def Ans (a : List UInt8) (r : Int × Int) : Prop :=
  (r = (0, 80) ∨ ∃ y mo d h mi s, Tm y mo d h mi s ∧ Says (X.bytes a) y mo d h mi s ∧ r = (sec y mo d h mi s, 0)) ∧
  (∀ y mo d h mi s, Tm y mo d h mi s → Says (X.bytes a) y mo d h mi s → r = (sec y mo d h mi s, 0))
theorem u8_of {b : UInt8} {n : Nat} (h : (b.toNat : Int) = n) (hn : n < 256) : b = UInt8.ofNat n := by
  have h : b.toNat = n := by omega
  subst h
  simp
theorem T1_len {y mo d h mi s : Int} (t : Tm y mo d h mi s) : (T1 y mo d h mi s (wk y mo d)).length = 29 := by
  obtain ⟨a', b', c', es, _⟩ := sd_three _ (wk0 y mo d)
  obtain ⟨p, q, r, em, _⟩ := m3_three mo t.ok.m0 t.ok.m1
  simp [T1, es, em, tw, ck]
theorem T3_len {y mo d h mi s : Int} (t : Tm y mo d h mi s) : (T3 y mo d h mi s (wk y mo d)).length = 24 := by
  obtain ⟨a', b', c', es, _⟩ := sd_three _ (wk0 y mo d)
  obtain ⟨p, q, r, em, _⟩ := m3_three mo t.ok.m0 t.ok.m1
  obtain ⟨u, v, ed, _⟩ := dl_two d (Int.le_trans (by decide) t.d.1)
  simp [T3, es, em, ed, tw, ck]
/-- The late form behind the day's name. -/
def U2 (y mo d h mi s : Int) : List UInt8 := tw d ++ [45] ++ m3 mo ++ [45] ++ tw y ++ [32] ++ ck h mi s ++ [32, 71, 77, 84]
theorem T2_U2 (y mo d h mi s w : Int) : T2 y mo d h mi s w = ld w ++ ([44, 32] ++ U2 y mo d h mi s) := by simp [T2, U2]
theorem U2_len {y mo d h mi s : Int} (t : Tm y mo d h mi s) : (U2 y mo d h mi s).length = 22 := by
  obtain ⟨p, q, r, em, _⟩ := m3_three mo t.ok.m0 t.ok.m1
  simp [U2, em, tw, ck]
theorem T2_len {y mo d h mi s : Int} (t : Tm y mo d h mi s) : (T2 y mo d h mi s (wk y mo d)).length = (ld (wk y mo d)).length + 24 := by
  rw [T2_U2, List.length_append, List.length_append, U2_len t]
  rfl
theorem says_29 {a : List UInt8} {y mo d h mi s : Int} (hl : a.length = 29) (t : Tm y mo d h mi s) (hs : Says (X.bytes a) y mo d h mi s) : a = T1 y mo d h mi s (wk y mo d) := by
  rcases hs with e | ⟨e, _⟩ | e
  · exact bytes_inj e
  · have := congrArg List.length (bytes_inj e)
    rw [T2_len t] at this
    have := (ld_ok _ (wk0 y mo d)).1
    omega
  · have := congrArg List.length (bytes_inj e)
    rw [T3_len t] at this
    omega
theorem says_24 {a : List UInt8} {y mo d h mi s : Int} (hl : a.length = 24) (t : Tm y mo d h mi s) (hs : Says (X.bytes a) y mo d h mi s) : a = T3 y mo d h mi s (wk y mo d) := by
  rcases hs with e | ⟨e, _⟩ | e
  · have := congrArg List.length (bytes_inj e)
    rw [T1_len t] at this
    omega
  · have := congrArg List.length (bytes_inj e)
    rw [T2_len t] at this
    have := (ld_ok _ (wk0 y mo d)).1
    omega
  · exact bytes_inj e
theorem says_30 {a : List UInt8} {y mo d h mi s : Int} (h1 : a.length ≠ 29) (h3 : a.length ≠ 24) (t : Tm y mo d h mi s) (hs : Says (X.bytes a) y mo d h mi s) : a = T2 y mo d h mi s (wk y mo d) ∧ y < 2070 := by
  rcases hs with e | ⟨e, hy⟩ | e
  · exact absurd ((congrArg List.length (bytes_inj e)).trans (T1_len t)) h1
  · exact ⟨bytes_inj e, hy⟩
  · exact absurd ((congrArg List.length (bytes_inj e)).trans (T3_len t)) h3
theorem D_eta {l : List UInt8} (h : (D l).2 = true) : D l = ((D l).1, true) := by rw [← h]
theorem sd_of {l : List UInt8} {y mo d : Int} (h : dIdx l = wk y mo d) : l = sd (wk y mo d) := by
  rcases dIdx_cases l with e | ⟨_, _, e⟩
  · have := wk0 y mo d
    omega
  · rw [h] at e
    exact e
theorem m3_of {l : List UInt8} (h : 0 ≤ mIdx l) : l = m3 (mIdx l) := by
  rcases mIdx_cases l with e | ⟨_, _, e⟩
  · omega
  · exact e
theorem four_of {a b c d : UInt8} {y : Int} (h : [a, b, c, d] = tw (y / 100) ++ tw y) : tw (y / 100) = [a, b] ∧ tw y = [c, d] := by
  simp only [tw, List.cons_append, List.nil_append, List.cons.injEq, and_true] at h
  obtain ⟨rfl, rfl, rfl, rfl⟩ := h
  exact ⟨rfl, rfl⟩

theorem form1_tot (a : List UInt8) (hl : a.length = 29) (hg : G1 (X.bytes a) = true) : ∃ r, Ev (fun k => rform1 k (X.bytes a)) r ∧ Ans a r := by
  have hl' := hl
  obtain ⟨x0, a0, e0⟩ := List.exists_cons_of_ne_nil (show a ≠ [] by intro z; rw [z] at hl; cases hl)
  subst e0
  have h0 : a0.length = 28 := by simpa using hl
  obtain ⟨x1, a1, e1⟩ := List.exists_cons_of_ne_nil (show a0 ≠ [] by intro z; rw [z] at h0; cases h0)
  subst e1
  have h1 : a1.length = 27 := by simpa using h0
  obtain ⟨x2, a2, e2⟩ := List.exists_cons_of_ne_nil (show a1 ≠ [] by intro z; rw [z] at h1; cases h1)
  subst e2
  have h2 : a2.length = 26 := by simpa using h1
  obtain ⟨x3, a3, e3⟩ := List.exists_cons_of_ne_nil (show a2 ≠ [] by intro z; rw [z] at h2; cases h2)
  subst e3
  have h3 : a3.length = 25 := by simpa using h2
  obtain ⟨x4, a4, e4⟩ := List.exists_cons_of_ne_nil (show a3 ≠ [] by intro z; rw [z] at h3; cases h3)
  subst e4
  have h4 : a4.length = 24 := by simpa using h3
  obtain ⟨x5, a5, e5⟩ := List.exists_cons_of_ne_nil (show a4 ≠ [] by intro z; rw [z] at h4; cases h4)
  subst e5
  have h5 : a5.length = 23 := by simpa using h4
  obtain ⟨x6, a6, e6⟩ := List.exists_cons_of_ne_nil (show a5 ≠ [] by intro z; rw [z] at h5; cases h5)
  subst e6
  have h6 : a6.length = 22 := by simpa using h5
  obtain ⟨x7, a7, e7⟩ := List.exists_cons_of_ne_nil (show a6 ≠ [] by intro z; rw [z] at h6; cases h6)
  subst e7
  have h7 : a7.length = 21 := by simpa using h6
  obtain ⟨x8, a8, e8⟩ := List.exists_cons_of_ne_nil (show a7 ≠ [] by intro z; rw [z] at h7; cases h7)
  subst e8
  have h8 : a8.length = 20 := by simpa using h7
  obtain ⟨x9, a9, e9⟩ := List.exists_cons_of_ne_nil (show a8 ≠ [] by intro z; rw [z] at h8; cases h8)
  subst e9
  have h9 : a9.length = 19 := by simpa using h8
  obtain ⟨x10, a10, e10⟩ := List.exists_cons_of_ne_nil (show a9 ≠ [] by intro z; rw [z] at h9; cases h9)
  subst e10
  have h10 : a10.length = 18 := by simpa using h9
  obtain ⟨x11, a11, e11⟩ := List.exists_cons_of_ne_nil (show a10 ≠ [] by intro z; rw [z] at h10; cases h10)
  subst e11
  have h11 : a11.length = 17 := by simpa using h10
  obtain ⟨x12, a12, e12⟩ := List.exists_cons_of_ne_nil (show a11 ≠ [] by intro z; rw [z] at h11; cases h11)
  subst e12
  have h12 : a12.length = 16 := by simpa using h11
  obtain ⟨x13, a13, e13⟩ := List.exists_cons_of_ne_nil (show a12 ≠ [] by intro z; rw [z] at h12; cases h12)
  subst e13
  have h13 : a13.length = 15 := by simpa using h12
  obtain ⟨x14, a14, e14⟩ := List.exists_cons_of_ne_nil (show a13 ≠ [] by intro z; rw [z] at h13; cases h13)
  subst e14
  have h14 : a14.length = 14 := by simpa using h13
  obtain ⟨x15, a15, e15⟩ := List.exists_cons_of_ne_nil (show a14 ≠ [] by intro z; rw [z] at h14; cases h14)
  subst e15
  have h15 : a15.length = 13 := by simpa using h14
  obtain ⟨x16, a16, e16⟩ := List.exists_cons_of_ne_nil (show a15 ≠ [] by intro z; rw [z] at h15; cases h15)
  subst e16
  have h16 : a16.length = 12 := by simpa using h15
  obtain ⟨x17, a17, e17⟩ := List.exists_cons_of_ne_nil (show a16 ≠ [] by intro z; rw [z] at h16; cases h16)
  subst e17
  have h17 : a17.length = 11 := by simpa using h16
  obtain ⟨x18, a18, e18⟩ := List.exists_cons_of_ne_nil (show a17 ≠ [] by intro z; rw [z] at h17; cases h17)
  subst e18
  have h18 : a18.length = 10 := by simpa using h17
  obtain ⟨x19, a19, e19⟩ := List.exists_cons_of_ne_nil (show a18 ≠ [] by intro z; rw [z] at h18; cases h18)
  subst e19
  have h19 : a19.length = 9 := by simpa using h18
  obtain ⟨x20, a20, e20⟩ := List.exists_cons_of_ne_nil (show a19 ≠ [] by intro z; rw [z] at h19; cases h19)
  subst e20
  have h20 : a20.length = 8 := by simpa using h19
  obtain ⟨x21, a21, e21⟩ := List.exists_cons_of_ne_nil (show a20 ≠ [] by intro z; rw [z] at h20; cases h20)
  subst e21
  have h21 : a21.length = 7 := by simpa using h20
  obtain ⟨x22, a22, e22⟩ := List.exists_cons_of_ne_nil (show a21 ≠ [] by intro z; rw [z] at h21; cases h21)
  subst e22
  have h22 : a22.length = 6 := by simpa using h21
  obtain ⟨x23, a23, e23⟩ := List.exists_cons_of_ne_nil (show a22 ≠ [] by intro z; rw [z] at h22; cases h22)
  subst e23
  have h23 : a23.length = 5 := by simpa using h22
  obtain ⟨x24, a24, e24⟩ := List.exists_cons_of_ne_nil (show a23 ≠ [] by intro z; rw [z] at h23; cases h23)
  subst e24
  have h24 : a24.length = 4 := by simpa using h23
  obtain ⟨x25, a25, e25⟩ := List.exists_cons_of_ne_nil (show a24 ≠ [] by intro z; rw [z] at h24; cases h24)
  subst e25
  have h25 : a25.length = 3 := by simpa using h24
  obtain ⟨x26, a26, e26⟩ := List.exists_cons_of_ne_nil (show a25 ≠ [] by intro z; rw [z] at h25; cases h25)
  subst e26
  have h26 : a26.length = 2 := by simpa using h25
  obtain ⟨x27, a27, e27⟩ := List.exists_cons_of_ne_nil (show a26 ≠ [] by intro z; rw [z] at h26; cases h26)
  subst e27
  have h27 : a27.length = 1 := by simpa using h26
  obtain ⟨x28, a28, e28⟩ := List.exists_cons_of_ne_nil (show a27 ≠ [] by intro z; rw [z] at h27; cases h27)
  subst e28
  have h28 : a28.length = 0 := by simpa using h27
  obtain rfl := List.eq_nil_of_length_eq_zero h28
  clear hl h0 h1 h2 h3 h4 h5 h6 h7 h8 h9 h10 h11 h12 h13 h14 h15 h16 h17 h18 h19 h20 h21 h22 h23 h24 h25 h26 h27 h28
  simp only [G1, Bool.and_eq_true, decide_eq_true_eq, beq_iff_eq] at hg
  obtain ⟨-, f3, b7, b11, b16, f25⟩ := hg
  have c7 : x7 = 32 := u8_of (n := 32) ((bt_bytes [x0, x1, x2, x3, x4, x5, x6, x7, x8, x9, x10, x11, x12, x13, x14, x15, x16, x17, x18, x19, x20, x21, x22, x23, x24, x25, x26, x27, x28] 7 (by simp)).symm.trans b7) (by decide)
  have c11 : x11 = 32 := u8_of (n := 32) ((bt_bytes [x0, x1, x2, x3, x4, x5, x6, x7, x8, x9, x10, x11, x12, x13, x14, x15, x16, x17, x18, x19, x20, x21, x22, x23, x24, x25, x26, x27, x28] 11 (by simp)).symm.trans b11) (by decide)
  have c16 : x16 = 32 := u8_of (n := 32) ((bt_bytes [x0, x1, x2, x3, x4, x5, x6, x7, x8, x9, x10, x11, x12, x13, x14, x15, x16, x17, x18, x19, x20, x21, x22, x23, x24, x25, x26, x27, x28] 16 (by simp)).symm.trans b16) (by decide)
  rw [extract_bytes, bytes_toList] at f3
  have f3 : [x3, x4] = [44, 32] := f3
  rw [extract_bytes, bytes_toList] at f25
  have f25 : [x25, x26, x27, x28] = [32, 71, 77, 84] := f25
  simp only [List.cons.injEq, and_true] at f3 f25
  obtain ⟨rfl, rfl⟩ := f3
  obtain ⟨rfl, rfl, rfl, rfl⟩ := f25
  clear b7 b11 b16
  subst c7 c11 c16
  obtain ⟨r, ev, h1, h2⟩ := rparts_tot [x5, x6] [x12, x13, x14, x15] [x0, x1, x2] [x8, x9, x10] [x17, x18, x19, x20, x21, x22, x23, x24] (by simp) (by simp) rfl
  refine ⟨r, Ev.congr (fun k => ?_) ev, ?_, ?_⟩
  · simp only [rform1]
    rw [extract_bytes, extract_bytes, extract_bytes, extract_bytes, extract_bytes]
    rfl
  · rcases h1 with h1 | ⟨h, mi, s, hd, hy, t, hc, hw, hr⟩
    · exact .inl h1
    · refine .inr ⟨_, _, _, h, mi, s, t, .inl (congrArg X.bytes ?_), hr⟩
      obtain ⟨_, _, ed⟩ := D_two (D_eta hd)
      obtain ⟨_, _, ey⟩ := D_four (D_eta hy)
      obtain ⟨ey1, ey2⟩ := four_of ey
      have em := m3_of (l := [x8, x9, x10]) t.ok.m0
      have ew := sd_of hw
      unfold T1
      rw [← ew, ← ed, ← em, ey1, ey2, ← hc]
      rfl
  · intro y mo d h mi s t hs
    have e := says_29 hl' t hs
    clear hs h1
    obtain ⟨p1, p2, p3, es, _⟩ := sd_three _ (wk0 y mo d)
    obtain ⟨m1, m2, m3', em, _⟩ := m3_three mo t.ok.m0 t.ok.m1
    unfold T1 at e
    rw [es, em] at e
    have q1 : [x0, x1, x2] = sd (wk y mo d) := es ▸ congrArg (fun l => l.take 3) e
    have q2 : [x5, x6] = tw d := congrArg (fun l => (l.drop 5).take 2) e
    have q3 : [x8, x9, x10] = m3 mo := em ▸ congrArg (fun l => (l.drop 8).take 3) e
    have q4 : [x12, x13, x14, x15] = tw (y / 100) ++ tw y := congrArg (fun l => (l.drop 12).take 4) e
    have q5 : [x17, x18, x19, x20, x21, x22, x23, x24] = ck h mi s := congrArg (fun l => (l.drop 17).take 8) e
    rw [q1, q2, q3, q4, q5, D_tw d (by have := t.d; omega) (by have := t.d; omega), D_tw4 y (by have := t.ok.y0; omega) t.ok.y1, mIdx_m3 mo t.ok.m0 t.ok.m1, dIdx_sd _ (wk0 y mo d).1 (wk0 y mo d).2] at h2
    exact h2 h mi s rfl rfl t rfl rfl

theorem T3_parts {a : List UInt8} {y mo d h mi s : Int} (t : Tm y mo d h mi s) (e : a = T3 y mo d h mi s (wk y mo d)) :
    a.take 3 = sd (wk y mo d) ∧ (a.drop 4).take 3 = m3 mo ∧ (a.drop 8).take 2 = dl d ∧ (a.drop 11).take 8 = ck h mi s ∧ (a.drop 20).take 4 = tw (y / 100) ++ tw y := by
  obtain ⟨p1, p2, p3, es, _⟩ := sd_three _ (wk0 y mo d)
  obtain ⟨m1, m2, m3', em, _⟩ := m3_three mo t.ok.m0 t.ok.m1
  obtain ⟨u, v, ed, _⟩ := dl_two d (Int.le_trans (by decide) t.d.1)
  subst e
  unfold T3
  rw [es, em, ed]
  exact ⟨rfl, rfl, rfl, rfl, rfl⟩
theorem dg_ne' {n : Int} (h0 : 0 ≤ n) (h9 : n ≤ 9) : dg n ≠ 32 := by
  intro e
  have := dg_nat h0 h9
  rw [e] at this
  have z : ((32 : UInt8).toNat : Int) = 32 := by decide
  omega
theorem dg_0 {n : Int} (h0 : 1 ≤ n) (h9 : n ≤ 9) : dg n ≠ 48 := by
  intro e
  have := dg_nat (show 0 ≤ n by omega) h9
  rw [e] at this
  have z : ((48 : UInt8).toNat : Int) = 48 := by decide
  omega
theorem form2_tot (a : List UInt8) (hl : a.length = 24) (hg : G2 (X.bytes a) = true) : ∃ r, Ev (fun k => rform2 k (X.bytes a)) r ∧ Ans a r := by
  have hl' := hl
  obtain ⟨x0, a0, e0⟩ := List.exists_cons_of_ne_nil (show a ≠ [] by intro z; rw [z] at hl; cases hl)
  subst e0
  have h0 : a0.length = 23 := by simpa using hl
  obtain ⟨x1, a1, e1⟩ := List.exists_cons_of_ne_nil (show a0 ≠ [] by intro z; rw [z] at h0; cases h0)
  subst e1
  have h1 : a1.length = 22 := by simpa using h0
  obtain ⟨x2, a2, e2⟩ := List.exists_cons_of_ne_nil (show a1 ≠ [] by intro z; rw [z] at h1; cases h1)
  subst e2
  have h2 : a2.length = 21 := by simpa using h1
  obtain ⟨x3, a3, e3⟩ := List.exists_cons_of_ne_nil (show a2 ≠ [] by intro z; rw [z] at h2; cases h2)
  subst e3
  have h3 : a3.length = 20 := by simpa using h2
  obtain ⟨x4, a4, e4⟩ := List.exists_cons_of_ne_nil (show a3 ≠ [] by intro z; rw [z] at h3; cases h3)
  subst e4
  have h4 : a4.length = 19 := by simpa using h3
  obtain ⟨x5, a5, e5⟩ := List.exists_cons_of_ne_nil (show a4 ≠ [] by intro z; rw [z] at h4; cases h4)
  subst e5
  have h5 : a5.length = 18 := by simpa using h4
  obtain ⟨x6, a6, e6⟩ := List.exists_cons_of_ne_nil (show a5 ≠ [] by intro z; rw [z] at h5; cases h5)
  subst e6
  have h6 : a6.length = 17 := by simpa using h5
  obtain ⟨x7, a7, e7⟩ := List.exists_cons_of_ne_nil (show a6 ≠ [] by intro z; rw [z] at h6; cases h6)
  subst e7
  have h7 : a7.length = 16 := by simpa using h6
  obtain ⟨x8, a8, e8⟩ := List.exists_cons_of_ne_nil (show a7 ≠ [] by intro z; rw [z] at h7; cases h7)
  subst e8
  have h8 : a8.length = 15 := by simpa using h7
  obtain ⟨x9, a9, e9⟩ := List.exists_cons_of_ne_nil (show a8 ≠ [] by intro z; rw [z] at h8; cases h8)
  subst e9
  have h9 : a9.length = 14 := by simpa using h8
  obtain ⟨x10, a10, e10⟩ := List.exists_cons_of_ne_nil (show a9 ≠ [] by intro z; rw [z] at h9; cases h9)
  subst e10
  have h10 : a10.length = 13 := by simpa using h9
  obtain ⟨x11, a11, e11⟩ := List.exists_cons_of_ne_nil (show a10 ≠ [] by intro z; rw [z] at h10; cases h10)
  subst e11
  have h11 : a11.length = 12 := by simpa using h10
  obtain ⟨x12, a12, e12⟩ := List.exists_cons_of_ne_nil (show a11 ≠ [] by intro z; rw [z] at h11; cases h11)
  subst e12
  have h12 : a12.length = 11 := by simpa using h11
  obtain ⟨x13, a13, e13⟩ := List.exists_cons_of_ne_nil (show a12 ≠ [] by intro z; rw [z] at h12; cases h12)
  subst e13
  have h13 : a13.length = 10 := by simpa using h12
  obtain ⟨x14, a14, e14⟩ := List.exists_cons_of_ne_nil (show a13 ≠ [] by intro z; rw [z] at h13; cases h13)
  subst e14
  have h14 : a14.length = 9 := by simpa using h13
  obtain ⟨x15, a15, e15⟩ := List.exists_cons_of_ne_nil (show a14 ≠ [] by intro z; rw [z] at h14; cases h14)
  subst e15
  have h15 : a15.length = 8 := by simpa using h14
  obtain ⟨x16, a16, e16⟩ := List.exists_cons_of_ne_nil (show a15 ≠ [] by intro z; rw [z] at h15; cases h15)
  subst e16
  have h16 : a16.length = 7 := by simpa using h15
  obtain ⟨x17, a17, e17⟩ := List.exists_cons_of_ne_nil (show a16 ≠ [] by intro z; rw [z] at h16; cases h16)
  subst e17
  have h17 : a17.length = 6 := by simpa using h16
  obtain ⟨x18, a18, e18⟩ := List.exists_cons_of_ne_nil (show a17 ≠ [] by intro z; rw [z] at h17; cases h17)
  subst e18
  have h18 : a18.length = 5 := by simpa using h17
  obtain ⟨x19, a19, e19⟩ := List.exists_cons_of_ne_nil (show a18 ≠ [] by intro z; rw [z] at h18; cases h18)
  subst e19
  have h19 : a19.length = 4 := by simpa using h18
  obtain ⟨x20, a20, e20⟩ := List.exists_cons_of_ne_nil (show a19 ≠ [] by intro z; rw [z] at h19; cases h19)
  subst e20
  have h20 : a20.length = 3 := by simpa using h19
  obtain ⟨x21, a21, e21⟩ := List.exists_cons_of_ne_nil (show a20 ≠ [] by intro z; rw [z] at h20; cases h20)
  subst e21
  have h21 : a21.length = 2 := by simpa using h20
  obtain ⟨x22, a22, e22⟩ := List.exists_cons_of_ne_nil (show a21 ≠ [] by intro z; rw [z] at h21; cases h21)
  subst e22
  have h22 : a22.length = 1 := by simpa using h21
  obtain ⟨x23, a23, e23⟩ := List.exists_cons_of_ne_nil (show a22 ≠ [] by intro z; rw [z] at h22; cases h22)
  subst e23
  have h23 : a23.length = 0 := by simpa using h22
  obtain rfl := List.eq_nil_of_length_eq_zero h23
  clear hl h0 h1 h2 h3 h4 h5 h6 h7 h8 h9 h10 h11 h12 h13 h14 h15 h16 h17 h18 h19 h20 h21 h22 h23
  simp only [G2, Bool.and_eq_true, decide_eq_true_eq, beq_iff_eq] at hg
  obtain ⟨-, b3, b7, b10, b19⟩ := hg
  have c3 : x3 = 32 := u8_of (n := 32) ((bt_bytes [x0, x1, x2, x3, x4, x5, x6, x7, x8, x9, x10, x11, x12, x13, x14, x15, x16, x17, x18, x19, x20, x21, x22, x23] 3 (by simp)).symm.trans b3) (by decide)
  have c7 : x7 = 32 := u8_of (n := 32) ((bt_bytes [x0, x1, x2, x3, x4, x5, x6, x7, x8, x9, x10, x11, x12, x13, x14, x15, x16, x17, x18, x19, x20, x21, x22, x23] 7 (by simp)).symm.trans b7) (by decide)
  have c10 : x10 = 32 := u8_of (n := 32) ((bt_bytes [x0, x1, x2, x3, x4, x5, x6, x7, x8, x9, x10, x11, x12, x13, x14, x15, x16, x17, x18, x19, x20, x21, x22, x23] 10 (by simp)).symm.trans b10) (by decide)
  have c19 : x19 = 32 := u8_of (n := 32) ((bt_bytes [x0, x1, x2, x3, x4, x5, x6, x7, x8, x9, x10, x11, x12, x13, x14, x15, x16, x17, x18, x19, x20, x21, x22, x23] 19 (by simp)).symm.trans b19) (by decide)
  clear b3 b7 b10 b19
  subst c3 c7 c10 c19
  have e8 : (X.bytes [x0, x1, x2, 32, x4, x5, x6, 32, x8, x9, 32, x11, x12, x13, x14, x15, x16, x17, x18, 32, x20, x21, x22, x23]).extract 8 10 = X.bytes [x8, x9] := by rw [extract_bytes]; rfl
  have e20 : (X.bytes [x0, x1, x2, 32, x4, x5, x6, 32, x8, x9, 32, x11, x12, x13, x14, x15, x16, x17, x18, 32, x20, x21, x22, x23]).extract 20 (X.bytes [x0, x1, x2, 32, x4, x5, x6, 32, x8, x9, 32, x11, x12, x13, x14, x15, x16, x17, x18, 32, x20, x21, x22, x23]).size = X.bytes [x20, x21, x22, x23] := by rw [extract_bytes]; rfl
  have e0 : (X.bytes [x0, x1, x2, 32, x4, x5, x6, 32, x8, x9, 32, x11, x12, x13, x14, x15, x16, x17, x18, 32, x20, x21, x22, x23]).extract 0 3 = X.bytes [x0, x1, x2] := by rw [extract_bytes]; rfl
  have e4 : (X.bytes [x0, x1, x2, 32, x4, x5, x6, 32, x8, x9, 32, x11, x12, x13, x14, x15, x16, x17, x18, 32, x20, x21, x22, x23]).extract 4 7 = X.bytes [x4, x5, x6] := by rw [extract_bytes]; rfl
  have e11 : (X.bytes [x0, x1, x2, 32, x4, x5, x6, 32, x8, x9, 32, x11, x12, x13, x14, x15, x16, x17, x18, 32, x20, x21, x22, x23]).extract 11 19 = X.bytes [x11, x12, x13, x14, x15, x16, x17, x18] := by rw [extract_bytes]; rfl
  have e1 : (X.bytes [x8, x9]).extract 1 2 = X.bytes [x9] := by rw [extract_bytes]; rfl
  have eb : bt (X.bytes [x8, x9]) 0 = (x8.toNat : Int) := bt_bytes [x8, x9] 0 (by simp)
  simp only [rform2, e8, e20, e0, e4, e11, e1, eb]
  clear e8 e20 e0 e4 e11 e1 eb
  by_cases c1 : (x8.toNat : Int) = 32
  · have c : x8 = 32 := u8_of (n := 32) c1 (by decide)
    subst c
    simp only [c1, if_true]
    obtain ⟨r, ev, h1, h2⟩ := rparts_tot [x9] [x20, x21, x22, x23] [x0, x1, x2] [x4, x5, x6] [x11, x12, x13, x14, x15, x16, x17, x18] (by simp) (by simp) rfl
    refine ⟨r, ev, ?_, ?_⟩
    · rcases h1 with h1 | ⟨h, mi, s, hd, hy, t, hc, hw, hr⟩
      · exact .inl h1
      · refine .inr ⟨_, _, _, h, mi, s, t, .inr (.inr (congrArg X.bytes ?_)), hr⟩
        obtain ⟨_, d9, ed⟩ := D_one (D_eta hd)
        obtain ⟨_, _, ey⟩ := D_four (D_eta hy)
        obtain ⟨ey1, ey2⟩ := four_of ey
        have em := m3_of (l := [x4, x5, x6]) t.ok.m0
        have ew := sd_of hw
        have edl : dl (D [x9]).1 = [32, x9] := by rw [dl, if_pos (by omega), ← ed]
        unfold T3
        rw [← ew, ← em, edl, ← hc, ey1, ey2]
        rfl
    · intro y mo d h mi s t hs
      obtain ⟨q1, q3, q2, q5, q4⟩ := T3_parts t (says_24 hl' t hs)
      clear hs h1
      change [x0, x1, x2] = _ at q1
      change [x4, x5, x6] = _ at q3
      change [32, x9] = _ at q2
      change [x11, x12, x13, x14, x15, x16, x17, x18] = _ at q5
      change [x20, x21, x22, x23] = _ at q4
      have hd := t.d
      have q2' : [x9] = [dg d] ∧ d ≤ 9 := by
        by_cases z : d < 10
        · rw [dl, if_pos z] at q2
          exact ⟨(List.cons.inj q2).2, by omega⟩
        · rw [dl, if_neg z] at q2
          exact absurd (List.cons.inj q2).1.symm (dg_ne' (by omega) (by omega))
      rw [q1, q2'.1, q3, q4, q5, D_dg d (by omega) q2'.2, D_tw4 y (by have := t.ok.y0; omega) t.ok.y1, mIdx_m3 mo t.ok.m0 t.ok.m1, dIdx_sd _ (wk0 y mo d).1 (wk0 y mo d).2] at h2
      exact h2 h mi s rfl rfl t rfl rfl
  · simp only [c1, if_false]
    have c1' : x8 ≠ 32 := fun z => c1 (by rw [z]; decide)
    by_cases c2 : (x8.toNat : Int) = 48
    · have c : x8 = 48 := u8_of (n := 48) c2 (by decide)
      simp only [c2, if_true]
      refine ⟨(0, 80), ⟨0, fun k _ => rfl⟩, .inl rfl, fun y mo d h mi s t hs => ?_⟩
      obtain ⟨q1, q3, q2, q5, q4⟩ := T3_parts t (says_24 hl' t hs)
      change [x8, x9] = _ at q2
      have hd := t.d
      by_cases z : d < 10
      · rw [dl, if_pos z] at q2
        exact absurd (List.cons.inj q2).1 c1'
      · rw [dl, if_neg z] at q2
        have := (List.cons.inj q2).1
        rw [c] at this
        exact absurd this.symm (dg_0 (by omega) (by omega))
    · simp only [c2, if_false]
      have c2' : x8 ≠ 48 := fun z => c2 (by rw [z]; decide)
      obtain ⟨r, ev, h1, h2⟩ := rparts_tot [x8, x9] [x20, x21, x22, x23] [x0, x1, x2] [x4, x5, x6] [x11, x12, x13, x14, x15, x16, x17, x18] (by simp) (by simp) rfl
      refine ⟨r, ev, ?_, ?_⟩
      · rcases h1 with h1 | ⟨h, mi, s, hd, hy, t, hc, hw, hr⟩
        · exact .inl h1
        · refine .inr ⟨_, _, _, h, mi, s, t, .inr (.inr (congrArg X.bytes ?_)), hr⟩
          obtain ⟨d0, d9, ed⟩ := D_two (D_eta hd)
          obtain ⟨_, _, ey⟩ := D_four (D_eta hy)
          obtain ⟨ey1, ey2⟩ := four_of ey
          have em := m3_of (l := [x4, x5, x6]) t.ok.m0
          have ew := sd_of hw
          have edl : dl (D [x8, x9]).1 = [x8, x9] := by
            rw [dl, if_neg, ← ed]
            intro z
            have z1 := (List.cons.inj ed).1
            rw [show (D [x8, x9]).1 / 10 % 10 = 0 by omega] at z1
            exact c2' (z1.trans (by decide))
          unfold T3
          rw [← ew, ← em, edl, ← hc, ey1, ey2]
          rfl
      · intro y mo d h mi s t hs
        obtain ⟨q1, q3, q2, q5, q4⟩ := T3_parts t (says_24 hl' t hs)
        clear hs h1
        change [x0, x1, x2] = _ at q1
        change [x4, x5, x6] = _ at q3
        change [x8, x9] = _ at q2
        change [x11, x12, x13, x14, x15, x16, x17, x18] = _ at q5
        change [x20, x21, x22, x23] = _ at q4
        have hd := t.d
        have q2' : [x8, x9] = tw d := by
          by_cases z : d < 10
          · rw [dl, if_pos z] at q2
            exact absurd (List.cons.inj q2).1 c1'
          · rw [dl, if_neg z] at q2
            exact q2
        rw [q1, q2', q3, q4, q5, D_tw d (by omega) (by omega), D_tw4 y (by have := t.ok.y0; omega) t.ok.y1, mIdx_m3 mo t.ok.m0 t.ok.m1, dIdx_sd _ (wk0 y mo d).1 (wk0 y mo d).2] at h2
        exact h2 h mi s rfl rfl t rfl rfl

def YR (n : Int) : Int := if n ≥ 70 then wrap64 (n + 1900) else wrap64 (n + 2000)
theorem YR_eq {n : Int} (h0 : 0 ≤ n) (h9 : n ≤ 99) : 1970 ≤ YR n ∧ YR n < 2070 ∧ YR n % 100 = n := by
  unfold YR
  split
  · rw [w64 (x := n + 1900) (by omega) (by omega)]; omega
  · rw [w64 (x := n + 2000) (by omega) (by omega)]; omega
theorem YR_mod {y : Int} (h0 : 1970 ≤ y) (h1 : y < 2070) : YR (y % 100) = y := by
  unfold YR
  split
  · rw [w64 (x := y % 100 + 1900) (by omega) (by omega)]; omega
  · rw [w64 (x := y % 100 + 2000) (by omega) (by omega)]; omega
theorem form3_tot (i : Int) (a : List UInt8) (hl : a.length = 22) : ∃ r, Ev (fun k => rform3 k i (X.bytes a)) r ∧
    (r = (0, 80) ∨ ∃ y mo d h mi s, Tm y mo d h mi s ∧ a = U2 y mo d h mi s ∧ y < 2070 ∧ i = wk y mo d ∧ r = (sec y mo d h mi s, 0)) ∧
    (∀ y mo d h mi s, Tm y mo d h mi s → a = U2 y mo d h mi s → y < 2070 → i = wk y mo d → r = (sec y mo d h mi s, 0)) := by
  have hl' := hl
  obtain ⟨x0, a0, e0⟩ := List.exists_cons_of_ne_nil (show a ≠ [] by intro z; rw [z] at hl; cases hl)
  subst e0
  have h0 : a0.length = 21 := by simpa using hl
  obtain ⟨x1, a1, e1⟩ := List.exists_cons_of_ne_nil (show a0 ≠ [] by intro z; rw [z] at h0; cases h0)
  subst e1
  have h1 : a1.length = 20 := by simpa using h0
  obtain ⟨x2, a2, e2⟩ := List.exists_cons_of_ne_nil (show a1 ≠ [] by intro z; rw [z] at h1; cases h1)
  subst e2
  have h2 : a2.length = 19 := by simpa using h1
  obtain ⟨x3, a3, e3⟩ := List.exists_cons_of_ne_nil (show a2 ≠ [] by intro z; rw [z] at h2; cases h2)
  subst e3
  have h3 : a3.length = 18 := by simpa using h2
  obtain ⟨x4, a4, e4⟩ := List.exists_cons_of_ne_nil (show a3 ≠ [] by intro z; rw [z] at h3; cases h3)
  subst e4
  have h4 : a4.length = 17 := by simpa using h3
  obtain ⟨x5, a5, e5⟩ := List.exists_cons_of_ne_nil (show a4 ≠ [] by intro z; rw [z] at h4; cases h4)
  subst e5
  have h5 : a5.length = 16 := by simpa using h4
  obtain ⟨x6, a6, e6⟩ := List.exists_cons_of_ne_nil (show a5 ≠ [] by intro z; rw [z] at h5; cases h5)
  subst e6
  have h6 : a6.length = 15 := by simpa using h5
  obtain ⟨x7, a7, e7⟩ := List.exists_cons_of_ne_nil (show a6 ≠ [] by intro z; rw [z] at h6; cases h6)
  subst e7
  have h7 : a7.length = 14 := by simpa using h6
  obtain ⟨x8, a8, e8⟩ := List.exists_cons_of_ne_nil (show a7 ≠ [] by intro z; rw [z] at h7; cases h7)
  subst e8
  have h8 : a8.length = 13 := by simpa using h7
  obtain ⟨x9, a9, e9⟩ := List.exists_cons_of_ne_nil (show a8 ≠ [] by intro z; rw [z] at h8; cases h8)
  subst e9
  have h9 : a9.length = 12 := by simpa using h8
  obtain ⟨x10, a10, e10⟩ := List.exists_cons_of_ne_nil (show a9 ≠ [] by intro z; rw [z] at h9; cases h9)
  subst e10
  have h10 : a10.length = 11 := by simpa using h9
  obtain ⟨x11, a11, e11⟩ := List.exists_cons_of_ne_nil (show a10 ≠ [] by intro z; rw [z] at h10; cases h10)
  subst e11
  have h11 : a11.length = 10 := by simpa using h10
  obtain ⟨x12, a12, e12⟩ := List.exists_cons_of_ne_nil (show a11 ≠ [] by intro z; rw [z] at h11; cases h11)
  subst e12
  have h12 : a12.length = 9 := by simpa using h11
  obtain ⟨x13, a13, e13⟩ := List.exists_cons_of_ne_nil (show a12 ≠ [] by intro z; rw [z] at h12; cases h12)
  subst e13
  have h13 : a13.length = 8 := by simpa using h12
  obtain ⟨x14, a14, e14⟩ := List.exists_cons_of_ne_nil (show a13 ≠ [] by intro z; rw [z] at h13; cases h13)
  subst e14
  have h14 : a14.length = 7 := by simpa using h13
  obtain ⟨x15, a15, e15⟩ := List.exists_cons_of_ne_nil (show a14 ≠ [] by intro z; rw [z] at h14; cases h14)
  subst e15
  have h15 : a15.length = 6 := by simpa using h14
  obtain ⟨x16, a16, e16⟩ := List.exists_cons_of_ne_nil (show a15 ≠ [] by intro z; rw [z] at h15; cases h15)
  subst e16
  have h16 : a16.length = 5 := by simpa using h15
  obtain ⟨x17, a17, e17⟩ := List.exists_cons_of_ne_nil (show a16 ≠ [] by intro z; rw [z] at h16; cases h16)
  subst e17
  have h17 : a17.length = 4 := by simpa using h16
  obtain ⟨x18, a18, e18⟩ := List.exists_cons_of_ne_nil (show a17 ≠ [] by intro z; rw [z] at h17; cases h17)
  subst e18
  have h18 : a18.length = 3 := by simpa using h17
  obtain ⟨x19, a19, e19⟩ := List.exists_cons_of_ne_nil (show a18 ≠ [] by intro z; rw [z] at h18; cases h18)
  subst e19
  have h19 : a19.length = 2 := by simpa using h18
  obtain ⟨x20, a20, e20⟩ := List.exists_cons_of_ne_nil (show a19 ≠ [] by intro z; rw [z] at h19; cases h19)
  subst e20
  have h20 : a20.length = 1 := by simpa using h19
  obtain ⟨x21, a21, e21⟩ := List.exists_cons_of_ne_nil (show a20 ≠ [] by intro z; rw [z] at h20; cases h20)
  subst e21
  have h21 : a21.length = 0 := by simpa using h20
  obtain rfl := List.eq_nil_of_length_eq_zero h21
  clear hl h0 h1 h2 h3 h4 h5 h6 h7 h8 h9 h10 h11 h12 h13 h14 h15 h16 h17 h18 h19 h20 h21
  have e0 : (X.bytes [x0, x1, x2, x3, x4, x5, x6, x7, x8, x9, x10, x11, x12, x13, x14, x15, x16, x17, x18, x19, x20, x21]).extract 0 2 = X.bytes [x0, x1] := by rw [extract_bytes]; rfl
  have e7 : (X.bytes [x0, x1, x2, x3, x4, x5, x6, x7, x8, x9, x10, x11, x12, x13, x14, x15, x16, x17, x18, x19, x20, x21]).extract 7 9 = X.bytes [x7, x8] := by rw [extract_bytes]; rfl
  have e3 : (X.bytes [x0, x1, x2, x3, x4, x5, x6, x7, x8, x9, x10, x11, x12, x13, x14, x15, x16, x17, x18, x19, x20, x21]).extract 3 6 = X.bytes [x3, x4, x5] := by rw [extract_bytes]; rfl
  have e10 : (X.bytes [x0, x1, x2, x3, x4, x5, x6, x7, x8, x9, x10, x11, x12, x13, x14, x15, x16, x17, x18, x19, x20, x21]).extract 10 18 = X.bytes [x10, x11, x12, x13, x14, x15, x16, x17] := by rw [extract_bytes]; rfl
  have e18 : ((X.bytes [x0, x1, x2, x3, x4, x5, x6, x7, x8, x9, x10, x11, x12, x13, x14, x15, x16, x17, x18, x19, x20, x21]).extract 18 22).toList = [x18, x19, x20, x21] := by rw [extract_bytes, bytes_toList]; rfl
  have b2 : bt (X.bytes [x0, x1, x2, x3, x4, x5, x6, x7, x8, x9, x10, x11, x12, x13, x14, x15, x16, x17, x18, x19, x20, x21]) 2 = (x2.toNat : Int) := bt_bytes [x0, x1, x2, x3, x4, x5, x6, x7, x8, x9, x10, x11, x12, x13, x14, x15, x16, x17, x18, x19, x20, x21] 2 (by simp)
  have b6 : bt (X.bytes [x0, x1, x2, x3, x4, x5, x6, x7, x8, x9, x10, x11, x12, x13, x14, x15, x16, x17, x18, x19, x20, x21]) 6 = (x6.toNat : Int) := bt_bytes [x0, x1, x2, x3, x4, x5, x6, x7, x8, x9, x10, x11, x12, x13, x14, x15, x16, x17, x18, x19, x20, x21] 6 (by simp)
  have b9 : bt (X.bytes [x0, x1, x2, x3, x4, x5, x6, x7, x8, x9, x10, x11, x12, x13, x14, x15, x16, x17, x18, x19, x20, x21]) 9 = (x9.toNat : Int) := bt_bytes [x0, x1, x2, x3, x4, x5, x6, x7, x8, x9, x10, x11, x12, x13, x14, x15, x16, x17, x18, x19, x20, x21] 9 (by simp)
  simp only [rform3, e0, e7, e3, e10, e18, b2, b6, b9, rmonths_f, Option.bind_some]
  clear e0 e7 e3 e10 e18 b2 b6 b9
  obtain ⟨k1, ev1⟩ := digits_ev [x0, x1] (by simp)
  obtain ⟨k2, ev2⟩ := digits_ev [x7, x8] (by simp)
  obtain ⟨k3, ev3⟩ := months_ev [x3, x4, x5]
  have hU : ∀ {y mo d h mi s : Int}, Tm y mo d h mi s → [x0, x1, x2, x3, x4, x5, x6, x7, x8, x9, x10, x11, x12, x13, x14, x15, x16, x17, x18, x19, x20, x21] = U2 y mo d h mi s → [x0, x1] = tw d ∧ x2 = 45 ∧ [x3, x4, x5] = m3 mo ∧ x6 = 45 ∧ [x7, x8] = tw y ∧ x9 = 32 ∧ [x10, x11, x12, x13, x14, x15, x16, x17] = ck h mi s ∧ [x18, x19, x20, x21] = [32, 71, 77, 84] := by
    intro y mo d h mi s t e
    obtain ⟨m1, m2, m3', em, _⟩ := m3_three mo t.ok.m0 t.ok.m1
    unfold U2 at e
    rw [em] at e
    exact ⟨congrArg (fun l => l.take 2) e, Option.some.inj (congrArg (fun l => l[2]?) e), em ▸ congrArg (fun l => (l.drop 3).take 3) e, Option.some.inj (congrArg (fun l => l[6]?) e), congrArg (fun l => (l.drop 7).take 2) e, Option.some.inj (congrArg (fun l => l[9]?) e), congrArg (fun l => (l.drop 10).take 8) e, congrArg (fun l => l.drop 18) e⟩
  by_cases hb : (D [x0, x1]).2 = true ∧ (D [x7, x8]).2 = true ∧ (x2.toNat : Int) = 45 ∧ (x6.toNat : Int) = 45 ∧ (x9.toNat : Int) = 32 ∧ [x18, x19, x20, x21] = [32, 71, 77, 84]
  · obtain ⟨r, ⟨k4, ev4⟩, h1, h2⟩ := made_tot i (YR (D [x7, x8]).1) (mIdx [x3, x4, x5]) (D [x0, x1]).1 [x10, x11, x12, x13, x14, x15, x16, x17] rfl (by rcases mIdx_cases [x3, x4, x5] with h | h <;> omega) (by rcases mIdx_cases [x3, x4, x5] with h | h <;> omega)
    obtain ⟨d0, d1, ed⟩ := D_two (D_eta hb.1)
    obtain ⟨y0, y1, ey⟩ := D_two (D_eta hb.2.1)
    obtain ⟨Y0, Y1, Y2⟩ := YR_eq y0 y1
    refine ⟨r, ⟨k1 + k2 + k3 + k4, fun k hk => ?_⟩, ?_, ?_⟩
    · have q1 := ev1 k (by omega)
      have q2 := ev2 k (by omega)
      have q3 := ev3 k (by omega)
      have q4 := ev4 k (by omega)
      simp only at q1 q2 q3 q4
      simp only [q1, q2, Option.bind_some]
      rw [if_pos hb, q3]
      exact q4
    · rcases h1 with h1 | ⟨h, mi, s, t, hc, hw, hr⟩
      · exact .inl h1
      · refine .inr ⟨_, _, _, h, mi, s, t, ?_, Y1, hw, hr⟩
        have em := m3_of (l := [x3, x4, x5]) t.ok.m0
        have eY : tw (YR (D [x7, x8]).1) = [x7, x8] := by rw [← tw_mod, Y2, ← ey]
        have c2 : x2 = 45 := u8_of (n := 45) hb.2.2.1 (by decide)
        have c6 : x6 = 45 := u8_of (n := 45) hb.2.2.2.1 (by decide)
        have c9 : x9 = 32 := u8_of (n := 32) hb.2.2.2.2.1 (by decide)
        have c18 := hb.2.2.2.2.2
        simp only [List.cons.injEq, and_true] at c18
        obtain ⟨rfl, rfl, rfl, rfl⟩ := c18
        unfold U2
        rw [← ed, ← em, eY, ← hc, c2, c6, c9]
        rfl
    · intro y mo d h mi s t e hy hw
      obtain ⟨q1, _, q3, _, q4, _, q5, _⟩ := hU t e
      have hd := t.d
      rw [q1, q3, q4, q5, D_tw d (by omega) (by omega), ← tw_mod y, D_tw (y % 100) (by omega) (by omega), mIdx_m3 mo t.ok.m0 t.ok.m1] at h2
      have h2 := h2 h mi s
      rw [show YR (y % 100, true).1 = y from YR_mod t.ok.y0 hy] at h2
      exact h2 t rfl hw
  · refine ⟨(0, 80), ⟨k1 + k2, fun k hk => ?_⟩, .inl rfl, fun y mo d h mi s t e hy hw => ?_⟩
    · have q1 := ev1 k (by omega)
      have q2 := ev2 k (by omega)
      simp only at q1 q2
      simp only [q1, q2, Option.bind_some]
      rw [if_neg hb]
    · obtain ⟨q1, q2, q3, q6, q4, q9, q5, q18⟩ := hU t e
      have hd := t.d
      refine absurd ⟨?_, ?_, ?_, ?_, ?_, q18⟩ hb
      · rw [q1, D_tw d (by omega) (by omega)]
      · rw [q4, ← tw_mod y, D_tw (y % 100) (by omega) (by omega)]
      · rw [q2]; decide
      · rw [q6]; decide
      · rw [q9]; decide

def rlongs : List ByteArray := [X.bytes (ld 0), X.bytes (ld 1), X.bytes (ld 2), X.bytes (ld 3), X.bytes (ld 4), X.bytes (ld 5), X.bytes (ld 6)]
theorem rlongs_f : ambryref9_longs.f = some rlongs := rfl
theorem ld_inj {i j : Int} (hi : 0 ≤ i ∧ i < 7) (hj : 0 ≤ j ∧ j < 7) (h : ld i = ld j) : i = j := by
  obtain ⟨i0, i1⟩ := hi
  obtain ⟨j0, j1⟩ := hj
  have hs : sd i = sd j := by unfold sd; rw [h]
  rw [← dIdx_sd i i0 i1, ← dIdx_sd j j0 j1, hs]
/-- Two days' names that a text begins with, each before a comma, are one. -/
theorem ld_one {i j : Int} (hi : 0 ≤ i ∧ i < 7) (hj : 0 ≤ j ∧ j < 7) {p q : List UInt8} (h : ld i ++ 44 :: p = ld j ++ 44 :: q) : i = j := by
  have e1 := idx_hit (ld i) p (ld_ok i hi).2.2
  have e2 := idx_hit (ld j) q (ld_ok j hj).2.2
  rw [h, e2] at e1
  have e : (ld j).length = (ld i).length := by omega
  exact ld_inj hi hj (List.append_inj_left h e.symm)
theorem lcond_iff (a : List UInt8) (i : Int) (hi : 0 ≤ i ∧ i < 7) : lcond (X.bytes a) (X.bytes (ld i)) = true ↔ ∃ u, u.length = 22 ∧ a = ld i ++ ([44, 32] ++ u) := by
  simp only [lcond, Bool.and_eq_true, decide_eq_true_eq, beq_iff_eq, bytes_size, extract_bytes, bytes_toList, Nat.sub_zero, List.drop_zero]
  constructor
  · rintro ⟨hs, h1, h2⟩
    have hs' : a.length = (ld i).length + 24 := of_decide_eq_true hs
    refine ⟨a.drop ((ld i).length + 2), by rw [List.length_drop]; omega, ?_⟩
    rw [show (ld i).length + 2 - (ld i).length = 2 by omega] at h2
    conv => lhs; rw [← List.take_append_drop (ld i).length a, h1]
    congr 1
    rw [← h2, ← List.drop_drop, List.take_append_drop]
  · rintro ⟨u, hu, rfl⟩
    refine ⟨by simp [hu], by simp, ?_⟩
    rw [List.drop_left, show (ld i).length + 2 - (ld i).length = 2 by omega]
    rfl
theorem rloop_tot (a : List UInt8) (n : Nat) : ∀ (i : Nat), i + n = 7 → ∃ r, Ev (fun k => rloop k (X.bytes a) i (rlongs.drop i)) r ∧
    (r = (0, 80) ∨ ∃ y mo d h mi s, Tm y mo d h mi s ∧ a = T2 y mo d h mi s (wk y mo d) ∧ y < 2070 ∧ r = (sec y mo d h mi s, 0)) ∧
    (∀ y mo d h mi s, Tm y mo d h mi s → a = T2 y mo d h mi s (wk y mo d) → y < 2070 → (i : Int) ≤ wk y mo d → r = (sec y mo d h mi s, 0)) := by
  induction n with
  | zero =>
    intro i hi
    obtain rfl : i = 7 := by omega
    exact ⟨(0, 80), ⟨0, fun k _ => rfl⟩, .inl rfl, fun y mo d h mi s t e hy hw => by have := wk0 y mo d; omega⟩
  | succ n ih =>
    intro i hi
    obtain ⟨r', ev, h1, h2⟩ := ih (i + 1) (by omega)
    have hd : rlongs.drop i = X.bytes (ld i) :: rlongs.drop (i + 1) := by
      have : i = 0 ∨ i = 1 ∨ i = 2 ∨ i = 3 ∨ i = 4 ∨ i = 5 ∨ i = 6 := by omega
      rcases this with rfl | rfl | rfl | rfl | rfl | rfl | rfl <;> rfl
    rw [hd]
    have hi7 : 0 ≤ (i : Int) ∧ (i : Int) < 7 := by omega
    by_cases hc : lcond (X.bytes a) (X.bytes (ld i)) = true
    · obtain ⟨u, hu, ea⟩ := (lcond_iff a i hi7).1 hc
      obtain ⟨r, ev, g1, g2⟩ := form3_tot i u hu
      refine ⟨r, Ev.congr (fun k => ?_) ev, ?_, ?_⟩
      · simp only [rloop]
        rw [if_pos hc, extract_bytes, bytes_size, ea]
        congr 2
        rw [← List.append_assoc, show (ld (i : Int)).length + 2 = (ld (i : Int) ++ [44, 32]).length by simp, List.drop_left]
        refine List.take_of_length_le ?_
        rw [hu, List.length_append]
        simp only [List.length_cons, List.length_nil]
        omega
      · rcases g1 with g1 | ⟨y, mo, d, h, mi, s, t, eu, hy, hw, hr⟩
        · exact .inl g1
        · refine .inr ⟨y, mo, d, h, mi, s, t, ?_, hy, hr⟩
          rw [T2_U2, ← hw, ← eu, ea]
      · intro y mo d h mi s t e hy hw
        rw [T2_U2] at e
        have ew : (i : Int) = wk y mo d := ld_one hi7 (wk0 y mo d) (ea.symm.trans e)
        refine g2 y mo d h mi s t ?_ hy ew
        have e' := ea.symm.trans e
        rw [ew] at e'
        exact List.append_cancel_left (List.append_cancel_left e')
    · refine ⟨r', Ev.congr (fun k => ?_) ev, h1, ?_⟩
      · simp only [rloop]
        rw [if_neg hc]
        rfl
      · intro y mo d h mi s t e hy hw
        refine h2 y mo d h mi s t e hy ?_
        have : (i : Int) ≠ wk y mo d := fun z => hc ((lcond_iff a i hi7).2 ⟨U2 y mo d h mi s, U2_len t, by rw [z, ← T2_U2]; exact e⟩)
        omega
theorem G1_T1 {y mo d h mi s : Int} (t : Tm y mo d h mi s) : G1 (X.bytes (T1 y mo d h mi s (wk y mo d))) = true := by
  obtain ⟨p1, p2, p3, es, _⟩ := sd_three _ (wk0 y mo d)
  obtain ⟨m1, m2, m3', em, _⟩ := m3_three mo t.ok.m0 t.ok.m1
  unfold T1
  rw [es, em]
  simp only [G1, extract_bytes, bytes_toList, bytes_size]
  rfl
theorem G2_T3 {y mo d h mi s : Int} (t : Tm y mo d h mi s) : G2 (X.bytes (T3 y mo d h mi s (wk y mo d))) = true := by
  obtain ⟨p1, p2, p3, es, _⟩ := sd_three _ (wk0 y mo d)
  obtain ⟨m1, m2, m3', em, _⟩ := m3_three mo t.ok.m0 t.ok.m1
  obtain ⟨u, v, ed, _⟩ := dl_two d (Int.le_trans (by decide) t.d.1)
  unfold T3
  rw [es, em, ed]
  simp only [G2, extract_bytes, bytes_toList, bytes_size]
  rfl
/-- The document's reader answers any text as the three texts say. -/
theorem rparse_tot (a : List UInt8) : ∃ r, Ev (fun k => ambryref9_Parse.f k (X.bytes a)) r ∧ Ans a r := by
  by_cases g1 : G1 (X.bytes a) = true
  · have hl : a.length = 29 := by
      simp only [G1, Bool.and_eq_true, decide_eq_true_eq] at g1
      exact g1.1
    obtain ⟨r, ev, h⟩ := form1_tot a hl g1
    exact ⟨r, Ev.congr (fun k => by simp only [ambryref9_Parse.f]; rw [if_pos g1]) ev, h⟩
  · by_cases g2 : G2 (X.bytes a) = true
    · have hl : a.length = 24 := by
        simp only [G2, Bool.and_eq_true, decide_eq_true_eq] at g2
        exact g2.1
      obtain ⟨r, ev, h⟩ := form2_tot a hl g2
      exact ⟨r, Ev.congr (fun k => by simp only [ambryref9_Parse.f]; rw [if_neg g1, if_pos g2]) ev, h⟩
    · obtain ⟨r, ev, h1, h2⟩ := rloop_tot a 7 0 rfl
      refine ⟨r, Ev.congr (fun k => ?_) ev, ?_, ?_⟩
      · simp only [ambryref9_Parse.f]
        rw [if_neg g1, if_neg g2, rlongs_f]
        rfl
      · rcases h1 with h1 | ⟨y, mo, d, h, mi, s, t, e, hy, hr⟩
        · exact .inl h1
        · exact .inr ⟨y, mo, d, h, mi, s, t, .inr (.inl ⟨congrArg X.bytes e, hy⟩), hr⟩
      · intro y mo d h mi s t hs
        rcases hs with e | ⟨e, hy⟩ | e
        · exact absurd (by rw [e]; exact G1_T1 t) g1
        · exact h2 y mo d h mi s t (bytes_inj e) hy (wk0 y mo d).1
        · exact absurd (by rw [e]; exact G2_T3 t) g2
theorem rparse_yes {a : ByteArray} {y mo d h mi s : Int} (t : Tm y mo d h mi s) (hs : Says a y mo d h mi s) : Ev (fun k => ambryref9_Parse.f k a) (sec y mo d h mi s, 0) := by
  rw [eq_bytes a] at hs ⊢
  obtain ⟨r, ev, _, hh⟩ := rparse_tot a.data.toList
  rw [← hh y mo d h mi s t hs]
  exact ev
theorem rparse_no {a : ByteArray} (hn : ∀ y mo d h mi s, Tm y mo d h mi s → ¬ Says a y mo d h mi s) : Ev (fun k => ambryref9_Parse.f k a) (0, 80) := by
  obtain ⟨r, ev, h1, _⟩ := rparse_tot a.data.toList
  rw [← eq_bytes a] at ev
  rcases h1 with rfl | ⟨y, mo, d, h, mi, s, t, hs, _⟩
  · exact ev
  · rw [← eq_bytes a] at hs
    exact absurd hs (hn y mo d h mi s t)
end Go.Proofs.YtcejglmmjbmafaaDoor.Pure
/- Plain Lean: what DateReads' printed function answers. -/
namespace Go.Proofs.YtcejglmmjbmafaaDoor.Pure
open Go.RowKit Go.Proofs.YtcejglmmjbmafaaDoor.X Go.Proofs.YtcejglmmjbmafaaDoor.Cal Go.Proofs.YtcejglmmjbmafaaDoorW.PrintWords Go.Proofs.YtcejglmmjbmafaaDoorW.PrintLast Go.Proofs.YtcejglmmjbmafaaDoorW.PrintMore
set_option linter.unusedVariables false
set_option linter.unusedSimpArgs false

/-- Both readers answer any text alike. -/
theorem both_r (s : ByteArray) (hs : s.size ≤ 1000000000) : ∃ r, Ev (fun k => date_Parse.f k s) r ∧ Ev (fun k => ambryref9_Parse.f k s) r := by
  by_cases h : ∃ y mo d h mi sc, Tm y mo d h mi sc ∧ Says s y mo d h mi sc
  · obtain ⟨y, mo, d, h, mi, sc, t, hsay⟩ := h
    exact ⟨_, parse_yes t hsay, rparse_yes t hsay⟩
  · have hn : ∀ y mo d h mi sc, Tm y mo d h mi sc → ¬ Says s y mo d h mi sc := fun y mo d h' mi sc t z => h ⟨y, mo, d, h', mi, sc, t, z⟩
    exact ⟨_, parse_no s hs hn, rparse_no hn⟩
theorem DateReads : X.ambrylaw9_DateReads.Pure := by
  intro a0 _
  obtain ⟨k0, h0⟩ := known_ev
  by_cases hz : (a0.size : Int) > 200
  · refine ⟨k0, ?_⟩
    have e0 := h0 k0 (by omega)
    simp only at e0
    simp only [ambrylaw9_DateReads.f, e0, Option.bind_some, if_true]
    rw [if_pos hz]
  · obtain ⟨r, ⟨k1, h1⟩, ⟨k2, h2⟩⟩ := both_r a0 (by omega)
    refine ⟨k0 + k1 + k2, ?_⟩
    have e0 := h0 (k0 + k1 + k2) (by omega)
    have e1 := h1 (k0 + k1 + k2) (by omega)
    have e2 := h2 (k0 + k1 + k2) (by omega)
    simp only at e0 e1 e2
    simp only [ambrylaw9_DateReads.f, e0, e1, e2, Option.bind_some, if_true]
    rw [if_neg hz]
    simp
end Go.Proofs.YtcejglmmjbmafaaDoor.Pure
