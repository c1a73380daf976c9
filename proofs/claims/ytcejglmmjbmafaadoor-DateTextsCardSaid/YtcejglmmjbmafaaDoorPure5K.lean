/- Plain Lean: the document's text of a time is the program's. -/
import Derived.Test.YtcejglmmjbmafaaDoorK29
namespace Go.Proofs.YtcejglmmjbmafaaDoor.Pure
open Go.RowKit Go.Proofs.YtcejglmmjbmafaaDoor.X Go.Proofs.YtcejglmmjbmafaaDoor.Cal Go.Proofs.YtcejglmmjbmafaaDoorW.PrintWords Go.Proofs.YtcejglmmjbmafaaDoorW.PrintLast Go.Proofs.YtcejglmmjbmafaaDoorW.PrintMore
set_option linter.unusedVariables false
set_option linter.unusedSimpArgs false

def rdays : List ByteArray := [(⟨#[83, 117, 110]⟩ : ByteArray), (⟨#[77, 111, 110]⟩ : ByteArray), (⟨#[84, 117, 101]⟩ : ByteArray), (⟨#[87, 101, 100]⟩ : ByteArray), (⟨#[84, 104, 117]⟩ : ByteArray), (⟨#[70, 114, 105]⟩ : ByteArray), (⟨#[83, 97, 116]⟩ : ByteArray)]
def rmonths : List ByteArray := [(⟨#[74, 97, 110]⟩ : ByteArray), (⟨#[70, 101, 98]⟩ : ByteArray), (⟨#[77, 97, 114]⟩ : ByteArray), (⟨#[65, 112, 114]⟩ : ByteArray), (⟨#[77, 97, 121]⟩ : ByteArray), (⟨#[74, 117, 110]⟩ : ByteArray), (⟨#[74, 117, 108]⟩ : ByteArray), (⟨#[65, 117, 103]⟩ : ByteArray), (⟨#[83, 101, 112]⟩ : ByteArray), (⟨#[79, 99, 116]⟩ : ByteArray), (⟨#[78, 111, 118]⟩ : ByteArray), (⟨#[68, 101, 99]⟩ : ByteArray)]
theorem rdays_f : ambryref9_days.f = some rdays := rfl
theorem rmonths_f : ambryref9_months.f = some rmonths := rfl
theorem rdays_at (w : Int) (h0 : 0 ≤ w) (h1 : w < 7) : rdOf ByteArray.empty rdays w = X.bytes (sd w) := by
  obtain ⟨n, rfl⟩ := Int.eq_ofNat_of_zero_le h0
  match n, h1 with
  | 0, _ | 1, _ | 2, _ | 3, _ | 4, _ | 5, _ | 6, _ => rfl
  | n + 7, h => omega
theorem rmonths_at (w : Int) (h0 : 0 ≤ w) (h1 : w < 12) : rdOf ByteArray.empty rmonths w = X.bytes (m3 w) := by
  obtain ⟨n, rfl⟩ := Int.eq_ofNat_of_zero_le h0
  match n, h1 with
  | 0, _ | 1, _ | 2, _ | 3, _ | 4, _ | 5, _ | 6, _ | 7, _ | 8, _ | 9, _ | 10, _ | 11, _ => rfl
  | n + 12, h => omega
theorem tw_mod (y : Int) : tw (y % 100) = tw y := by
  unfold tw
  rw [show y % 100 / 10 % 10 = y / 10 % 10 by omega, show y % 100 % 10 = y % 10 by omega]
theorem rtext_l1 (n y r : Int) (hy0 : 1970 ≤ y) (hy1 : y ≤ 9999) (hn : n < dys (y + 1)) (hn0 : 0 ≤ n) (hn1 : n ≤ 2932896) (hr0 : 0 ≤ r) (hr1 : r < 86400) (c : Nat) : ∀ (m : Int), (c : Int) = 12 - m → 0 ≤ m → m < 12 → dys y + cum y m ≤ n →
    ∃ m' d, Ok y m' d ∧ num y m' d = n ∧ Ev (fun k => ambryref9_Text.l1 k n r y (n - dys y - cum y m) (m + 1)) (X.bytes (T1 y m' d (r / 3600) (r / 60 % 60) (r % 60) ((n + 4) % 7))) := by
  induction c with
  | zero => intro m hc h0 h1; omega
  | succ c ih =>
    intro m hc h0 h1 hle
    have hs := cum_succ y m h0 h1
    have hl := len_lo y m
    have hh := len_hi y m
    have hb := cum_pos y m h0 (by omega)
    have hd0 : 0 ≤ dys y := by have := dys_le hy0; rw [dys_1970] at this; exact this
    have em : m + 1 - 1 = m := by omega
    have hlen : ambryref9_length.f y (m + 1) = some (len y m) := by rw [rlength_f y (m + 1) (by omega) (by omega) (by omega), em]
    by_cases hg : len y m ≤ n - dys y - cum y m
    · have hm : m + 1 < 12 := by
        by_cases e : m = 11
        · subst e
          have := cum_12 y
          have := dys_succ y
          have e12 : (11 : Int) + 1 = 12 := rfl
          rw [e12] at hs
          omega
        · omega
      obtain ⟨m', d, ho, hnum, hev⟩ := ih (m + 1) (by omega) (by omega) hm (by omega)
      refine ⟨m', d, ho, hnum, Ev.step (f := fun k => ambryref9_Text.l1 k n r y (n - dys y - cum y (m + 1)) (m + 1 + 1)) (fun k => ?_) hev⟩
      simp only [ambryref9_Text.l1, hlen, Option.bind_some]
      rw [if_pos hg, w64 (x := m + 1 + 1) (by omega) (by omega), w64 (by omega) (by omega), hs]
      congr 1
      omega
    · refine ⟨m, n - dys y - cum y m + 1, ⟨hy0, hy1, h0, h1, by omega, by omega⟩, by unfold num; omega, Ev.step (f := fun _ => some _) (fun k => ?_) (Ev.now _)⟩
      simp only [ambryref9_Text.l1, hlen, Option.bind_some, rdays_f, rmonths_f]
      have l7 : (rdays.length : Int) = 7 := rfl
      have l12 : (rmonths.length : Int) = 12 := rfl
      rw [if_neg hg, w64 (x := n + 4) (by omega) (by omega), tmod_nn 7 (by omega), w64 (x := n - dys y - cum y m + 1) (by omega) (by omega), w64 (x := m + 1 - 1) (by omega) (by omega), em, tdiv_nn 100 (by omega), w64 (x := y / 100) (by omega) (by omega), tmod_nn 100 (by omega), tdiv_nn 3600 hr0, tdiv_nn 60 hr0, tmod_nn 60 hr0, w64 (x := r / 3600) (by omega) (by omega), w64 (x := r / 60) (by omega) (by omega), tmod_nn 60 (by omega), l7, l12,
        rdays_at ((n + 4) % 7) (by omega) (by omega), rmonths_at m h0 h1, rtwo_f (n - dys y - cum y m + 1) (by omega) (by omega), rtwo_f (y / 100) (by omega) (by omega), rtwo_f (y % 100) (by omega) (by omega), rtwo_f (r / 3600) (by omega) (by omega), rtwo_f (r / 60 % 60) (by omega) (by omega), rtwo_f (r % 60) (by omega) (by omega)]
      rw [if_pos (by omega), if_pos (by omega)]
      simp only [Option.bind_some]
      obtain ⟨a, b, c', es, _⟩ := sd_three ((n + 4) % 7) ⟨by omega, by omega⟩
      obtain ⟨p, q, r', e3, _⟩ := m3_three m h0 h1
      unfold T1 ck
      rw [es, e3, tw_mod]
      obtain ⟨d1, d2, e1, _⟩ := tw_two (n - dys y - cum y m + 1)
      obtain ⟨d3, d4, e2, _⟩ := tw_two (r / 3600)
      obtain ⟨d5, d6, e4, _⟩ := tw_two (r / 60 % 60)
      obtain ⟨d7, d8, e5, _⟩ := tw_two (r % 60)
      obtain ⟨d9, d10, e6, _⟩ := tw_two (y / 100)
      obtain ⟨d11, d12, e7, _⟩ := tw_two y
      rw [e1, e2, e4, e5, e6, e7]
      simp only [lit_bytes, bytes_append, bytes_size]
      repeat rw [if_pos (by first | exact h0 | exact h1 | simp)]
      congr 2
theorem rtext_l0 (n r : Int) (hn0 : 0 ≤ n) (hn1 : n ≤ 2932896) (hr0 : 0 ≤ r) (hr1 : r < 86400) (c : Nat) : ∀ (y : Int), (c : Int) = 10000 - y → 1970 ≤ y → y ≤ 9999 → dys y ≤ n →
    ∃ y' m' d, Ok y' m' d ∧ num y' m' d = n ∧ Ev (fun k => ambryref9_Text.l0 k n r y) (X.bytes (T1 y' m' d (r / 3600) (r / 60 % 60) (r % 60) ((n + 4) % 7))) := by
  induction c with
  | zero => intro y hc h0 h1; omega
  | succ c ih =>
    intro y hc h0 h1 hle
    by_cases hg : dys (y + 1) ≤ n
    · have hm : y + 1 ≤ 9999 := by
        by_cases e : y = 9999
        · subst e
          have := dys_10000
          have e12 : (9999 : Int) + 1 = 10000 := rfl
          rw [e12] at hg
          omega
        · omega
      obtain ⟨y', m', d, ho, hnum, hev⟩ := ih (y + 1) (by omega) (by omega) hm hg
      refine ⟨y', m', d, ho, hnum, Ev.step (f := fun k => ambryref9_Text.l0 k n r (y + 1)) (fun k => ?_) hev⟩
      simp only [ambryref9_Text.l0]
      rw [w64 (x := y + 1) (by omega) (by omega), ahead_f (y + 1) (by omega) (by omega)]
      simp only [Option.bind_some]
      rw [if_pos hg]
    · obtain ⟨m', d, ho, hnum, hev⟩ := rtext_l1 n y r h0 h1 (by omega) hn0 hn1 hr0 hr1 12 0 (by omega) (by omega) (by omega) (by rw [cum_0]; omega)
      refine ⟨y, m', d, ho, hnum, Ev.step (f := fun k => ambryref9_Text.l1 k n r y (n - dys y - cum y 0) (0 + 1)) (fun k => ?_) hev⟩
      simp only [ambryref9_Text.l0]
      rw [w64 (x := y + 1) (by omega) (by omega), ahead_f (y + 1) (by omega) (by omega), ahead_f y h0 (by omega)]
      simp only [Option.bind_some]
      have hd0 : 0 ≤ dys y := by have := dys_le h0; rw [dys_1970] at this; exact this
      rw [if_neg hg, cum_0, w64 (by omega) (by omega)]
      congr 1
      omega
/-- The document's text. -/
theorem rtext_ev {y mo d h mi s : Int} (t : Tm y mo d h mi s) {x : Int} (hx : cl x = sec y mo d h mi s) : Ev (fun k => ambryref9_Text.f k x) (X.bytes (T1 y mo d h mi s (wk y mo d))) := by
  obtain ⟨h0, h1, _⟩ := of_sec t
  have hb := t.ok.bound
  have := t.h0; have := t.h1; have := t.mi0; have := t.mi1; have := t.s0; have := t.s1
  generalize hS : sec y mo d h mi s = S at h0 h1 hx
  obtain ⟨y', mo', d', ho, hn, hev⟩ := rtext_l0 (S / 86400) (S % 86400) (by omega) (by omega) (by omega) (by omega) (10000 - (1970 + S / 86400 / 366)).toNat (1970 + S / 86400 / 366) (by omega) (by omega) (by omega) (guess _ (by omega))
  have hnn : num y' mo' d' = num y mo d := by rw [hn, ← hS]; unfold sec; omega
  obtain ⟨rfl, rfl, rfl⟩ := num_inj ho t.ok hnn
  have e1 : S % 86400 / 3600 = h := by rw [← hS]; unfold sec; omega
  have e2 : S % 86400 / 60 % 60 = mi := by rw [← hS]; unfold sec; omega
  have e3 : S % 86400 % 60 = s := by rw [← hS]; unfold sec; omega
  rw [e1, e2, e3] at hev
  have ew : (S / 86400 + 4) % 7 = wk y' mo' d' := by unfold wk; rw [hn]
  rw [ew] at hev
  refine Ev.congr (fun k => ?_) hev
  simp only [ambryref9_Text.f]
  rw [show mn (mx x 0) 253402300799 = S from hx]
end Go.Proofs.YtcejglmmjbmafaaDoor.Pure
