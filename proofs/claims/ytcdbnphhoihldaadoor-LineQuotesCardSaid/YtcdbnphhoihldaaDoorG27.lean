/- Words and walks, joined by a program. -/
import Derived.Test.YtcdbnphhoihldaaDoorG25
import Derived.Test.YtcdbnphhoihldaaDoorG26
import Derived.Test.YtcdbnphhoihldaaDoorG22
import Derived.Lib.Hide
import Derived.Deep.QuietTactic
import Derived.BigQuiet
import Derived.OwnWalk
import Derived.Lib.AppendZeros
import Derived.Deep.RegionHeld3
import Derived.Deep.MidRow
import Derived.LoopN
import Derived.BigRegion
import Derived.Maps.AppendAt
/- Plain Lean: what the printed function line.quoted comes to. -/
namespace Go.Proofs.YtcdbnphhoihldaaDoor.Quo
open Go.RowKit Go.Proofs.YtcdbnphhoihldaaDoor.X Go.Proofs.YtcdbnphhoihldaaDoor.Cal Go.Proofs.YtcdbnphhoihldaaDoor.Pure Go.Proofs.YtcdbnphhoihldaaDoorW.PrintWords Go.Proofs.YtcdbnphhoihldaaDoorW.PrintLast Go.Proofs.YtcdbnphhoihldaaDoorW.PrintMore
set_option linter.unusedVariables false
set_option linter.unusedSimpArgs false

def vn (c : UInt8) : Int := match val c with | some v => (v.toNat : Int) | none => -1
theorem value_f (c : UInt8) : line_value.f (c.toNat : Int) = some (vn c) := all_u8 (p := fun c => line_value.f (c.toNat : Int) = some (vn c)) (by decide +kernel) c
theorem or16' : ∀ a b : Fin 16, Go.bits .or .i64 (wrap64 ((a.val : Int) * 16)) (b.val : Int) = 16 * a.val + b.val := by decide +kernel
theorem val_lt (c : UInt8) : ∀ v, val c = some v → v.toNat < 16 := all_u8 (p := fun c => ∀ v, val c = some v → v.toNat < 16) (by decide +kernel) c
theorem or16 {a b : UInt8} (ha : a.toNat < 16) (hb : b.toNat < 16) : Go.bits .or .i64 (wrap64 ((a.toNat : Int) * 16)) (b.toNat : Int) % 256 = ((16 * a + b).toNat : Int) := by
  have h := or16' ⟨a.toNat, ha⟩ ⟨b.toNat, hb⟩
  simp only at h
  rw [h]
  have e : (16 * a + b).toNat = 16 * a.toNat + b.toNat := by
    rw [UInt8.toNat_add, UInt8.toNat_mul]
    have : (16 : UInt8).toNat = 16 := rfl
    rw [this]
    omega
  omega
theorem odd_f (b : UInt8) : line_odd.f (b.toNat : Int) = some (odd b) := all_u8 (p := fun b => line_odd.f (b.toNat : Int) = some (odd b)) (by decide +kernel) b
/-- The answer, with what has been read ahead. -/
def res (acc : List UInt8) : Option (List UInt8 × List UInt8) → ByteArray × ByteArray × Bool
  | some (x, r) => (X.bytes (acc ++ x), X.bytes r, true)
  | none => ((⟨#[]⟩ : ByteArray), (⟨#[]⟩ : ByteArray), false)
theorem res_map (acc : List UInt8) (c : UInt8) (o : Option (List UInt8 × List UInt8)) : res acc (o.map fun z => (c :: z.1, z.2)) = res (acc ++ [c]) o := by
  cases o with
  | none => rfl
  | some z => simp [res]
theorem nums_one (acc : List UInt8) (c : UInt8) : nums (acc ++ [c]) = nums acc ++ [(c.toNat : Int)] := by rw [nums_app]; rfl
theorem lq_j3f (s : ByteArray) (x : List Int) (i : Int) : Ev (fun k => line_quoted.j3 k s x i false) ((⟨#[]⟩ : ByteArray), (⟨#[]⟩ : ByteArray), false) :=
  Ev.step (f := fun _ => some _) (fun k => by simp [line_quoted.j3]) (Ev.now _)
theorem drop_bytes (s : List UInt8) (i : Nat) : (X.bytes s).extract i (X.bytes s).size = X.bytes (s.drop i) := by
  rw [extract_bytes, bytes_size, List.take_of_length_le (by rw [List.length_drop]; exact Nat.le_refl _)]
theorem de_34 (r : List UInt8) : de (34 :: r) = some ([], r) := by rw [de.eq_def]; rfl
theorem de_odd {b : UInt8} (r : List UInt8) (h34 : ¬ b = 34) (ho : odd b = true) : de (b :: r) = none := by
  rw [de.eq_def]
  simp only [h34, if_false, ho, if_true]
theorem de_one {b : UInt8} (r : List UInt8) (h34 : ¬ b = 34) (ho : ¬ odd b = true) (h92 : ¬ b = 92) : de (b :: r) = (de r).map fun z => (b :: z.1, z.2) := by
  have h92' : b ≠ 92 := h92
  rw [de.eq_def]
  simp only [h34, if_false]
  rw [if_neg ho, if_pos h92']
theorem o92 : odd 92 = false := by decide
theorem de_92nil : de [92] = none := by rw [de.eq_def]; rfl
theorem de_92q {d : UInt8} (r : List UInt8) (hq : d = 34 ∨ d = 92) : de (92 :: d :: r) = (de r).map fun z => (d :: z.1, z.2) := by
  rw [de.eq_def]
  simp only [o92, Bool.false_eq_true, if_false, ne_eq, not_true_eq_false, hq, if_true]
  rw [if_neg (by decide)]
theorem de_92a {d : UInt8} (hq : ¬ (d = 34 ∨ d = 92)) : de [92, d] = none := by
  rw [de.eq_def]
  simp only [o92, Bool.false_eq_true, if_false, ne_eq, not_true_eq_false, hq]
  rw [if_neg (by decide)]
theorem de_92b {d h : UInt8} (hq : ¬ (d = 34 ∨ d = 92)) : de [92, d, h] = none := by
  rw [de.eq_def]
  simp only [o92, Bool.false_eq_true, if_false, ne_eq, not_true_eq_false, hq]
  rw [if_neg (by decide)]
theorem de_92n {d h l : UInt8} (r : List UInt8) (hq : ¬ (d = 34 ∨ d = 92)) (hd : d ≠ 120 ∨ val h = none ∨ val l = none) : de (92 :: d :: h :: l :: r) = none := by
  rw [de.eq_def]
  simp only [o92, Bool.false_eq_true, if_false, ne_eq, not_true_eq_false, hq]
  rw [if_neg (by decide)]
  rcases hd with hd | hd | hd
  · rw [if_neg hd]
  · rw [hd]
    split <;> rfl
  · rw [hd]
    split
    · cases val h <;> rfl
    · rfl
theorem de_92x {h l a b : UInt8} (r : List UInt8) (ha : val h = some a) (hb : val l = some b) : de (92 :: 120 :: h :: l :: r) = if odd (16 * a + b) = true then (de r).map fun z => ((16 * a + b) :: z.1, z.2) else none := by
  rw [de.eq_def]
  simp only [o92, Bool.false_eq_true, if_false, ne_eq, not_true_eq_false, ha, hb]
  rw [if_neg (by decide), if_neg (by decide)]
  simp only [if_true]
theorem w64n {a b : Nat} (h : a + b ≤ 1000000000) : wrap64 ((a : Int) + (b : Int)) = ((a + b : Nat) : Int) := by
  rw [w64 (x := (a : Int) + (b : Int)) (by omega) (by omega)]
  omega
theorem lq_l0 (s : List UInt8) (hs : s.length ≤ 1000000) : ∀ (n i : Nat) (acc : List UInt8), s.length ≤ n + i → i ≤ s.length → acc.length ≤ i →
    Ev (fun k => line_quoted.l0 k (X.bytes s) (nums acc) (i : Int)) (res acc (de (s.drop i))) := by
  have hsz : (((X.bytes s).size : Nat) : Int) = (s.length : Int) := rfl
  intro n
  induction n with
  | zero =>
    intro i acc h1 h2 h3
    rw [List.drop_eq_nil_of_le (by omega)]
    refine Ev.step (f := fun _ => some _) (fun k => ?_) (Ev.now _)
    simp only [line_quoted.l0, hsz]
    rw [if_neg (by omega)]
    rfl
  | succ n ih =>
    intro i acc h1 h2 h3
    by_cases hlt : i < s.length
    case neg =>
      rw [List.drop_eq_nil_of_le (by omega)]
      refine Ev.step (f := fun _ => some _) (fun k => ?_) (Ev.now _)
      simp only [line_quoted.l0, hsz]
      rw [if_neg (by omega)]
      rfl
    have hd : s.drop i = s[i] :: s.drop (i + 1) := List.drop_eq_getElem_cons hlt
    have hbt : bt (X.bytes s) (i : Int) = ((s[i]).toNat : Int) := bt_bytes s i hlt
    rw [hd]
    generalize s[i] = b at hbt
    have hnl : ∀ a : List UInt8, (nums a).length = a.length := nums_len
    have f1 : s.length ≤ n + (i + 1) := by omega
    have f2 : i + 1 ≤ s.length := by omega
    have f3 : acc.length + 1 ≤ i + 1 := by omega
    have t0' : ((i + 1 : Nat) : Int) ≤ (s.length : Int) := by omega
    have hl0 : ¬ i + 1 < s.length → ¬ (((i + 1 : Nat) : Int) < (s.length : Int)) ∧ ¬ (((i + 3 : Nat) : Int) < (s.length : Int)) ∧ s.length ≤ i + 1 := fun z => by omega
    have hl1 : i + 1 < s.length → ((i + 1 : Nat) : Int) < (s.length : Int) ∧ s.length ≤ n + (i + 2) ∧ i + 2 ≤ s.length ∧ acc.length + 1 ≤ i + 2 := fun z => by omega
    have hN : ¬ i + 3 < s.length → ¬ (((i + 3 : Nat) : Int) < (s.length : Int)) := fun z => by omega
    have hP : i + 3 < s.length → ((i + 2 : Nat) : Int) < (s.length : Int) ∧ ((i + 3 : Nat) : Int) < (s.length : Int) ∧ i + 2 < s.length ∧ s.length ≤ n + (i + 4) ∧ i + 4 ≤ s.length ∧ acc.length + 1 ≤ i + 4 := fun z => by omega
    have hQ : ¬ i + 3 < s.length → i + 2 < s.length → s.length ≤ i + 2 + 1 := fun z _ => by omega
    have hR : ¬ i + 2 < s.length → s.length ≤ i + 2 := fun z => by omega
    have la : (nums acc).length < 140737488355328 := by rw [hnl]; omega
    have p0 : (0 : Int) ≤ (i : Int) := by omega
    have p1 : (0 : Int) ≤ ((i + 1 : Nat) : Int) := by omega
    have p2 : (0 : Int) ≤ ((i + 2 : Nat) : Int) := by omega
    have p3 : (0 : Int) ≤ ((i + 3 : Nat) : Int) := by omega
    have t0 : (i : Int) < (s.length : Int) := by omega
    have hw9 : i + 1 + 1 ≤ 1000000000 := by omega
    have hw8 : i + 3 + 1 ≤ 1000000000 := by omega
    have w1 : wrap64 ((i : Int) + 1) = ((i + 1 : Nat) : Int) := w64n (b := 1) (by omega)
    have w2 : wrap64 ((i : Int) + 2) = ((i + 2 : Nat) : Int) := w64n (b := 2) (by omega)
    have w3 : wrap64 ((i : Int) + 3) = ((i + 3 : Nat) : Int) := w64n (b := 3) (by omega)
    have w2' : wrap64 (((i + 1 : Nat) : Int) + 1) = ((i + 2 : Nat) : Int) := w64n (a := i + 1) (b := 1) hw9
    have w4 : wrap64 (((i + 3 : Nat) : Int) + 1) = ((i + 4 : Nat) : Int) := w64n (a := i + 3) (b := 1) hw8
    by_cases h34 : b = 34
    · subst h34
      rw [de_34]
      refine Ev.step (f := fun _ => some _) (fun k => ?_) (Ev.now _)
      simp only [line_quoted.l0, hsz, hbt, w1]
      rw [if_pos t0, if_pos p0, if_pos (by decide), if_pos p1, if_pos t0', Int.toNat_natCast, str_nums, drop_bytes]
      simp [res]
    have n34 : ¬ ((b.toNat : Int) = 34) := fun z => h34 ((u8_eq (n := 34) (by decide)).1 z)
    by_cases ho : odd b = true
    · rw [de_odd _ h34 ho]
      refine Ev.step (f := fun _ => some _) (fun k => ?_) (Ev.now _)
      simp only [line_quoted.l0, hsz, hbt, odd_f, Option.bind_some]
      rw [if_pos t0, if_pos p0, if_neg n34, if_pos ho]
      rfl
    by_cases h92 : b = 92
    case neg =>
      have n92 : ¬ ((b.toNat : Int) = 92) := fun z => h92 ((u8_eq (n := 92) (by decide)).1 z)
      have e := ih (i + 1) (acc ++ [b]) f1 f2 (by rw [List.length_append]; exact f3)
      rw [de_one _ h34 ho h92, res_map]
      refine Ev.step (fun k => ?_) e
      simp only [line_quoted.l0, hsz, hbt, odd_f, Option.bind_some]
      rw [if_pos t0, if_pos p0, if_neg n34, if_neg ho, if_neg n92, if_pos la, w1, nums_one]
    have c92 : (b.toNat : Int) = 92 := by rw [h92]; rfl
    rw [h92]
    by_cases hl : i + 1 < s.length
    case neg =>
      obtain ⟨m1, m3, m4⟩ := hl0 hl
      rw [List.drop_eq_nil_of_le m4, de_92nil]
      refine Ev.step (fun k => ?_) (Ev.step (fun k => ?_) (lq_j3f (X.bytes s) (nums acc) i) : Ev (fun k => line_quoted.j2 k (X.bytes s) (nums acc) (i : Int) false) _)
      · simp only [line_quoted.l0, hsz, hbt, odd_f, Option.bind_some, w1]
        rw [if_pos t0, if_pos p0, if_neg n34, if_neg ho, if_pos c92, if_neg m1]
      · simp only [line_quoted.j2, hsz, w3, Bool.false_eq_true, if_false]
        rw [if_neg m3]
    have hd1 : s.drop (i + 1) = s[i + 1] :: s.drop (i + 2) := List.drop_eq_getElem_cons hl
    have hb1 : bt (X.bytes s) ((i + 1 : Nat) : Int) = ((s[i + 1]).toNat : Int) := bt_bytes s (i + 1) hl
    rw [hd1]
    generalize s[i + 1] = d at hb1
    obtain ⟨t1, g1, g2, g3⟩ := hl1 hl
    have step1 : ∀ R, Ev (fun k => line_quoted.j2 k (X.bytes s) (nums acc) (i : Int) (decide (d = 34 ∨ d = 92))) R → Ev (fun k => line_quoted.l0 k (X.bytes s) (nums acc) (i : Int)) R := by
      intro R hR
      refine Ev.step (fun k => ?_) hR
      simp only [line_quoted.l0, hsz, hbt, odd_f, Option.bind_some, w1]
      rw [if_pos t0, if_pos p0, if_neg n34, if_neg ho, if_pos c92, if_pos t1, if_pos p1, hb1]
      by_cases e34 : d = 34
      · subst e34
        rw [if_pos (by decide)]
        rfl
      · rw [if_neg (show ¬ ((d.toNat : Int) = 34) from fun z => e34 ((u8_eq (n := 34) (by decide)).1 z))]
        congr 1
        rw [Bool.eq_iff_iff]
        simp only [beq_iff_eq, decide_eq_true_eq, e34, false_or]
        exact u8_eq (n := 92) (by decide)
    refine step1 _ ?_
    have hl3 : i + 3 < s.length ∨ ¬ i + 3 < s.length := Classical.em _
    by_cases hq : d = 34 ∨ d = 92
    · have e := ih (i + 2) (acc ++ [d]) g1 g2 (by rw [List.length_append]; exact g3)
      rw [de_92q _ hq, res_map, decide_eq_true hq]
      refine Ev.step (fun k => ?_) e
      simp only [line_quoted.j2, hsz, w1, hb1, w2', if_true]
      rw [if_pos p1, if_pos t1, if_pos la, nums_one]
    rw [decide_eq_false hq]
    by_cases hl3 : i + 3 < s.length
    case neg =>
      have hN := hN hl3
      have e : de (92 :: d :: s.drop (i + 2)) = none := by
        by_cases hl2 : i + 2 < s.length
        · rw [List.drop_eq_getElem_cons hl2, List.drop_eq_nil_of_le (hQ hl3 hl2), de_92b hq]
        · rw [List.drop_eq_nil_of_le (hR hl2), de_92a hq]
      rw [e]
      refine Ev.step (fun k => ?_) (lq_j3f (X.bytes s) (nums acc) i)
      simp only [line_quoted.j2, hsz, w3, Bool.false_eq_true, if_false]
      rw [if_neg hN]
    obtain ⟨t2, t3, hl2, g4, g5, g6⟩ := hP hl3
    clear hN hP hQ hR
    have hd2 : s.drop (i + 2) = s[i + 2] :: s.drop (i + 3) := List.drop_eq_getElem_cons hl2
    have hd3 : s.drop (i + 3) = s[i + 3] :: s.drop (i + 4) := List.drop_eq_getElem_cons hl3
    have hb2 : bt (X.bytes s) ((i + 2 : Nat) : Int) = ((s[i + 2]).toNat : Int) := bt_bytes s (i + 2) hl2
    have hb3 : bt (X.bytes s) ((i + 3 : Nat) : Int) = ((s[i + 3]).toNat : Int) := bt_bytes s (i + 3) hl3
    rw [hd2, hd3]
    generalize s[i + 2] = h at hb2
    generalize s[i + 3] = l at hb3
    by_cases h120 : d = 120
    case neg =>
      rw [de_92n _ hq (.inl h120)]
      refine Ev.step (fun k => ?_) (lq_j3f (X.bytes s) (nums acc) i)
      simp only [line_quoted.j2, hsz, w1, w3, hb1, Bool.false_eq_true, if_false]
      rw [if_pos t3, if_pos p1, if_pos t1, if_neg (show ¬ ((d.toNat : Int) = 120) from fun z => h120 ((u8_eq (n := 120) (by decide)).1 z))]
    have c120 : (d.toNat : Int) = 120 := by rw [h120]; rfl
    have vh := val_lt h
    have vl := val_lt l
    cases hvh : val h with
    | none =>
      have e : vn h = -1 := by unfold vn; rw [hvh]
      rw [de_92n _ hq (.inr (.inl hvh))]
      refine Ev.step (fun k => ?_) (lq_j3f (X.bytes s) (nums acc) i)
      simp only [line_quoted.j2, hsz, w1, w2, w3, hb1, hb2, value_f, e, Option.bind_some, Bool.false_eq_true, if_false]
      rw [if_pos t3, if_pos p1, if_pos t1, if_pos c120, if_pos p2, if_pos t2, if_neg (by decide)]
    | some a =>
      have ea : vn h = (a.toNat : Int) := by unfold vn; rw [hvh]
      have ha := vh a hvh
      have va : (a.toNat : Int) ≥ 0 := Int.natCast_nonneg _
      cases hvl : val l with
      | none =>
        have e : vn l = -1 := by unfold vn; rw [hvl]
        rw [de_92n _ hq (.inr (.inr hvl))]
        refine Ev.step (fun k => ?_) (lq_j3f (X.bytes s) (nums acc) i)
        rw [line_quoted.j2, if_neg Bool.false_ne_true, w3, hsz, if_pos t3, w1, if_pos p1, if_pos t1, hb1, if_pos c120, w2, if_pos p2, if_pos t2, hb2, value_f, ea, Option.bind_some]
        show _ = _
        rw [if_pos va, if_pos p3, hb3, value_f, e, Option.bind_some]
        show _ = _
        rw [if_neg (by decide)]
      | some b' =>
        have eb : vn l = (b'.toNat : Int) := by unfold vn; rw [hvl]
        have hb' := vl b' hvl
        have vb : (b'.toNat : Int) ≥ 0 := Int.natCast_nonneg _
        have step2 : ∀ k, line_quoted.j2 (k + 1) (X.bytes s) (nums acc) (i : Int) false = line_quoted.j3 k (X.bytes s) (nums acc) (i : Int) (odd (16 * a + b')) := by
          intro k
          rw [line_quoted.j2, if_neg Bool.false_ne_true, w3, hsz, if_pos t3, w1, if_pos p1, if_pos t1, hb1, if_pos c120, w2, if_pos p2, if_pos t2, hb2, value_f, ea, Option.bind_some]
          show _ = _
          rw [if_pos va, if_pos p3, hb3, value_f, eb, Option.bind_some]
          show _ = _
          rw [if_pos vb, Option.bind_some]
          show _ = _
          rw [Option.bind_some]
          show _ = _
          rw [or16 ha hb', odd_f, Option.bind_some]
        rw [h120, de_92x _ hvh hvl]
        by_cases hod : odd (16 * a + b') = true
        · have e := ih (i + 4) (acc ++ [16 * a + b']) g4 g5 (by rw [List.length_append]; exact g6)
          rw [if_pos hod, res_map]
          refine Ev.step (fun k => step2 k) ?_
          rw [hod]
          refine Ev.step (fun k => ?_) e
          rw [line_quoted.j3, if_pos rfl, w2, if_pos p2, hsz, if_pos t2, hb2, value_f, ea, Option.bind_some]
          show _ = _
          rw [w3, if_pos p3, if_pos t3, hb3, value_f, eb, Option.bind_some]
          show _ = _
          rw [if_pos la, w4, or16 ha hb', nums_one]
        · rw [if_neg hod]
          refine Ev.step (fun k => step2 k) ?_
          rw [Bool.not_eq_true] at hod
          rw [hod]
          exact lq_j3f _ _ _
/-- 'quoted', told and read. -/
def qres (s : List UInt8) : ByteArray × ByteArray × Bool := match s with | 34 :: r => res [] (de r) | _ => ((⟨#[]⟩ : ByteArray), (⟨#[]⟩ : ByteArray), false)
theorem lq_j0t (s : ByteArray) : Ev (fun k => line_quoted.j0 k s true) ((⟨#[]⟩ : ByteArray), (⟨#[]⟩ : ByteArray), false) :=
  Ev.step (f := fun _ => some _) (fun k => by simp [line_quoted.j0]) (Ev.now _)
theorem lq_ev (s : List UInt8) (hs : s.length ≤ 1000000) : Ev (fun k => line_quoted.f k (X.bytes s)) (qres s) := by
  unfold line_quoted.f
  rw [bytes_toList]
  cases s with
  | nil =>
    exact lq_j0t _
  | cons c r =>
    have hbt : bt (X.bytes (c :: r)) 0 = (c.toNat : Int) := bt_bytes (c :: r) 0 (by simp)
    have hp : (0 : Int) < ((X.bytes (c :: r)).size : Int) := by
      have : ((X.bytes (c :: r)).size : Int) = ((c :: r).length : Int) := rfl
      rw [this, List.length_cons]
      omega
    simp only [hp, if_true, hbt, List.cons_ne_nil, if_false]
    by_cases hc : c = 34
    · subst hc
      have e := lq_l0 (34 :: r) hs (34 :: r).length 1 [] (by omega) (by simp) (by simp)
      refine Ev.step (fun k => ?_) e
      simp only [line_quoted.j0]
      rw [if_neg (by decide)]
      rfl
    · have e : (((c.toNat : Int)) != 34) = true := bne_iff_ne.2 (fun z => hc ((u8_eq (n := 34) (by decide)).1 z))
      rw [e]
      have q : qres (c :: r) = ((⟨#[]⟩ : ByteArray), (⟨#[]⟩ : ByteArray), false) := by
        unfold qres
        split
        · rename_i h
          exact absurd (List.cons.inj h).1 hc
        · rfl
      rw [q]
      exact lq_j0t _
end Go.Proofs.YtcdbnphhoihldaaDoor.Quo
/- The log: New, Add, Last, Len, slices.Grow, slices.Concat, by hand. -/
namespace Go.Proofs.YtcdbnphhoihldaaDoor.X
open Go.RowKit Go.Proofs.YtcdbnphhoihldaaDoorW.PrintWords Go.Proofs.YtcdbnphhoihldaaDoorW.PrintLast Go.Proofs.YtcdbnphhoihldaaDoorW.PrintMore
attribute [local go_sem] max2_int min2_int max_two min_two max_three min_three max_four min_four
set_option linter.unusedVariables false
set_option linter.unusedSimpArgs false

theorem wr {x : Int} (h0 : -9223372036854775808 ≤ x) (h1 : x ≤ 9223372036854775807) : wrap64 x = x := by unfold wrap64; omega
/-- A line. -/
structure Ln where
  time : Int
  how : Int
  m : ByteArray
  h : ByteArray
  t : ByteArray
  status : Int
  size : Int
def Ln.cells (l : Ln) : List Value := [.int .i64 l.time, .int .i64 l.how, .string l.m, .string l.h, .string l.t, .int .i64 l.status, .int .i64 l.size]
theorem Ln.len (l : Ln) : l.cells.length = 7 := rfl
theorem Ln.one (l : Ln) : ∀ v ∈ l.cells, v.oneCell' = true := by
  intro v hv
  simp only [Ln.cells, List.mem_cons, List.not_mem_nil, or_false] at hv
  rcases hv with rfl | rfl | rfl | rfl | rfl | rfl | rfl <;> rfl
/-- A ring of lines: its object, its row of N lines, where the eldest is, how many there are. -/
structure Ring (w : World) (gb rb N : Nat) (at_ n : Nat) (L : Nat → Ln) : Prop where
  ne : gb ≠ rb
  big : N ≤ 200
  c0 : w.cell? ⟨gb, 0, none⟩ = some (.slice (some ⟨rb, 0, none⟩) N N)
  c1 : w.cell? ⟨gb, 1, none⟩ = some (.int .i64 (at_ : Int))
  c2 : w.cell? ⟨gb, 2, none⟩ = some (.int .i64 (n : Int))
  f1 : w.frozen? ⟨gb, 1, none⟩ = false
  f2 : w.frozen? ⟨gb, 2, none⟩ = false
  th : w.there rb 0 (N * 7)
  el : ∀ j, j < N → w.rangeAt rb (j * 7) (L j).cells

theorem Log_Len.calls (gb rb N at_ n : Nat) (L : Nat → Ln) (w : World) (h : Ring w gb rb N at_ n L) :
    Calls Tryd.prog 14 #[.pointer (some ⟨gb, 0, none⟩)] w fun e w' => e = .returned (.int .i64 (n : Int)) ∧ w' = w := by
  have c2 := h.c2
  go_enter Tryd.func14, Tryd.ntmps14
  go_wp2
  go_ret
  exact ⟨rfl, rfl⟩

theorem Log_Add.empty (gb rb at_ n : Nat) (L : Nat → Ln) (l : Ln) (w : World) (h : Ring w gb rb 0 at_ n L) :
    Calls Tryd.prog 12 #[.pointer (some ⟨gb, 0, none⟩), .agg l.cells.toArray] w fun e w' => e = .returned (.tuple #[]) ∧ w' = w.alloc (.cells l.cells.toArray 23) := by
  have c0 : ∀ o, (w.alloc o).cell? ⟨gb, 0, none⟩ = some (.slice (some ⟨rb, 0, none⟩) 0 0) := fun o => (World.cell?_alloc_lt _ _ _ (World.block_lt_of_cell? w _ h.c0)).trans h.c0
  go_enter Tryd.func12, Tryd.ntmps12
  unfold Ln.cells
  go_wp2_with fail
  go_end0
  exact ⟨rfl, rfl⟩

theorem Ring.th_at {w : World} {gb rb N at_ n : Nat} {L : Nat → Ln} (h : Ring w gb rb N at_ n L) (j : Nat) (hj : j < N) : w.there rb (j * 7) 7 := fun i hi => by
  have := h.th (j * 7 + i) (by omega)
  simpa using this
theorem size_line : (Tryd.prog.info? 23).map (·.size) = some 7 := by kernel_rfl
theorem run_store7 {a : Act} {o : Oper} {x y : Operand} {b off : Nat} {l : Ln} {w : World} (ho : o.op = .store 23 x y) (hx : a.eval x = .pointer (some ⟨b, off, none⟩)) (hy : a.eval y = .agg l.cells.toArray) (ht : w.there b off 7) :
    (execOp a.eval o).run Tryd.prog w = .ok .skip (w.setCells b off l.cells) := by
  have h := run_storeVar_mid (P := Tryd.prog) w b off 23 l.cells.toArray ht size_line (all_oneCell_toArray l.one)
  unfold execOp
  simp only [ho, hx, hy, Instr.storeAt, Instr.sureAddr, Sem.run_bind, Sem.run_pure, Result.andThen_ok, h]
/-- The row's cell j takes another line. -/
def put (L : Nat → Ln) (j : Nat) (l : Ln) : Nat → Ln := fun i => if i = j then l else L i

theorem Ring.of_heap {w w' : World} {gb rb N at_ n : Nat} {L : Nat → Ln} (h : Ring w gb rb N at_ n L) (hg : w'.heap[gb]? = w.heap[gb]?) (hr : w'.heap[rb]? = w.heap[rb]?) : Ring w' gb rb N at_ n L := by
  have c : ∀ i, w'.cell? ⟨gb, i, none⟩ = w.cell? ⟨gb, i, none⟩ := fun i => World.cell?_of_block hg
  have c' : ∀ i, w'.cell? ⟨rb, i, none⟩ = w.cell? ⟨rb, i, none⟩ := fun i => World.cell?_of_block hr
  have f : ∀ i, w'.frozen? ⟨gb, i, none⟩ = w.frozen? ⟨gb, i, none⟩ := fun i => World.frozen?_of_block hg
  have f' : ∀ i, w'.frozen? ⟨rb, i, none⟩ = w.frozen? ⟨rb, i, none⟩ := fun i => World.frozen?_of_block hr
  exact ⟨h.ne, h.big, (c _).trans h.c0, (c _).trans h.c1, (c _).trans h.c2, (f _).trans h.f1, (f _).trans h.f2, fun i hi => by rw [c', f']; exact h.th i hi, fun j hj i v hv => by rw [c']; exact h.el j hj i v hv⟩
theorem Ring.gl {w : World} {gb rb N at_ n : Nat} {L : Nat → Ln} (h : Ring w gb rb N at_ n L) : gb < w.heap.size := World.block_lt_of_cell? w _ h.c0
theorem Ring.rl {w : World} {gb rb N at_ n : Nat} {L : Nat → Ln} (h : Ring w gb rb N at_ n L) (hN : 0 < N) : rb < w.heap.size := by
  obtain ⟨u, hu⟩ := Option.isSome_iff_exists.1 (h.th 0 (by omega)).1
  exact World.block_lt_of_cell? w _ hu
theorem Ring.alloc {w : World} {gb rb N at_ n : Nat} {L : Nat → Ln} (h : Ring w gb rb N at_ n L) (hN : 0 < N) (o : Obj) : Ring (w.alloc o) gb rb N at_ n L :=
  h.of_heap (((Below.refl w.heap.size w).alloc (Nat.le_refl _) o).block _ h.gl) (((Below.refl w.heap.size w).alloc (Nat.le_refl _) o).block _ (h.rl hN))
theorem Ring.put {w : World} {gb rb N at_ n : Nat} {L : Nat → Ln} (h : Ring w gb rb N at_ n L) (j : Nat) (hj : j < N) (l : Ln) : Ring (w.setCells rb (j * 7) l.cells) gb rb N at_ n (put L j l) := by
  have c : ∀ i, (w.setCells rb (j * 7) l.cells).cell? ⟨gb, i, none⟩ = w.cell? ⟨gb, i, none⟩ := fun i => World.cell?_setCells_out _ _ _ _ _ (fun e _ => absurd e h.ne)
  refine ⟨h.ne, h.big, (c _).trans h.c0, (c _).trans h.c1, (c _).trans h.c2, (World.frozen?_setCells _ _ _ _ _).trans h.f1, (World.frozen?_setCells _ _ _ _ _).trans h.f2, World.there_setCells h.th _ _ _, fun i hi => ?_⟩
  unfold X.put
  by_cases e : i = j
  · subst e
    rw [if_pos rfl]
    exact World.rangeAt_setCells_same _ _ _ _ (h.th_at i hi)
  · rw [if_neg e]
    refine World.rangeAt_setCells_apart (h.el i hi) _ _ _ (.inr ?_)
    rw [Ln.len, Ln.len]
    omega
theorem Ring.cnt {w : World} {gb rb N at_ n : Nat} {L : Nat → Ln} (h : Ring w gb rb N at_ n L) (m : Nat) : Ring (w.setCell ⟨gb, 2, none⟩ (.int .i64 (m : Int))) gb rb N at_ m L := by
  have c : ∀ i, i ≠ 2 → (w.setCell ⟨gb, 2, none⟩ (.int .i64 (m : Int))).cell? ⟨gb, i, none⟩ = w.cell? ⟨gb, i, none⟩ := fun i hi => World.cell?_setCell_other _ _ _ _ (fun e => hi (by injection e with _ e _; exact e.symm))
  have c' : ∀ i, (w.setCell ⟨gb, 2, none⟩ (.int .i64 (m : Int))).cell? ⟨rb, i, none⟩ = w.cell? ⟨rb, i, none⟩ := fun i => World.cell?_setCell_other _ _ _ _ (fun e => h.ne (by injection e))
  refine ⟨h.ne, h.big, (c _ (by decide)).trans h.c0, (c _ (by decide)).trans h.c1, World.cell?_setCell_same _ _ _ h.c2, (World.frozen?_setCell _ _ _ _).trans h.f1, (World.frozen?_setCell _ _ _ _).trans h.f2, fun i hi => ?_, fun j hj i v hv => ?_⟩
  · rw [c', World.frozen?_setCell]; exact h.th i hi
  · rw [c']; exact h.el j hj i v hv
theorem Ring.turn {w : World} {gb rb N at_ n : Nat} {L : Nat → Ln} (h : Ring w gb rb N at_ n L) (m : Nat) : Ring (w.setCell ⟨gb, 1, none⟩ (.int .i64 (m : Int))) gb rb N m n L := by
  have c : ∀ i, i ≠ 1 → (w.setCell ⟨gb, 1, none⟩ (.int .i64 (m : Int))).cell? ⟨gb, i, none⟩ = w.cell? ⟨gb, i, none⟩ := fun i hi => World.cell?_setCell_other _ _ _ _ (fun e => hi (by injection e with _ e _; exact e.symm))
  have c' : ∀ i, (w.setCell ⟨gb, 1, none⟩ (.int .i64 (m : Int))).cell? ⟨rb, i, none⟩ = w.cell? ⟨rb, i, none⟩ := fun i => World.cell?_setCell_other _ _ _ _ (fun e => h.ne (by injection e))
  refine ⟨h.ne, h.big, (c _ (by decide)).trans h.c0, World.cell?_setCell_same _ _ _ h.c1, (c _ (by decide)).trans h.c2, (World.frozen?_setCell _ _ _ _).trans h.f1, (World.frozen?_setCell _ _ _ _).trans h.f2, fun i hi => ?_, fun j hj i v hv => ?_⟩
  · rw [c', World.frozen?_setCell]; exact h.th i hi
  · rw [c']; exact h.el j hj i v hv
theorem below_cells {B g : Nat} (hg : B ≤ g) : ∀ (vs : List Value) (o : Nat) (w : World), Below B w (w.setCells g o vs)
  | [], _, w => Below.refl B w
  | v :: r, o, w => (Below.setCell (p := ⟨g, o, none⟩) (Below.refl B w) hg v).trans (below_cells hg r (o + 1) _)
theorem below_drew {B : Nat} {w w' : World} (h : Below B w w') : Below B w w'.drew := ⟨h.os, h.tape, h.output, h.size, h.block⟩
theorem below_drewN {B : Nat} {w w' : World} (h : Below B w w') (n : Nat) : Below B w (w'.drewN n) := ⟨h.os, h.tape, h.output, h.size, h.block⟩
theorem below_setCell {B : Nat} {w w' : World} (h : Below B w w') (p : Addr) (hp : B ≤ p.block) (v : Value) : Below B w (w'.setCell p v) := h.trans (Below.setCell (Below.refl _ _) hp _)

set_option maxRecDepth 100000 in
set_option maxHeartbeats 4000000 in
/-- There is room. -/
theorem Log_Add.room (gb rb N at_ n : Nat) (L : Nat → Ln) (l : Ln) (w : World) (h : Ring w gb rb N at_ n L) (hn : n < N) (ha : at_ < N) :
    Calls Tryd.prog 12 #[.pointer (some ⟨gb, 0, none⟩), .agg l.cells.toArray] w fun e w' => e = .returned (.tuple #[]) ∧ Ring w' gb rb N at_ (n + 1) (put L ((at_ + n) % N) l) ∧ ∀ B, B ≤ gb → B ≤ rb → B ≤ w.heap.size → Below B w w' := by
  have hbig := h.big
  have hgl : gb < w.heap.size := World.block_lt_of_cell? w _ h.c0
  have c0 : ∀ o, (w.alloc o).cell? ⟨gb, 0, none⟩ = some (.slice (some ⟨rb, 0, none⟩) N N) := fun o => (World.cell?_alloc_lt _ _ ⟨gb, _, none⟩ hgl).trans h.c0
  have c1 : ∀ o, (w.alloc o).cell? ⟨gb, 1, none⟩ = some (.int .i64 (at_ : Int)) := fun o => (World.cell?_alloc_lt _ _ ⟨gb, _, none⟩ hgl).trans h.c1
  have c2 : ∀ o, (w.alloc o).cell? ⟨gb, 2, none⟩ = some (.int .i64 (n : Int)) := fun o => (World.cell?_alloc_lt _ _ ⟨gb, _, none⟩ hgl).trans h.c2
  obtain ⟨j, hj⟩ : ∃ j, (at_ + n) % N = j := ⟨_, rfl⟩
  have hjN : j < N := hj ▸ Nat.mod_lt _ (by omega)
  have ht := h.th_at j hjN
  have e1 : ((N : Int) == 0) = false := by simp; omega
  have e2 : decide ((n : Int) < (N : Int)) = true := decide_eq_true (by omega)
  have e3 : wrap64 ((at_ : Int) + n) = ((at_ + n : Nat) : Int) := by rw [wr (x := (at_ : Int) + n) (by omega) (by omega)]; rfl
  have e4 : Int.tmod ((at_ + n : Nat) : Int) (N : Int) = (j : Int) := by rw [← hj]; exact Int.ofNat_tmod _ _
  have e4' : ((at_ : Int) + n) % (N : Int) = (j : Int) := by rw [← hj]; push_cast; rfl
  have e7 : ((at_ : Int) + n).tmod (N : Int) = (j : Int) := by rw [← e4]; push_cast; rfl
  have e8 : (N = 0) = False := eq_false (by omega)
  have e5 : ((N : Int) = 0) = False := eq_false (by omega)
  have j0 : (0 : Int) ≤ (j : Int) := by omega
  have j1 : (j : Int) < (N : Int) := by omega
  have e6 : wrap64 ((n : Int) + 1) = ((n + 1 : Nat) : Int) := by rw [wr (x := (n : Int) + 1) (by omega) (by omega)]; rfl
  go_enter Tryd.func12, Tryd.ntmps12
  rw [show (l.cells.toArray : Array Value) = #[.int .i64 l.time, .int .i64 l.how, .string l.m, .string l.h, .string l.t, .int .i64 l.status, .int .i64 l.size] from rfl]
  obtain ⟨w1, hw1⟩ : ∃ w1, w.alloc (.cells #[.int .i64 l.time, .int .i64 l.how, .string l.m, .string l.h, .string l.t, .int .i64 l.status, .int .i64 l.size] 23) = w1 := ⟨_, rfl⟩
  have q0 := c0 (.cells #[.int .i64 l.time, .int .i64 l.how, .string l.m, .string l.h, .string l.t, .int .i64 l.status, .int .i64 l.size] 23)
  have q1 := c1 (.cells #[.int .i64 l.time, .int .i64 l.how, .string l.m, .string l.h, .string l.t, .int .i64 l.status, .int .i64 l.size] 23)
  have q2 := c2 (.cells #[.int .i64 l.time, .int .i64 l.how, .string l.m, .string l.h, .string l.t, .int .i64 l.status, .int .i64 l.size] 23)
  rw [hw1] at q0 q1 q2
  have b0 : w1.cell? ⟨w.heap.size, 0, none⟩ = some (.int .i64 l.time) := by rw [← hw1]; exact World.cell?_alloc_new ..
  have b1 : w1.cell? ⟨w.heap.size, 1, none⟩ = some (.int .i64 l.how) := by rw [← hw1]; exact World.cell?_alloc_new ..
  have b2 : w1.cell? ⟨w.heap.size, 2, none⟩ = some (.string l.m) := by rw [← hw1]; exact World.cell?_alloc_new ..
  have b3 : w1.cell? ⟨w.heap.size, 3, none⟩ = some (.string l.h) := by rw [← hw1]; exact World.cell?_alloc_new ..
  have b4 : w1.cell? ⟨w.heap.size, 4, none⟩ = some (.string l.t) := by rw [← hw1]; exact World.cell?_alloc_new ..
  have b5 : w1.cell? ⟨w.heap.size, 5, none⟩ = some (.int .i64 l.status) := by rw [← hw1]; exact World.cell?_alloc_new ..
  have b6 : w1.cell? ⟨w.heap.size, 6, none⟩ = some (.int .i64 l.size) := by rw [← hw1]; exact World.cell?_alloc_new ..
  have ht1 : w1.there rb (j * 7) 7 := hw1 ▸ World.there_alloc ht _
  clear ht c0 c1 c2
  have n0 : gb ≠ rb := h.ne
  have n1 : rb ≠ gb := fun e => n0 e.symm
  have R1 := Lib.hid (h.alloc (by omega) (.cells #[.int .i64 l.time, .int .i64 l.how, .string l.m, .string l.h, .string l.t, .int .i64 l.status, .int .i64 l.size] 23))
  have HB := Lib.hid (fun B (hB : B ≤ w.heap.size) => (Below.refl B w).alloc hB (.cells #[.int .i64 l.time, .int .i64 l.how, .string l.m, .string l.h, .string l.t, .int .i64 l.status, .int .i64 l.size] 23))
  rw [hw1] at R1 HB
  clear h
  go_wp2_with fail
  clear hw1
  go_quiet (fail)
  go_wp2_with fail
--REG 5
  refine start_ (n := 22) (S := fun w' => w'.cell? ⟨gb, 0, none⟩ = some (.slice (some ⟨rb, 0, none⟩) N N) ∧ w'.cell? ⟨gb, 1, none⟩ = some (.int .i64 (at_ : Int)) ∧ w'.cell? ⟨gb, 2, none⟩ = some (.int .i64 (n : Int)) ∧ w'.cell? ⟨w.heap.size, 0, none⟩ = some (.int .i64 l.time) ∧ w'.cell? ⟨w.heap.size, 1, none⟩ = some (.int .i64 l.how) ∧ w'.cell? ⟨w.heap.size, 2, none⟩ = some (.string l.m) ∧ w'.cell? ⟨w.heap.size, 3, none⟩ = some (.string l.h) ∧ w'.cell? ⟨w.heap.size, 4, none⟩ = some (.string l.t) ∧ w'.cell? ⟨w.heap.size, 5, none⟩ = some (.int .i64 l.status) ∧ w'.cell? ⟨w.heap.size, 6, none⟩ = some (.int .i64 l.size)) (ds := [21]) #[O,O,O,O,O,O,O,O,O,O,O,O,O,O,O,O,O,O,O,O,O,O] (by kernel_rfl) rfl rfl ⟨by simpa using q0, by simpa using q1, by simpa using q2, by simpa using b0, by simpa using b1, by simpa using b2, by simpa using b3, by simpa using b4, by simpa using b5, by simpa using b6⟩ (fun hHeld => ?_)
  refine pure_ (i := 0) (N := some 46) (v := ?_) (a' := ?_) #[I,O,O,O,O,O,O,O,O,O,O,O,O,O,O,O,O,O,O,O,O,O] rfl rfl (by kernel_rfl) (fun _ _ _ h => h) (Or.inl ⟨by rfl, ?_⟩) ?_ ?_
  rotate_left
  · intro w'
    go_simp
    with_reducible rfl
  rotate_left
  · simp only [Act.put, List.setIfInBounds_toArray, List.set_cons_zero, List.set_cons_succ, i64_w, i32_w]
    rfl
  refine pure_ (i := 1) (N := some 47) (v := ?_) (a' := ?_) #[I,I,O,O,O,O,O,O,O,O,O,O,O,O,O,O,O,O,O,O,O,O] rfl rfl (by kernel_rfl) (fun _ _ _ h => h) (Or.inl ⟨by rfl, ?_⟩) ?_ ?_
  rotate_left
  · intro w'
    go_simp
    with_reducible rfl
  rotate_left
  · simp only [Act.put, List.setIfInBounds_toArray, List.set_cons_zero, List.set_cons_succ, i64_w, i32_w]
    rfl
  refine pure_ (i := 2) (N := some 48) (v := ?_) (a' := ?_) #[I,I,I,O,O,O,O,O,O,O,O,O,O,O,O,O,O,O,O,O,O,O] rfl rfl (by kernel_rfl) (fun _ _ _ h => h) (Or.inl ⟨by rfl, ?_⟩) ?_ ?_
  rotate_left
  · intro w'
    go_simp
    with_reducible rfl
  rotate_left
  · simp only [Act.put, List.setIfInBounds_toArray, List.set_cons_zero, List.set_cons_succ, i64_w, i32_w]
    rfl
  refine pure_ (i := 4) (N := some 50) (v := ?_) (a' := ?_) #[I,I,I,O,I,O,O,O,O,O,O,O,O,O,O,O,O,O,O,O,O,O] rfl rfl (by kernel_rfl) (fun _ _ _ h => h) (Or.inl ⟨by rfl, ?_⟩) ?_ ?_
  rotate_left
  · intro w'
    go_simp
    with_reducible rfl
  rotate_left
  · simp only [Act.put, List.setIfInBounds_toArray, List.set_cons_zero, List.set_cons_succ, i64_w, i32_w]
    rfl
  refine pure_ (i := 5) (N := some 51) (v := ?_) (a' := ?_) #[I,I,I,O,I,I,O,O,O,O,O,O,O,O,O,O,O,O,O,O,O,O] rfl rfl (by kernel_rfl) (fun _ _ _ h => h) (Or.inl ⟨by rfl, ?_⟩) ?_ ?_
  rotate_left
  · intro w'
    go_simp
    with_reducible rfl
  rotate_left
  · simp only [Act.put, List.setIfInBounds_toArray, List.set_cons_zero, List.set_cons_succ, i64_w, i32_w]
    rfl
  refine pure_ (i := 6) (N := some 52) (v := ?_) (a' := ?_) #[I,I,I,O,I,I,I,O,O,O,O,O,O,O,O,O,O,O,O,O,O,O] rfl rfl (by kernel_rfl) (fun _ _ _ h => h) (Or.inl ⟨by rfl, ?_⟩) ?_ ?_
  rotate_left
  · intro w'
    go_simp
    with_reducible rfl
  rotate_left
  · simp only [Act.put, List.setIfInBounds_toArray, List.set_cons_zero, List.set_cons_succ, i64_w, i32_w]
    rfl
  refine pure_ (i := 8) (N := some 54) (v := ?_) (a' := ?_) #[I,I,I,O,I,I,I,O,I,O,O,O,O,O,O,O,O,O,O,O,O,O] rfl rfl (by kernel_rfl) (fun _ _ _ h => h) (Or.inl ⟨by rfl, ?_⟩) ?_ ?_
  rotate_left
  · intro w'
    go_simp
    with_reducible rfl
  rotate_left
  · simp only [Act.put, List.setIfInBounds_toArray, List.set_cons_zero, List.set_cons_succ, i64_w, i32_w]
    rfl
  refine pure_ (i := 9) (N := some 55) (v := ?_) (a' := ?_) #[I,I,I,O,I,I,I,O,I,I,O,O,O,O,O,O,O,O,O,O,O,O] rfl rfl (by kernel_rfl) (fun _ _ _ h => h) (Or.inl ⟨by rfl, ?_⟩) ?_ ?_
  rotate_left
  · intro w'
    go_simp
    with_reducible rfl
  rotate_left
  · simp only [Act.put, List.setIfInBounds_toArray, List.set_cons_zero, List.set_cons_succ, i64_w, i32_w]
    rfl
  refine pure_ (i := 10) (N := some 56) (v := ?_) (a' := ?_) #[I,I,I,O,I,I,I,O,I,I,I,O,O,O,O,O,O,O,O,O,O,O] rfl rfl (by kernel_rfl) (fun _ _ _ h => h) (Or.inl ⟨by rfl, ?_⟩) ?_ ?_
  rotate_left
  · intro w'
    go_simp
    with_reducible rfl
  rotate_left
  · simp only [Act.put, List.setIfInBounds_toArray, List.set_cons_zero, List.set_cons_succ, i64_w, i32_w]
    rfl
  refine pure_ (i := 13) (N := some 59) (v := ?_) (a' := ?_) #[I,I,I,O,I,I,I,O,I,I,I,O,O,I,O,O,O,O,O,O,O,O] rfl rfl (by kernel_rfl) (fun _ _ _ h => h) (Or.inl ⟨by rfl, ?_⟩) ?_ ?_
  rotate_left
  · intro w'
    go_simp
    with_reducible rfl
  rotate_left
  · simp only [Act.put, List.setIfInBounds_toArray, List.set_cons_zero, List.set_cons_succ, i64_w, i32_w]
    rfl
  refine pure_ (i := 14) (N := some 60) (v := ?_) (a' := ?_) #[I,I,I,O,I,I,I,O,I,I,I,O,O,I,I,O,O,O,O,O,O,O] rfl rfl (by kernel_rfl) (fun _ _ _ h => h) (Or.inl ⟨by rfl, ?_⟩) ?_ ?_
  rotate_left
  · intro w'
    go_simp
    with_reducible rfl
  rotate_left
  · simp only [Act.put, List.setIfInBounds_toArray, List.set_cons_zero, List.set_cons_succ, i64_w, i32_w]
    rfl
  refine pure_ (i := 15) (N := some 61) (v := ?_) (a' := ?_) #[I,I,I,O,I,I,I,O,I,I,I,O,O,I,I,I,O,O,O,O,O,O] rfl rfl (by kernel_rfl) (fun _ _ _ h => h) (Or.inl ⟨by rfl, ?_⟩) ?_ ?_
  rotate_left
  · intro w'
    go_simp
    with_reducible rfl
  rotate_left
  · simp only [Act.put, List.setIfInBounds_toArray, List.set_cons_zero, List.set_cons_succ, i64_w, i32_w]
    rfl
  refine take_ (i := 3) (N := some 49) (v := ?_) (a' := ?_) #[I,I,I,I,I,I,I,O,I,I,I,O,O,I,I,I,O,O,O,O,O,O] rfl rfl (by kernel_rfl) (fun _ _ _ h => h) (Or.inl ⟨by rfl, ?_⟩) hHeld ?_ ?_
  rotate_left
  · rintro w' ⟨s0, s1, s2, s3, s4, s5, s6, s7, s8, s9⟩
    go_simp
    with_reducible rfl
  rotate_left
  · simp only [Act.put, List.setIfInBounds_toArray, List.set_cons_zero, List.set_cons_succ, i64_w, i32_w]
    rfl
  refine take_ (i := 7) (N := some 53) (v := ?_) (a' := ?_) #[I,I,I,I,I,I,I,I,I,I,I,O,O,I,I,I,O,O,O,O,O,O] rfl rfl (by kernel_rfl) (fun _ _ _ h => h) (Or.inl ⟨by rfl, ?_⟩) hHeld ?_ ?_
  rotate_left
  · rintro w' ⟨s0, s1, s2, s3, s4, s5, s6, s7, s8, s9⟩
    go_simp
    with_reducible rfl
  rotate_left
  · simp only [Act.put, List.setIfInBounds_toArray, List.set_cons_zero, List.set_cons_succ, i64_w, i32_w]
    rfl
  refine take_ (i := 11) (N := some 57) (v := ?_) (a' := ?_) #[I,I,I,I,I,I,I,I,I,I,I,I,O,I,I,I,O,O,O,O,O,O] rfl rfl (by kernel_rfl) (fun _ _ _ h => h) (Or.inl ⟨by rfl, ?_⟩) hHeld ?_ ?_
  rotate_left
  · rintro w' ⟨s0, s1, s2, s3, s4, s5, s6, s7, s8, s9⟩
    go_simp
    with_reducible rfl
  rotate_left
  · simp only [Act.put, List.setIfInBounds_toArray, List.set_cons_zero, List.set_cons_succ, i64_w, i32_w]
    rfl
  refine pure_ (i := 12) (N := some 58) (v := ?_) (a' := ?_) #[I,I,I,I,I,I,I,I,I,I,I,I,I,I,I,I,O,O,O,O,O,O] rfl rfl (by kernel_rfl) (fun _ _ _ h => h) (Or.inl ⟨by rfl, ?_⟩) ?_ ?_
  rotate_left
  · intro w'
    go_simp
    with_reducible rfl
  rotate_left
  · simp only [Act.put, List.setIfInBounds_toArray, List.set_cons_zero, List.set_cons_succ, i64_w, i32_w]
    rfl
  refine take_ (i := 16) (N := some 62) (v := ?_) (a' := ?_) #[I,I,I,I,I,I,I,I,I,I,I,I,I,I,I,I,I,O,O,O,O,O] rfl rfl (by kernel_rfl) (fun _ _ _ h => h) (Or.inl ⟨by rfl, ?_⟩) hHeld ?_ ?_
  rotate_left
  · rintro w' ⟨s0, s1, s2, s3, s4, s5, s6, s7, s8, s9⟩
    go_simp
    with_reducible rfl
  rotate_left
  · simp only [Act.put, List.setIfInBounds_toArray, List.set_cons_zero, List.set_cons_succ, i64_w, i32_w]
    rfl
  refine pure_ (i := 17) (N := some 63) (v := ?_) (a' := ?_) #[I,I,I,I,I,I,I,I,I,I,I,I,I,I,I,I,I,I,O,O,O,O] rfl rfl (by kernel_rfl) (fun _ _ _ h => h) (Or.inl ⟨by rfl, ?_⟩) ?_ ?_
  rotate_left
  · intro w'
    go_simp
    with_reducible rfl
  rotate_left
  · simp only [Act.put, List.setIfInBounds_toArray, List.set_cons_zero, List.set_cons_succ, i64_w, i32_w]
    rfl
  refine pure_ (i := 18) (N := some 64) (v := ?_) (a' := ?_) #[I,I,I,I,I,I,I,I,I,I,I,I,I,I,I,I,I,I,I,O,O,O] rfl rfl (by kernel_rfl) (fun _ _ _ h => h) (Or.inl ⟨by rfl, ?_⟩) ?_ ?_
  rotate_left
  · intro w'
    go_simp
    with_reducible rfl
  rotate_left
  · simp only [Act.put, List.setIfInBounds_toArray, List.set_cons_zero, List.set_cons_succ, i64_w, i32_w]
    rfl
  refine take_ (i := 19) (N := some 65) (v := ?_) (a' := ?_) #[I,I,I,I,I,I,I,I,I,I,I,I,I,I,I,I,I,I,I,I,O,O] rfl rfl (by kernel_rfl) (fun _ _ _ h => h) (Or.inl ⟨by rfl, ?_⟩) hHeld ?_ ?_
  rotate_left
  · rintro w' ⟨s0, s1, s2, s3, s4, s5, s6, s7, s8, s9⟩
    go_simp
    with_reducible rfl
  rotate_left
  · simp only [Act.put, List.setIfInBounds_toArray, List.set_cons_zero, List.set_cons_succ, i64_w, i32_w]
    rfl
  refine pure_ (i := 20) (N := some 66) (v := ?_) (a' := ?_) #[I,I,I,I,I,I,I,I,I,I,I,I,I,I,I,I,I,I,I,I,I,O] rfl rfl (by kernel_rfl) (fun _ _ _ h => h) (Or.inl ⟨by rfl, ?_⟩) ?_ ?_
  rotate_left
  · intro w'
    go_simp
    with_reducible rfl
  rotate_left
  · simp only [Act.put, List.setIfInBounds_toArray, List.set_cons_zero, List.set_cons_succ, i64_w, i32_w]
    rfl
  refine last_ (i := 21) (N := none) #[I,I,I,I,I,I,I,I,I,I,I,I,I,I,I,I,I,I,I,I,I,I] rfl rfl (by kernel_rfl) (by decide) (fun K hK => ?_)
  refine skip_ (w1 := ?_) (by rfl) rfl ?_ ?_
  rotate_left
  · refine run_store7 (l := l) (b := rb) (off := j * 7) (x := .tmp 66) (y := .tmp 65) ?_ ?_ ?_ ?_
    · rfl
    · rfl
    · rfl
    · simpa [World.there] using ht1
  refine hK.out _ _ ?_
  refine done_ (by kernel_rfl) ?_
--END
  have R5 := Lib.hid ((Ring.of_heap (w' := (w1.drewN nq).drew) R1.out rfl rfl).put j hjN l)
  have HB5 := Lib.hid (fun B (h1 : B ≤ gb) (h2 : B ≤ rb) hB => (below_drew (below_drewN (HB.out B hB) nq)).trans (below_cells h2 l.cells (j * 7) _))
  obtain ⟨w5, hw5⟩ : ∃ w5, (w1.drewN nq).drew.setCells rb (j * 7) l.cells = w5 := ⟨_, rfl⟩
  rw [hw5] at R5 HB5 ⊢
  clear hw5 q0 q1 q2 b0 b1 b2 b3 b4 b5 b6 ht1
  have p2 := R5.out.c2
  have pz := R5.out.f2
  clear hHeld e1 e2 e3 e4 e4' e7 e8 e5 j0 j1
  go_wp2_with fail
  go_end0
  refine ⟨rfl, ?_, ?_⟩
  · have := R5.out.cnt (n + 1)
    rw [hj]
    exact this.of_heap rfl rfl
  · intro B h1 h2 h3
    exact below_setCell (HB5.out B h1 h2 h3) _ h1 _
set_option maxRecDepth 100000 in
set_option maxHeartbeats 4000000 in
/-- The eldest goes. -/
theorem Log_Add.full (gb rb N at_ n : Nat) (L : Nat → Ln) (l : Ln) (w : World) (h : Ring w gb rb N at_ n L) (hn : n = N) (ha : at_ < N) :
    Calls Tryd.prog 12 #[.pointer (some ⟨gb, 0, none⟩), .agg l.cells.toArray] w fun e w' => e = .returned (.tuple #[]) ∧ Ring w' gb rb N ((at_ + 1) % N) n (put L at_ l) ∧ ∀ B, B ≤ gb → B ≤ rb → B ≤ w.heap.size → Below B w w' := by
  have hbig := h.big
  have hgl : gb < w.heap.size := World.block_lt_of_cell? w _ h.c0
  have c0 : ∀ o, (w.alloc o).cell? ⟨gb, 0, none⟩ = some (.slice (some ⟨rb, 0, none⟩) N N) := fun o => (World.cell?_alloc_lt _ _ ⟨gb, _, none⟩ hgl).trans h.c0
  have c1 : ∀ o, (w.alloc o).cell? ⟨gb, 1, none⟩ = some (.int .i64 (at_ : Int)) := fun o => (World.cell?_alloc_lt _ _ ⟨gb, _, none⟩ hgl).trans h.c1
  have c2 : ∀ o, (w.alloc o).cell? ⟨gb, 2, none⟩ = some (.int .i64 (n : Int)) := fun o => (World.cell?_alloc_lt _ _ ⟨gb, _, none⟩ hgl).trans h.c2
  have ht := h.th_at at_ ha
  have e1 : ((N : Int) == 0) = false := by simp; omega
  have e2 : decide ((n : Int) < (N : Int)) = false := decide_eq_false (by omega)
  have e8 : (N = 0) = False := eq_false (by omega)
  have e5 : ((N : Int) = 0) = False := eq_false (by omega)
  have j0 : (0 : Int) ≤ (at_ : Int) := by omega
  have j1 : (at_ : Int) < (N : Int) := by omega
  go_enter Tryd.func12, Tryd.ntmps12
  rw [show (l.cells.toArray : Array Value) = #[.int .i64 l.time, .int .i64 l.how, .string l.m, .string l.h, .string l.t, .int .i64 l.status, .int .i64 l.size] from rfl]
  obtain ⟨w1, hw1⟩ : ∃ w1, w.alloc (.cells #[.int .i64 l.time, .int .i64 l.how, .string l.m, .string l.h, .string l.t, .int .i64 l.status, .int .i64 l.size] 23) = w1 := ⟨_, rfl⟩
  have q0 := c0 (.cells #[.int .i64 l.time, .int .i64 l.how, .string l.m, .string l.h, .string l.t, .int .i64 l.status, .int .i64 l.size] 23)
  have q1 := c1 (.cells #[.int .i64 l.time, .int .i64 l.how, .string l.m, .string l.h, .string l.t, .int .i64 l.status, .int .i64 l.size] 23)
  have q2 := c2 (.cells #[.int .i64 l.time, .int .i64 l.how, .string l.m, .string l.h, .string l.t, .int .i64 l.status, .int .i64 l.size] 23)
  rw [hw1] at q0 q1 q2
  have b0 : w1.cell? ⟨w.heap.size, 0, none⟩ = some (.int .i64 l.time) := by rw [← hw1]; exact World.cell?_alloc_new ..
  have b1 : w1.cell? ⟨w.heap.size, 1, none⟩ = some (.int .i64 l.how) := by rw [← hw1]; exact World.cell?_alloc_new ..
  have b2 : w1.cell? ⟨w.heap.size, 2, none⟩ = some (.string l.m) := by rw [← hw1]; exact World.cell?_alloc_new ..
  have b3 : w1.cell? ⟨w.heap.size, 3, none⟩ = some (.string l.h) := by rw [← hw1]; exact World.cell?_alloc_new ..
  have b4 : w1.cell? ⟨w.heap.size, 4, none⟩ = some (.string l.t) := by rw [← hw1]; exact World.cell?_alloc_new ..
  have b5 : w1.cell? ⟨w.heap.size, 5, none⟩ = some (.int .i64 l.status) := by rw [← hw1]; exact World.cell?_alloc_new ..
  have b6 : w1.cell? ⟨w.heap.size, 6, none⟩ = some (.int .i64 l.size) := by rw [← hw1]; exact World.cell?_alloc_new ..
  have ht1 : w1.there rb (at_ * 7) 7 := hw1 ▸ World.there_alloc ht _
  clear ht c0 c1 c2
  have n0 : gb ≠ rb := h.ne
  have n1 : rb ≠ gb := fun e => n0 e.symm
  have R1 := Lib.hid (h.alloc (by omega) (.cells #[.int .i64 l.time, .int .i64 l.how, .string l.m, .string l.h, .string l.t, .int .i64 l.status, .int .i64 l.size] 23))
  have HB := Lib.hid (fun B (hB : B ≤ w.heap.size) => (Below.refl B w).alloc hB (.cells #[.int .i64 l.time, .int .i64 l.how, .string l.m, .string l.h, .string l.t, .int .i64 l.status, .int .i64 l.size] 23))
  rw [hw1] at R1 HB
  clear h
  go_wp2_with fail
  clear hw1
  go_quiet (fail)
  go_wp2_with fail
--REG 1
  refine start_ (n := 11) (S := fun w' => w'.cell? ⟨gb, 0, none⟩ = some (.slice (some ⟨rb, 0, none⟩) N N) ∧ w'.cell? ⟨gb, 1, none⟩ = some (.int .i64 (at_ : Int)) ∧ w'.cell? ⟨gb, 2, none⟩ = some (.int .i64 (n : Int)) ∧ w'.cell? ⟨w.heap.size, 0, none⟩ = some (.int .i64 l.time) ∧ w'.cell? ⟨w.heap.size, 1, none⟩ = some (.int .i64 l.how) ∧ w'.cell? ⟨w.heap.size, 2, none⟩ = some (.string l.m) ∧ w'.cell? ⟨w.heap.size, 3, none⟩ = some (.string l.h) ∧ w'.cell? ⟨w.heap.size, 4, none⟩ = some (.string l.t) ∧ w'.cell? ⟨w.heap.size, 5, none⟩ = some (.int .i64 l.status) ∧ w'.cell? ⟨w.heap.size, 6, none⟩ = some (.int .i64 l.size)) (ds := [10]) #[O,O,O,O,O,O,O,O,O,O,O] (by kernel_rfl) rfl rfl ⟨by simpa using q0, by simpa using q1, by simpa using q2, by simpa using b0, by simpa using b1, by simpa using b2, by simpa using b3, by simpa using b4, by simpa using b5, by simpa using b6⟩ (fun hHeld => ?_)
  refine pure_ (i := 0) (N := some 4) (v := ?_) (a' := ?_) #[I,O,O,O,O,O,O,O,O,O,O] rfl rfl (by kernel_rfl) (fun _ _ _ h => h) (Or.inl ⟨by rfl, ?_⟩) ?_ ?_
  rotate_left
  · intro w'
    go_simp
    with_reducible rfl
  rotate_left
  · simp only [Act.put, List.setIfInBounds_toArray, List.set_cons_zero, List.set_cons_succ, i64_w, i32_w]
    rfl
  refine pure_ (i := 1) (N := some 5) (v := ?_) (a' := ?_) #[I,I,O,O,O,O,O,O,O,O,O] rfl rfl (by kernel_rfl) (fun _ _ _ h => h) (Or.inl ⟨by rfl, ?_⟩) ?_ ?_
  rotate_left
  · intro w'
    go_simp
    with_reducible rfl
  rotate_left
  · simp only [Act.put, List.setIfInBounds_toArray, List.set_cons_zero, List.set_cons_succ, i64_w, i32_w]
    rfl
  refine pure_ (i := 2) (N := some 6) (v := ?_) (a' := ?_) #[I,I,I,O,O,O,O,O,O,O,O] rfl rfl (by kernel_rfl) (fun _ _ _ h => h) (Or.inl ⟨by rfl, ?_⟩) ?_ ?_
  rotate_left
  · intro w'
    go_simp
    with_reducible rfl
  rotate_left
  · simp only [Act.put, List.setIfInBounds_toArray, List.set_cons_zero, List.set_cons_succ, i64_w, i32_w]
    rfl
  refine pure_ (i := 4) (N := some 8) (v := ?_) (a' := ?_) #[I,I,I,O,I,O,O,O,O,O,O] rfl rfl (by kernel_rfl) (fun _ _ _ h => h) (Or.inl ⟨by rfl, ?_⟩) ?_ ?_
  rotate_left
  · intro w'
    go_simp
    with_reducible rfl
  rotate_left
  · simp only [Act.put, List.setIfInBounds_toArray, List.set_cons_zero, List.set_cons_succ, i64_w, i32_w]
    rfl
  refine pure_ (i := 5) (N := some 9) (v := ?_) (a' := ?_) #[I,I,I,O,I,I,O,O,O,O,O] rfl rfl (by kernel_rfl) (fun _ _ _ h => h) (Or.inl ⟨by rfl, ?_⟩) ?_ ?_
  rotate_left
  · intro w'
    go_simp
    with_reducible rfl
  rotate_left
  · simp only [Act.put, List.setIfInBounds_toArray, List.set_cons_zero, List.set_cons_succ, i64_w, i32_w]
    rfl
  refine pure_ (i := 6) (N := some 10) (v := ?_) (a' := ?_) #[I,I,I,O,I,I,I,O,O,O,O] rfl rfl (by kernel_rfl) (fun _ _ _ h => h) (Or.inl ⟨by rfl, ?_⟩) ?_ ?_
  rotate_left
  · intro w'
    go_simp
    with_reducible rfl
  rotate_left
  · simp only [Act.put, List.setIfInBounds_toArray, List.set_cons_zero, List.set_cons_succ, i64_w, i32_w]
    rfl
  refine take_ (i := 3) (N := some 7) (v := ?_) (a' := ?_) #[I,I,I,I,I,I,I,O,O,O,O] rfl rfl (by kernel_rfl) (fun _ _ _ h => h) (Or.inl ⟨by rfl, ?_⟩) hHeld ?_ ?_
  rotate_left
  · rintro w' ⟨s0, s1, s2, s3, s4, s5, s6, s7, s8, s9⟩
    go_simp
    with_reducible rfl
  rotate_left
  · simp only [Act.put, List.setIfInBounds_toArray, List.set_cons_zero, List.set_cons_succ, i64_w, i32_w]
    rfl
  refine take_ (i := 7) (N := some 11) (v := ?_) (a' := ?_) #[I,I,I,I,I,I,I,I,O,O,O] rfl rfl (by kernel_rfl) (fun _ _ _ h => h) (Or.inl ⟨by rfl, ?_⟩) hHeld ?_ ?_
  rotate_left
  · rintro w' ⟨s0, s1, s2, s3, s4, s5, s6, s7, s8, s9⟩
    go_simp
    with_reducible rfl
  rotate_left
  · simp only [Act.put, List.setIfInBounds_toArray, List.set_cons_zero, List.set_cons_succ, i64_w, i32_w]
    rfl
  refine take_ (i := 8) (N := some 12) (v := ?_) (a' := ?_) #[I,I,I,I,I,I,I,I,I,O,O] rfl rfl (by kernel_rfl) (fun _ _ _ h => h) (Or.inl ⟨by rfl, ?_⟩) hHeld ?_ ?_
  rotate_left
  · rintro w' ⟨s0, s1, s2, s3, s4, s5, s6, s7, s8, s9⟩
    go_simp
    with_reducible rfl
  rotate_left
  · simp only [Act.put, List.setIfInBounds_toArray, List.set_cons_zero, List.set_cons_succ, i64_w, i32_w]
    rfl
  refine pure_ (i := 9) (N := some 13) (v := ?_) (a' := ?_) #[I,I,I,I,I,I,I,I,I,I,O] rfl rfl (by kernel_rfl) (fun _ _ _ h => h) (Or.inl ⟨by rfl, ?_⟩) ?_ ?_
  rotate_left
  · intro w'
    go_simp
    with_reducible rfl
  rotate_left
  · simp only [Act.put, List.setIfInBounds_toArray, List.set_cons_zero, List.set_cons_succ, i64_w, i32_w]
    rfl
  refine last_ (i := 10) (N := none) #[I,I,I,I,I,I,I,I,I,I,I] rfl rfl (by kernel_rfl) (by decide) (fun K hK => ?_)
  refine skip_ (w1 := ?_) (by rfl) rfl ?_ ?_
  rotate_left
  · refine run_store7 (l := l) (b := rb) (off := at_ * 7) (x := .tmp 13) (y := .tmp 12) ?_ ?_ ?_ ?_
    · rfl
    · rfl
    · rfl
    · simpa [World.there] using ht1
  refine hK.out _ _ ?_
  refine done_ (by kernel_rfl) ?_
--END
  have R5 := Lib.hid ((Ring.of_heap (w' := (w1.drewN nq).drew) R1.out rfl rfl).put at_ ha l)
  have HB5 := Lib.hid (fun B (h1 : B ≤ gb) (h2 : B ≤ rb) hB => (below_drew (below_drewN (HB.out B hB) nq)).trans (below_cells h2 l.cells (at_ * 7) _))
  obtain ⟨w5, hw5⟩ : ∃ w5, (w1.drewN nq).drew.setCells rb (at_ * 7) l.cells = w5 := ⟨_, rfl⟩
  rw [hw5] at R5 HB5 ⊢
  clear hw5 q0 q1 q2 b0 b1 b2 b3 b4 b5 b6 ht1 hHeld e1 e2 j0 j1
  have q0 := R5.out.c0
  have q1 := R5.out.c1
  have pz := R5.out.f1
  have e6 : wrap64 ((at_ : Int) + 1) = (at_ : Int) + 1 := wr (by omega) (by omega)
  obtain ⟨j, hj⟩ : ∃ j, (at_ + 1) % N = j := ⟨_, rfl⟩
  have e7 : ((at_ : Int) + 1).tmod (N : Int) = (j : Int) := by rw [← hj]; exact Int.ofNat_tmod (at_ + 1) N
  go_wp2_with fail
--REG 2
  refine start_ (n := 15) (S := fun w' => w'.cell? ⟨gb, 0, none⟩ = some (.slice (some ⟨rb, 0, none⟩) N N) ∧ w'.cell? ⟨gb, 1, none⟩ = some (.int .i64 (at_ : Int))) (ds := [14]) #[O,O,O,O,O,O,O,O,O,O,O,O,O,O,O] (by kernel_rfl) rfl rfl ⟨by simpa using q0, by simpa using q1⟩ (fun hHeld => ?_)
  refine pure_ (i := 0) (N := some 14) (v := ?_) (a' := ?_) #[I,O,O,O,O,O,O,O,O,O,O,O,O,O,O] rfl rfl (by kernel_rfl) (fun _ _ _ h => h) (Or.inl ⟨by rfl, ?_⟩) ?_ ?_
  rotate_left
  · intro w'
    go_simp
    with_reducible rfl
  rotate_left
  · simp only [Act.put, List.setIfInBounds_toArray, List.set_cons_zero, List.set_cons_succ, i64_w, i32_w]
    rfl
  refine pure_ (i := 1) (N := some 15) (v := ?_) (a' := ?_) #[I,I,O,O,O,O,O,O,O,O,O,O,O,O,O] rfl rfl (by kernel_rfl) (fun _ _ _ h => h) (Or.inl ⟨by rfl, ?_⟩) ?_ ?_
  rotate_left
  · intro w'
    go_simp
    with_reducible rfl
  rotate_left
  · simp only [Act.put, List.setIfInBounds_toArray, List.set_cons_zero, List.set_cons_succ, i64_w, i32_w]
    rfl
  refine pure_ (i := 2) (N := some 16) (v := ?_) (a' := ?_) #[I,I,I,O,O,O,O,O,O,O,O,O,O,O,O] rfl rfl (by kernel_rfl) (fun _ _ _ h => h) (Or.inl ⟨by rfl, ?_⟩) ?_ ?_
  rotate_left
  · intro w'
    go_simp
    with_reducible rfl
  rotate_left
  · simp only [Act.put, List.setIfInBounds_toArray, List.set_cons_zero, List.set_cons_succ, i64_w, i32_w]
    rfl
  refine pure_ (i := 3) (N := some 17) (v := ?_) (a' := ?_) #[I,I,I,I,O,O,O,O,O,O,O,O,O,O,O] rfl rfl (by kernel_rfl) (fun _ _ _ h => h) (Or.inl ⟨by rfl, ?_⟩) ?_ ?_
  rotate_left
  · intro w'
    go_simp
    with_reducible rfl
  rotate_left
  · simp only [Act.put, List.setIfInBounds_toArray, List.set_cons_zero, List.set_cons_succ, i64_w, i32_w]
    rfl
  refine pure_ (i := 6) (N := some 20) (v := ?_) (a' := ?_) #[I,I,I,I,O,O,I,O,O,O,O,O,O,O,O] rfl rfl (by kernel_rfl) (fun _ _ _ h => h) (Or.inl ⟨by rfl, ?_⟩) ?_ ?_
  rotate_left
  · intro w'
    go_simp
    with_reducible rfl
  rotate_left
  · simp only [Act.put, List.setIfInBounds_toArray, List.set_cons_zero, List.set_cons_succ, i64_w, i32_w]
    rfl
  refine pure_ (i := 7) (N := some 21) (v := ?_) (a' := ?_) #[I,I,I,I,O,O,I,I,O,O,O,O,O,O,O] rfl rfl (by kernel_rfl) (fun _ _ _ h => h) (Or.inl ⟨by rfl, ?_⟩) ?_ ?_
  rotate_left
  · intro w'
    go_simp
    with_reducible rfl
  rotate_left
  · simp only [Act.put, List.setIfInBounds_toArray, List.set_cons_zero, List.set_cons_succ, i64_w, i32_w]
    rfl
  refine pure_ (i := 8) (N := some 22) (v := ?_) (a' := ?_) #[I,I,I,I,O,O,I,I,I,O,O,O,O,O,O] rfl rfl (by kernel_rfl) (fun _ _ _ h => h) (Or.inl ⟨by rfl, ?_⟩) ?_ ?_
  rotate_left
  · intro w'
    go_simp
    with_reducible rfl
  rotate_left
  · simp only [Act.put, List.setIfInBounds_toArray, List.set_cons_zero, List.set_cons_succ, i64_w, i32_w]
    rfl
  refine take_ (i := 4) (N := some 18) (v := ?_) (a' := ?_) #[I,I,I,I,I,O,I,I,I,O,O,O,O,O,O] rfl rfl (by kernel_rfl) (fun _ _ _ h => h) (Or.inl ⟨by rfl, ?_⟩) hHeld ?_ ?_
  rotate_left
  · rintro w' ⟨s0, s1⟩
    go_simp
    with_reducible rfl
  rotate_left
  · simp only [Act.put, List.setIfInBounds_toArray, List.set_cons_zero, List.set_cons_succ, i64_w, i32_w]
    rfl
  refine pure_ (i := 5) (N := some 19) (v := ?_) (a' := ?_) #[I,I,I,I,I,I,I,I,I,O,O,O,O,O,O] rfl rfl (by kernel_rfl) (fun _ _ _ h => h) (Or.inl ⟨by rfl, ?_⟩) ?_ ?_
  rotate_left
  · intro w'
    go_simp
    with_reducible rfl
  rotate_left
  · simp only [Act.put, List.setIfInBounds_toArray, List.set_cons_zero, List.set_cons_succ, i64_w, i32_w]
    rfl
  refine take_ (i := 9) (N := some 23) (v := ?_) (a' := ?_) #[I,I,I,I,I,I,I,I,I,I,O,O,O,O,O] rfl rfl (by kernel_rfl) (fun _ _ _ h => h) (Or.inl ⟨by rfl, ?_⟩) hHeld ?_ ?_
  rotate_left
  · rintro w' ⟨s0, s1⟩
    go_simp
    with_reducible rfl
  rotate_left
  · simp only [Act.put, List.setIfInBounds_toArray, List.set_cons_zero, List.set_cons_succ, i64_w, i32_w]
    rfl
  refine pure_ (i := 10) (N := some 24) (v := ?_) (a' := ?_) #[I,I,I,I,I,I,I,I,I,I,I,O,O,O,O] rfl rfl (by kernel_rfl) (fun _ _ _ h => h) (Or.inl ⟨by rfl, ?_⟩) ?_ ?_
  rotate_left
  · intro w'
    go_simp
    with_reducible rfl
  rotate_left
  · simp only [Act.put, List.setIfInBounds_toArray, List.set_cons_zero, List.set_cons_succ, i64_w, i32_w]
    rfl
  refine pure_ (i := 11) (N := some 25) (v := ?_) (a' := ?_) #[I,I,I,I,I,I,I,I,I,I,I,I,O,O,O] rfl rfl (by kernel_rfl) (fun _ _ _ h => h) (Or.inl ⟨by rfl, ?_⟩) ?_ ?_
  rotate_left
  · intro w'
    go_simp
    with_reducible rfl
  rotate_left
  · simp only [Act.put, List.setIfInBounds_toArray, List.set_cons_zero, List.set_cons_succ, i64_w, i32_w]
    rfl
  refine pure_ (i := 12) (N := some 26) (v := ?_) (a' := ?_) #[I,I,I,I,I,I,I,I,I,I,I,I,I,O,O] rfl rfl (by kernel_rfl) (fun _ _ _ h => h) (Or.inl ⟨by rfl, ?_⟩) ?_ ?_
  rotate_left
  · intro w'
    go_simp
    with_reducible rfl
  rotate_left
  · simp only [Act.put, List.setIfInBounds_toArray, List.set_cons_zero, List.set_cons_succ, i64_w, i32_w]
    rfl
  refine pure_ (i := 13) (N := some 27) (v := ?_) (a' := ?_) #[I,I,I,I,I,I,I,I,I,I,I,I,I,I,O] rfl rfl (by kernel_rfl) (fun _ _ _ h => h) (Or.inl ⟨by rfl, ?_⟩) ?_ ?_
  rotate_left
  · intro w'
    go_simp
    with_reducible rfl
  rotate_left
  · simp only [Act.put, List.setIfInBounds_toArray, List.set_cons_zero, List.set_cons_succ, i64_w, i32_w]
    rfl
  refine last_ (i := 14) (N := none) #[I,I,I,I,I,I,I,I,I,I,I,I,I,I,I] rfl rfl (by kernel_rfl) (by decide) (fun K hK => ?_)
  refine skip_ (w1 := ?_) (by rfl) rfl ?_ ?_
  rotate_left
  · go_simp
    rfl
  refine hK.out _ _ ?_
  refine done_ (by kernel_rfl) ?_
--END
  clear hHeld
  go_wp2_with fail
  go_end0
  refine ⟨rfl, ?_, ?_⟩
  · have := R5.out.turn j
    rw [hj]
    exact this.of_heap rfl rfl
  · intro B h1 h2 h3
    exact below_setCell (below_drew (HB5.out B h1 h2 h3)) _ h1 _
end Go.Proofs.YtcdbnphhoihldaaDoor.X
/- The log, second part: New, slices.Grow, slices.Concat. -/
namespace Go.Proofs.YtcdbnphhoihldaaDoor.X
open Go.RowKit Go.Proofs.YtcdbnphhoihldaaDoorW.PrintWords Go.Proofs.YtcdbnphhoihldaaDoorW.PrintLast Go.Proofs.YtcdbnphhoihldaaDoorW.PrintMore
attribute [local go_sem] max2_int min2_int max_two min_two max_three min_three max_four min_four
set_option linter.unusedVariables false
set_option linter.unusedSimpArgs false

def zeroLn : Ln := ⟨0, 0, ⟨#[]⟩, ⟨#[]⟩, ⟨#[]⟩, 0, 0⟩
theorem info_line : (Tryd.prog.info? 23).map (fun i => (i.zero, i.size, i.bytes)) = some (some (.agg zeroLn.cells.toArray), 7, 80) := by kernel_rfl
theorem made_at (N j i : Nat) (hj : j < N) (hi : i < 7) : (madeCells zeroLn.cells.toArray (N * 7))[j * 7 + i]? = zeroLn.cells[i]? := by
  have h1 : j * 7 + i < N * 7 := by omega
  have h2 : (j * 7 + i) % 7 = i := by omega
  have h3 : zeroLn.cells.toArray.size = 7 := rfl
  simp only [madeCells, Array.getElem?_map, Array.getElem?_range, h1, if_true, Option.map_some, h3, h2]
  match i, hi with
  | 0, _ | 1, _ | 2, _ | 3, _ | 4, _ | 5, _ | 6, _ => rfl
  | i + 7, h => omega
theorem ring_new {w w1 : World} {N : Nat} (hN : N ≤ 200) (hown : w1.ownsRow w.heap.size 23 7 (.slice (some ⟨w.heap.size, 0, none⟩) N N) N (madeCells zeroLn.cells.toArray (N * 7)).toList) :
    Ring (w1.alloc (.cells #[.slice (some ⟨w.heap.size, 0, none⟩) N N, .int .i64 0, .int .i64 0] 58)) w1.heap.size w.heap.size N 0 0 (fun _ => zeroLn) := by
  rcases hown.2 with ⟨h, _⟩ | ⟨g, cap, cur, h, _, hg, _, _, hs, ht⟩
  · cases h
  · simp only [Value.slice.injEq, Option.some.injEq, Addr.mk.injEq, and_true, true_and] at h
    obtain ⟨rfl, rfl⟩ := h
    have hl : w.heap.size < w1.heap.size := by
      have := (Array.getElem?_eq_some_iff.1 hg).1
      exact this
    have hc : cur.toList = (madeCells zeroLn.cells.toArray (N * 7)).toList := by rw [← ht, List.take_of_length_le (by rw [Array.length_toList, hs]; exact Nat.le_refl _)]
    have hc' : cur = madeCells zeroLn.cells.toArray (N * 7) := by
      apply Array.ext'
      exact hc
    have hb : (w1.alloc (.cells #[.slice (some ⟨w.heap.size, 0, none⟩) N N, .int .i64 0, .int .i64 0] 58)).heap[w.heap.size]? = some (.cells cur 23 (0, 0)) :=
      (((Below.refl w1.heap.size w1).alloc (Nat.le_refl _) _).block _ hl).trans hg
    refine ⟨fun e => by omega, hN, World.cell?_alloc_new .., World.cell?_alloc_new .., World.cell?_alloc_new .., ?_, ?_, fun i hi => ?_, fun j hj i v hv => ?_⟩
    · exact frozen_of_row _ _ _ _ _ (heap_alloc_new w1 _)
    · exact frozen_of_row _ _ _ _ _ (heap_alloc_new w1 _)
    · rw [cell_of_row _ _ _ _ _ _ hb, frozen_of_row _ _ _ _ _ hb]
      refine ⟨?_, rfl⟩
      rw [Array.getElem?_eq_getElem (by omega)]
      rfl
    · have hi7 : i < 7 := (List.getElem?_eq_some_iff.1 hv).1
      rw [cell_of_row _ _ _ _ _ _ hb, hc', made_at N j i hj hi7]
      exact hv

set_option maxRecDepth 100000 in
set_option maxHeartbeats 4000000 in
theorem Log_New.calls (most : Int) (N : Nat) (w : World) (hN : (if 200 < (if most < 0 then 0 else most) then 200 else (if most < 0 then 0 else most)) = (N : Int)) :
    Calls Tryd.prog 11 #[.int .i64 most] w fun e w' => ∃ gb rb, e = .returned (.pointer (some ⟨gb, 0, none⟩)) ∧ w.heap.size ≤ gb ∧ w.heap.size ≤ rb ∧ Ring w' gb rb N 0 0 (fun _ => zeroLn) ∧ Below w.heap.size w w' := by
  obtain ⟨i, hi, hz0, hz1, hz2⟩ := info_parts info_line
  obtain ⟨m1, hm1⟩ : ∃ m : Int, (if most < 0 then 0 else most) = m := ⟨_, rfl⟩
  rw [hm1] at hN
  have hN2 : N ≤ 200 := by
    split at hN <;> omega
  go_enter Tryd.func11, Tryd.ntmps11
  go_wp2_with (at_make; refine wpList_make_full _ rfl _ _ 34 rfl w.heap.size 23 i _ 7 Tryd.underlying34 hi hz0 hz1 .i64 .i64 _ _ N rfl rfl (by first | rfl | exact hN | simpa [mx, mn, hm1] using hN) (by first | rfl | exact hN | simpa [mx, mn, hm1] using hN) (by rw [hz2]; omega) (by unfold maxLen; omega) (Nat.le_refl _) ?_)
  intro w1 hown hgrow
  have hsz := hgrow.size
  go_wp2_with fail
  go_ret
  refine ⟨_, _, rfl, hsz, Nat.le_refl _, ring_new hN2 hown, ?_⟩
  have hb : Below w.heap.size w w1 := ⟨hgrow.os, hgrow.tape, hgrow.output, hgrow.size, fun k hk => hgrow.block k hk (by simp)⟩
  exact hb.alloc hsz _

theorem own_nil {w : World} {cap : Nat} {cur : Array Value} {g : Nat} (hg : w.heap[g]? = some (.cells cur 23 (0, 0))) (hs : cur.size = cap * 7) (hm : cap ≤ maxLen) :
    w.ownsRow g 23 7 (.slice (some ⟨g, 0, none⟩) 0 cap) 0 [] :=
  ⟨rfl, .inr ⟨g, cap, cur, rfl, Nat.le_refl _, hg, Nat.zero_le _, hm, hs, by simp⟩⟩
theorem size_zeros (n : Nat) : (Builtin.zeroCells zeroLn.cells.toArray n).size = n * 7 := by
  rw [size_zeroCells]
  rfl
set_option maxRecDepth 100000 in
set_option maxHeartbeats 4000000 in
theorem Grow.calls (n : Nat) (h0 : 0 < n) (h1 : n ≤ 400) (w : World) :
    Calls Tryd.prog 56 #[.slice none 0 0, .int .i64 (n : Int)] w fun e w' => ∃ cap, e = .returned (.slice (some ⟨w.heap.size, 0, none⟩) 0 cap) ∧ n ≤ cap ∧ w'.ownsRow w.heap.size 23 7 (.slice (some ⟨w.heap.size, 0, none⟩) 0 cap) 0 [] ∧ w.grownBy w' none := by
  obtain ⟨i, hi, hz0, hz1, hz2⟩ := info_parts info_line
  have h := Lib.run_append_nil_zeros (P := Tryd.prog) w 34 3 34 23 i _ .i64 .i64 Tryd.underlying34 Tryd.underlying3 hi hz0 n h0 (by omega) (by omega) (by rw [hz2]; omega)
  obtain ⟨cap, hcap⟩ : ∃ cap, grownCap w n 0 23 = cap := ⟨_, rfl⟩
  have hge := grownCap_ge w n 0 23
  have hle := grownCap_le_maxLen w n 0 23 (by unfold maxLen; omega)
  rw [hcap] at h hge hle
  have e1 : decide ((n : Int) < 0) = false := decide_eq_false (by omega)
  have e2 : decide ((n : Int) > 0) = true := decide_eq_true (by omega)
  have e3 : wrap64 (n : Int) = (n : Int) := wr (by omega) (by omega)
  have e4 : (n : Int) - 0 = (n : Int) := by omega
  go_enter Tryd.func56, Tryd.ntmps56
  go_wp2_with (at_builtin; refine Lib.wpList_append_run _ rfl _ _ _ _ rfl _ _ rfl rfl _ _ h ?_)
  go_ret
  refine ⟨cap, rfl, hge, own_nil (heap_alloc_new w.drew _) ?_ hle, ⟨rfl, rfl, rfl, by simp, fun k hk _ => ((Below.refl w.heap.size w.drew).alloc (Nat.le_refl _) _).block k hk⟩⟩
  rw [Array.size_append, size_zeros, size_zeros]
  omega

theorem grown_below {w w' : World} {r : Option Nat} (h : w.grownBy w' r) {B : Nat} (hB : B ≤ w.heap.size) (hr : ∀ g, r = some g → B ≤ g) : Below B w w' :=
  ⟨h.os, h.tape, h.output, h.size, fun k hk => h.block k (by omega) (fun e => by have := hr k e.symm; omega)⟩
theorem cell_grown {w w' : World} {g : Nat} (h : w.grownBy w' (some g)) {b o : Nat} {v : Value} (hc : w.cell? ⟨b, o, none⟩ = some v) (hb : b ≠ g) : w'.cell? ⟨b, o, none⟩ = some v :=
  (World.cell?_of_block (h.block b (World.block_lt_of_cell? w _ hc) (fun e => hb (Option.some.inj e)))).trans hc
/-- A slice's cells. -/
structure Part (w : World) (a : Option Addr) (m c : Nat) (news : List Value) : Prop where
  len : news.length = m * 7
  one : ∀ v ∈ news, v.oneCell' = true
  non : a = none → m = 0 ∧ c = 0
  at_ : ∀ ad, a = some ad → ∀ j u, news[j]? = some u → w.cell? (ad.add j) = some u
theorem Part.below {w w' : World} {a : Option Addr} {m c : Nat} {news : List Value} (h : Part w a m c news) (hb : Below w.heap.size w w') : Part w' a m c news :=
  ⟨h.len, h.one, h.non, fun ad e j u hu => by
    have h1 := h.at_ ad e j u hu
    have e2 : (ad.add j).block < w.heap.size := World.block_lt_of_cell? w _ h1
    exact (World.cell?_of_block (hb.block _ e2)).trans h1⟩

set_option maxRecDepth 100000 in
set_option maxHeartbeats 4000000 in
theorem Concat.calls (hb m1 c1 m2 c2 : Nat) (a1 a2 : Option Addr) (n1 n2 : List Value) (w : World) (p1 : Part w a1 m1 c1 n1) (p2 : Part w a2 m2 c2 n2) (h0 : 0 < m1 + m2) (h9 : m1 + m2 ≤ 400)
    (s1 : w.cell? ⟨hb, 0, none⟩ = some (.slice a1 m1 c1)) (s2 : w.cell? ⟨hb, 1, none⟩ = some (.slice a2 m2 c2)) :
    Calls Tryd.prog 32 #[.slice (some ⟨hb, 0, none⟩) 2 2] w fun e w' => ∃ g cap, e = .returned (.slice (some ⟨g, 0, none⟩) (m1 + m2) cap) ∧ w'.ownsRow w.heap.size 23 7 (.slice (some ⟨g, 0, none⟩) (m1 + m2) cap) (m1 + m2) (n1 ++ n2) ∧ Below w.heap.size w w' := by
  obtain ⟨i, hi, hz0, hz1, hz2⟩ := info_parts info_line
  have hbl := World.block_lt_of_cell? w _ s1
  have d0 : decide ((m1 : Int) < 0) = false := decide_eq_false (by omega)
  have d1 : decide ((m1 : Int) + m2 < 0) = false := decide_eq_false (by omega)
  have d2 : ((m1 : Int) < 0) = False := eq_false (by omega)
  have d3 : ((m1 : Int) + m2 < 0) = False := eq_false (by omega)
  have e1 : wrap64 (m1 : Int) = (m1 : Int) := wr (by omega) (by omega)
  have e2 : wrap64 ((m1 : Int) + m2) = (m1 : Int) + m2 := wr (by omega) (by omega)
  have Cg := Lib.hid (fun W => Grow.calls (m1 + m2) h0 h9 W)
  rw [show ((m1 + m2 : Nat) : Int) = (m1 : Int) + m2 from by omega] at Cg
  have HP1 := Lib.hid p1
  have HP2 := Lib.hid p2
  clear p1 p2
  go_enter Tryd.func32, Tryd.ntmps32
  go_wp2_with fail
  refine wp_loop_rounds 3 ?_
  rw [rounds_succ]
  go_wp2_with fail
  rw [rounds_succ]
  go_wp2_with fail
  rw [rounds_succ]
  go_wp2_with fail
  refine (Cg.out _).mono ?_
  rintro e w1 ⟨cap, rfl, hcap, hown, hgr⟩
  have hb1 := grown_below hgr (Nat.le_refl _) (by simp)
  have r1 := pw_cell_below hb1 s1
  have r2 := pw_cell_below hb1 s2
  have HB1 := Lib.hid hb1
  have P1 := Lib.hid (HP1.out.below hb1)
  have HO := Lib.hid hown
  clear hb1 hown hgr
  go_wp2_with fail
  refine wp_loop_rounds 3 ?_
  rw [rounds_succ]
  go_wp2_with (at_builtin; refine wpList_append_fits_any _ rfl _ _ 34 rfl w.heap.size 23 i 7 Tryd.underlying34 hi hz1 w.heap.size 0 cap [] rfl HO.out a1 m1 c1 n1 rfl P1.out.len P1.out.non P1.out.at_ P1.out.one (by omega) ?_)
  intro w2 hown2 hgr2
  have hne : hb ≠ w.heap.size := by omega
  have q2 := cell_grown hgr2 r2 hne
  have HB2 := Lib.hid (HB1.out.trans (grown_below hgr2 HB1.out.size (fun g e => by obtain rfl := Option.some.inj e; exact Nat.le_refl _)))
  have P2 := Lib.hid (HP2.out.below HB2.out)
  have HO2 := Lib.hid hown2
  have hgs := hgr2.size
  clear hown2 r1 r2 hgr2
  go_wp2_with fail
  rw [rounds_succ]
  go_wp2_with (at_builtin; refine wpList_append_fits_any _ rfl _ _ 34 rfl w.heap.size 23 i 7 Tryd.underlying34 hi hz1 w.heap.size m1 cap n1 rfl HO2.out a2 m2 c2 n2 rfl P2.out.len P2.out.non P2.out.at_ P2.out.one (by omega) ?_)
  intro w3 hown3 hgr3
  have HB3 := HB2.out.trans (grown_below hgr3 HB2.out.size (fun g e => by obtain rfl := Option.some.inj e; exact Nat.le_refl _))
  have HO3 := Lib.hid hown3
  have HB3 := Lib.hid HB3
  clear hown3 hgr3
  go_wp2_with fail
  rw [rounds_succ]
  go_wp2_with fail
  go_ret
  exact ⟨_, cap, rfl, HO3.out, HB3.out⟩
end Go.Proofs.YtcdbnphhoihldaaDoor.X
/- The log, third part: Last. -/
namespace Go.Proofs.YtcdbnphhoihldaaDoor.X
open Go.RowKit Go.Proofs.YtcdbnphhoihldaaDoorW.PrintWords Go.Proofs.YtcdbnphhoihldaaDoorW.PrintLast Go.Proofs.YtcdbnphhoihldaaDoorW.PrintMore
attribute [local go_sem] max2_int min2_int max_two min_two max_three min_three max_four min_four
set_option linter.unusedVariables false
set_option linter.unusedSimpArgs false

/-- The cells of k lines from a on. -/
def flat (L : Nat → Ln) (a k : Nat) : List Value := (List.range k).flatMap fun i => (L (a + i)).cells
theorem flat_succ (L : Nat → Ln) (a k : Nat) : flat L a (k + 1) = flat L a k ++ (L (a + k)).cells := by simp [flat, List.range_succ, List.flatMap_append]
theorem flat_len (L : Nat → Ln) (a k : Nat) : (flat L a k).length = k * 7 := by
  induction k with
  | zero => rfl
  | succ k ih => rw [flat_succ, List.length_append, ih, Ln.len]; omega
theorem flat_at (L : Nat → Ln) (a k i j : Nat) (hi : i < k) (hj : j < 7) : (flat L a k)[i * 7 + j]? = (L (a + i)).cells[j]? := by
  induction k with
  | zero => omega
  | succ k ih =>
    rw [flat_succ]
    by_cases h : i < k
    · rw [List.getElem?_append_left (by rw [flat_len]; omega)]
      exact ih h
    · obtain rfl : i = k := by omega
      rw [List.getElem?_append_right (by rw [flat_len]; omega), flat_len]
      congr 1
      omega
theorem flat_one (L : Nat → Ln) (a k : Nat) : ∀ v ∈ flat L a k, v.oneCell' = true := by
  intro v hv
  obtain ⟨i, _, h⟩ := List.mem_flatMap.1 hv
  exact (L (a + i)).one v h
theorem Ring.part {w : World} {gb rb N at_ n : Nat} {L : Nat → Ln} (h : Ring w gb rb N at_ n L) (a k c : Nat) (hk : a + k ≤ N) : Part w (some ⟨rb, a * 7, none⟩) k c (flat L a k) :=
  ⟨flat_len L a k, flat_one L a k, by simp, fun ad e i u hu => by
    obtain rfl := Option.some.inj e
    have hi : i < k * 7 := by have := (List.getElem?_eq_some_iff.1 hu).1; rwa [flat_len] at this
    have e1 : i = i / 7 * 7 + i % 7 := by omega
    rw [e1, flat_at L a k (i / 7) (i % 7) (by omega) (by omega)] at hu
    have := h.el (a + i / 7) (by omega) (i % 7) u hu
    rw [Addr.add_mid, show a * 7 + i = (a + i / 7) * 7 + i % 7 by omega]
    exact this⟩

set_option maxRecDepth 100000 in
set_option maxHeartbeats 4000000 in
theorem Log_Last.none_ (gb rb N at_ n : Nat) (L : Nat → Ln) (x : Int) (w : World) (h : Ring w gb rb N at_ n L) (hm : (if (n : Int) < (if x < 0 then 0 else x) then (n : Int) else (if x < 0 then 0 else x)) = 0) :
    Calls Tryd.prog 13 #[.pointer (some ⟨gb, 0, none⟩), .int .i64 x] w fun e w' => e = .returned (.slice none 0 0) ∧ w' = w := by
  have c2 := h.c2
  obtain ⟨m1, hm1⟩ : ∃ m : Int, (if x < 0 then 0 else x) = m := ⟨_, rfl⟩
  rw [hm1] at hm
  go_enter Tryd.func13, Tryd.ntmps13
  go_wp2_with fail
  go_ret
  exact ⟨rfl, rfl⟩

set_option maxRecDepth 100000 in
set_option maxHeartbeats 4000000 in
theorem Log_Last.some_ (gb rb N at_ n m f e r : Nat) (L : Nat → Ln) (x : Int) (w : World) (h : Ring w gb rb N at_ n L) (hm : (if (n : Int) < (if x < 0 then 0 else x) then (n : Int) else (if x < 0 then 0 else x)) = (m : Int))
    (h0 : 0 < m) (hn : n ≤ N) (ha : at_ < N) (hf : (at_ + n - m) % N = f) (he : (if N < f + m then N else f + m) = e) (hr : f + m - e = r) :
    Calls Tryd.prog 13 #[.pointer (some ⟨gb, 0, none⟩), .int .i64 x] w fun e' w' => ∃ g cap, e' = .returned (.slice (some ⟨g, 0, none⟩) m cap) ∧ (∀ i v, (flat L f (e - f) ++ flat L 0 r)[i]? = some v → w'.cell? ⟨g, i, none⟩ = some v) ∧ Below w.heap.size w w' := by
  have hbig := h.big
  obtain ⟨m1, hm1⟩ : ∃ m : Int, (if x < 0 then 0 else x) = m := ⟨_, rfl⟩
  rw [hm1] at hm
  have hmn : m ≤ n := by split at hm <;> omega
  have hfN : f < N := hf ▸ Nat.mod_lt _ (by omega)
  have hef : f < e ∧ e ≤ N ∧ e ≤ f + m ∧ r + e = f + m ∧ r ≤ N := by split at he <;> omega
  have Cc : ∀ W, Below w.heap.size w W → W.cell? ⟨w.heap.size, 0, none⟩ = some (.slice (some ⟨rb, f * 7, none⟩) (e - f) (e - f)) → W.cell? ⟨w.heap.size, 1, none⟩ = some (.slice (some ⟨rb, 0, none⟩) r r) →
      Calls Tryd.prog 32 #[.slice (some ⟨w.heap.size, 0, none⟩) 2 2] W fun e' w' => ∃ g cap, e' = .returned (.slice (some ⟨g, 0, none⟩) m cap) ∧ (∀ i v, (flat L f (e - f) ++ flat L 0 r)[i]? = some v → w'.cell? ⟨g, i, none⟩ = some v) ∧ Below w.heap.size w w' := by
    intro W hW s1 s2
    have hs := hW.size
    have e1 : e - f + r = m := by clear hf he hm; omega
    have p2 := (h.part 0 r r (by omega)).below hW
    rw [Nat.zero_mul] at p2
    refine (Concat.calls w.heap.size (e - f) (e - f) r r _ _ _ _ W ((h.part f (e - f) (e - f) (by omega)).below hW) p2 (by omega) (by omega) s1 s2).mono ?_
    rintro e' w' ⟨g, cap, rfl, hown, hb⟩
    rw [e1] at hown ⊢
    refine ⟨g, cap, rfl, fun i v hv => ?_, hW.trans ⟨hb.os, hb.tape, hb.output, hb.size, fun k hk => hb.block k (by omega)⟩⟩
    have hi := (List.getElem?_eq_some_iff.1 hv).1
    rw [hown.1] at hi
    rw [World.ownsRow.cellAt hown i hi]
    exact hv
  have Cc := Lib.hid Cc
  have c0 := h.c0
  have c1 := h.c1
  have c2 := h.c2
  have k3 : ((at_ : Int) + n - m).tmod (N : Int) = (f : Int) := by
    have e1 : (at_ : Int) + n - m = ((at_ + n - m : Nat) : Int) := by clear hf he hm hr; omega
    rw [← hf, e1]
    exact Int.ofNat_tmod _ _
  have k5 : (if (N : Int) < (f : Int) + m then (N : Int) else (f : Int) + m) = (e : Int) := by
    clear hf hm hr k3
    split at he <;> (split <;> omega)
  have HM := Lib.hid hm
  have er : (f : Int) + m - e = (r : Int) := by clear hf hm he k3 k5; omega
  clear hf he hm hr
  have HF := Lib.hid (And.intro k3 k5)
  clear k3 k5
  have b1 : (0 : Int) ≤ (f : Int) := by omega
  have b2 : (f : Int) ≤ (e : Int) := by omega
  have b3 : (e : Int) ≤ (N : Int) := by omega
  have b4 : (0 : Int) ≤ (r : Int) := by omega
  have b5 : (r : Int) ≤ (N : Int) := by omega
  have b7 : e ≤ N := by omega
  have b8 : f ≤ e := by omega
  have b9 : r ≤ N := by omega
  have k1 : wrap64 ((at_ : Int) + n) = (at_ : Int) + n := wr (x := (at_ : Int) + n) (by omega) (by omega)
  have k2 : wrap64 ((at_ : Int) + n - m) = (at_ : Int) + n - m := wr (x := (at_ : Int) + n - m) (by omega) (by omega)
  have k4 : wrap64 ((f : Int) + m) = (f : Int) + m := wr (x := (f : Int) + m) (by omega) (by omega)
  have k6 : wrap64 ((f : Int) + m - e) = (r : Int) := by rw [er]; exact wr (x := (r : Int)) (by omega) (by omega)
  have k7 : ((m : Int) = 0) = False := eq_false (by clear k1 k2 k4 k6 er; omega)
  have k8 : ((N : Int) = 0) = False := eq_false (by clear k1 k2 k4 k6 k7 er; omega)
  have k9 : (N = 0) = False := eq_false (by clear k1 k2 k4 k6 k7 k8 er; omega)
  have k10 : (m = 0) = False := eq_false (by clear k1 k2 k4 k6 k7 k8 k9 er; omega)
  have k11 : ((m : Int) == 0) = false := beq_eq_false_iff_ne.2 (by clear k1 k2 k4 k6 k7 k8 k9 k10 er; omega)
  have k12 : (m == 0) = false := beq_eq_false_iff_ne.2 (by clear k1 k2 k4 k6 k7 k8 k9 k10 k11 er; omega)
  have b6 : (e = f) = False := eq_false (by clear k1 k2 k4 k6 k7 k8 k9 k10 k11 k12 er; omega)
  have HR := Lib.hid h
  have HE := Lib.hid (And.intro hef (And.intro h0 hmn))
  have hm := HM.out
  obtain ⟨k3, k5⟩ := HF.out
  clear h hef hfN hmn hn ha h0 er
  go_enter Tryd.func13, Tryd.ntmps13
  go_wp2_with fail
  go_quiet (fail)
  go_wp2_with fail
--REG 8
  refine start_ (n := 18) (S := fun w' => w'.cell? ⟨gb, 0, none⟩ = some (.slice (some ⟨rb, 0, none⟩) N N)) (ds := [15, 16]) #[O,O,O,O,O,O,O,O,O,O,O,O,O,O,O,O,O,O] (by kernel_rfl) rfl rfl (by simpa using c0) (fun hHeld => ?_)
  refine pure_ (i := 0) (N := some 46) (v := ?_) (a' := ?_) #[I,O,O,O,O,O,O,O,O,O,O,O,O,O,O,O,O,O] rfl rfl (by kernel_rfl) (fun _ _ _ h => h) (Or.inl ⟨by rfl, ?_⟩) ?_ ?_
  rotate_left
  · intro w'
    go_simp
    with_reducible rfl
  rotate_left
  · simp only [Act.put, List.setIfInBounds_toArray, List.set_cons_zero, List.set_cons_succ, i64_w, i32_w]
    rfl
  refine pure_ (i := 1) (N := some 47) (v := ?_) (a' := ?_) #[I,I,O,O,O,O,O,O,O,O,O,O,O,O,O,O,O,O] rfl rfl (by kernel_rfl) (fun _ _ _ h => h) (Or.inl ⟨by rfl, ?_⟩) ?_ ?_
  rotate_left
  · intro w'
    go_simp
    with_reducible rfl
  rotate_left
  · simp only [Act.put, List.setIfInBounds_toArray, List.set_cons_zero, List.set_cons_succ, i64_w, i32_w]
    rfl
  refine pure_ (i := 2) (N := some 48) (v := ?_) (a' := ?_) #[I,I,I,O,O,O,O,O,O,O,O,O,O,O,O,O,O,O] rfl rfl (by kernel_rfl) (fun _ _ _ h => h) (Or.inl ⟨by rfl, ?_⟩) ?_ ?_
  rotate_left
  · intro w'
    go_simp
    with_reducible rfl
  rotate_left
  · simp only [Act.put, List.setIfInBounds_toArray, List.set_cons_zero, List.set_cons_succ, i64_w, i32_w]
    rfl
  refine pure_ (i := 4) (N := some 50) (v := ?_) (a' := ?_) #[I,I,I,O,I,O,O,O,O,O,O,O,O,O,O,O,O,O] rfl rfl (by kernel_rfl) (fun _ _ _ h => h) (Or.inl ⟨by rfl, ?_⟩) ?_ ?_
  rotate_left
  · intro w'
    go_simp
    with_reducible rfl
  rotate_left
  · simp only [Act.put, List.setIfInBounds_toArray, List.set_cons_zero, List.set_cons_succ, i64_w, i32_w]
    rfl
  refine pure_ (i := 5) (N := some 51) (v := ?_) (a' := ?_) #[I,I,I,O,I,I,O,O,O,O,O,O,O,O,O,O,O,O] rfl rfl (by kernel_rfl) (fun _ _ _ h => h) (Or.inl ⟨by rfl, ?_⟩) ?_ ?_
  rotate_left
  · intro w'
    go_simp
    with_reducible rfl
  rotate_left
  · simp only [Act.put, List.setIfInBounds_toArray, List.set_cons_zero, List.set_cons_succ, i64_w, i32_w]
    rfl
  refine pure_ (i := 6) (N := some 52) (v := ?_) (a' := ?_) #[I,I,I,O,I,I,I,O,O,O,O,O,O,O,O,O,O,O] rfl rfl (by kernel_rfl) (fun _ _ _ h => h) (Or.inl ⟨by rfl, ?_⟩) ?_ ?_
  rotate_left
  · intro w'
    go_simp
    with_reducible rfl
  rotate_left
  · simp only [Act.put, List.setIfInBounds_toArray, List.set_cons_zero, List.set_cons_succ, i64_w, i32_w]
    rfl
  refine pure_ (i := 8) (N := some 54) (v := ?_) (a' := ?_) #[I,I,I,O,I,I,I,O,I,O,O,O,O,O,O,O,O,O] rfl rfl (by kernel_rfl) (fun _ _ _ h => h) (Or.inl ⟨by rfl, ?_⟩) ?_ ?_
  rotate_left
  · intro w'
    go_simp
    with_reducible rfl
  rotate_left
  · simp only [Act.put, List.setIfInBounds_toArray, List.set_cons_zero, List.set_cons_succ, i64_w, i32_w]
    rfl
  refine pure_ (i := 9) (N := some 55) (v := ?_) (a' := ?_) #[I,I,I,O,I,I,I,O,I,I,O,O,O,O,O,O,O,O] rfl rfl (by kernel_rfl) (fun _ _ _ h => h) (Or.inl ⟨by rfl, ?_⟩) ?_ ?_
  rotate_left
  · intro w'
    go_simp
    with_reducible rfl
  rotate_left
  · simp only [Act.put, List.setIfInBounds_toArray, List.set_cons_zero, List.set_cons_succ, i64_w, i32_w]
    rfl
  refine pure_ (i := 10) (N := some 56) (v := ?_) (a' := ?_) #[I,I,I,O,I,I,I,O,I,I,I,O,O,O,O,O,O,O] rfl rfl (by kernel_rfl) (fun _ _ _ h => h) (Or.inl ⟨by rfl, ?_⟩) ?_ ?_
  rotate_left
  · intro w'
    go_simp
    with_reducible rfl
  rotate_left
  · simp only [Act.put, List.setIfInBounds_toArray, List.set_cons_zero, List.set_cons_succ, i64_w, i32_w]
    rfl
  refine pure_ (i := 12) (N := some 58) (v := ?_) (a' := ?_) #[I,I,I,O,I,I,I,O,I,I,I,O,I,O,O,O,O,O] rfl rfl (by kernel_rfl) (fun _ _ _ h => h) (Or.inl ⟨by rfl, ?_⟩) ?_ ?_
  rotate_left
  · intro w'
    go_simp
    with_reducible rfl
  rotate_left
  · simp only [Act.put, List.setIfInBounds_toArray, List.set_cons_zero, List.set_cons_succ, i64_w, i32_w]
    rfl
  refine pure_ (i := 13) (N := some 59) (v := ?_) (a' := ?_) #[I,I,I,O,I,I,I,O,I,I,I,O,I,I,O,O,O,O] rfl rfl (by kernel_rfl) (fun _ _ _ h => h) (Or.inl ⟨by rfl, ?_⟩) ?_ ?_
  rotate_left
  · intro w'
    go_simp
    with_reducible rfl
  rotate_left
  · simp only [Act.put, List.setIfInBounds_toArray, List.set_cons_zero, List.set_cons_succ, i64_w, i32_w]
    rfl
  refine take_ (i := 3) (N := some 49) (v := ?_) (a' := ?_) #[I,I,I,I,I,I,I,O,I,I,I,O,I,I,O,O,O,O] rfl rfl (by kernel_rfl) (fun _ _ _ h => h) (Or.inl ⟨by rfl, ?_⟩) hHeld ?_ ?_
  rotate_left
  · intro w' s0
    go_simp
    with_reducible rfl
  rotate_left
  · simp only [Act.put, List.setIfInBounds_toArray, List.set_cons_zero, List.set_cons_succ, i64_w, i32_w]
    rfl
  refine pure_ (i := 7) (N := some 53) (v := ?_) (a' := ?_) #[I,I,I,I,I,I,I,I,I,I,I,O,I,I,O,O,O,O] rfl rfl (by kernel_rfl) (fun _ _ _ h => h) (Or.inl ⟨by rfl, ?_⟩) ?_ ?_
  rotate_left
  · intro w'
    go_simp
    with_reducible rfl
  rotate_left
  · simp only [Act.put, List.setIfInBounds_toArray, List.set_cons_zero, List.set_cons_succ, i64_w, i32_w]
    rfl
  refine take_ (i := 11) (N := some 57) (v := ?_) (a' := ?_) #[I,I,I,I,I,I,I,I,I,I,I,I,I,I,O,O,O,O] rfl rfl (by kernel_rfl) (fun _ _ _ h => h) (Or.inl ⟨by rfl, ?_⟩) hHeld ?_ ?_
  rotate_left
  · intro w' s0
    go_simp
    with_reducible rfl
  rotate_left
  · simp only [Act.put, List.setIfInBounds_toArray, List.set_cons_zero, List.set_cons_succ, i64_w, i32_w]
    rfl
  refine pure_ (i := 14) (N := some 60) (v := ?_) (a' := ?_) #[I,I,I,I,I,I,I,I,I,I,I,I,I,I,I,O,O,O] rfl rfl (by kernel_rfl) (fun _ _ _ h => h) (Or.inl ⟨by rfl, ?_⟩) ?_ ?_
  rotate_left
  · intro w'
    go_simp
    with_reducible rfl
  rotate_left
  · simp only [Act.put, List.setIfInBounds_toArray, List.set_cons_zero, List.set_cons_succ, i64_w, i32_w]
    rfl
  refine last_ (i := 15) (N := some 61) #[I,I,I,I,I,I,I,I,I,I,I,I,I,I,I,I,O,O] rfl rfl (by kernel_rfl) (by decide) (fun K hK => ?_)
  refine value_ (w1 := ?_) (v := ?_) (by rfl) rfl ?_ ?_
  rotate_left 2
  · go_simp
    constructor
    · rfl
    · rfl
  refine hK.out _ _ ?_
  clear hK K
  refine norm_ (a' := ?_) ?_ ?_
  rotate_left
  · show Act.put _ (some 61) _ = _
    simp only [Act.put, List.setIfInBounds_toArray, List.set_cons_zero, List.set_cons_succ, i64_w, i32_w]
    rfl
  refine last_ (i := 16) (N := some 62) #[I,I,I,I,I,I,I,I,I,I,I,I,I,I,I,I,I,O] rfl rfl (by kernel_rfl) (by decide) (fun K hK => ?_)
  refine goes_ Tryd.func32 (by kernel_rfl) rfl #[.slice (some ⟨w.heap.size, 0, none⟩) 2 2] (by rfl) rfl rfl (by (try simp only [List.map_toArray, List.map_cons, List.map_nil]); first | done | rfl) ?_
  with_reducible refine (Cc.out _ ((below_drewN (Below.refl w.heap.size w) (nq + 1)).alloc (Nat.le_refl _) (.cells #[.slice (some ⟨rb, f * 7, none⟩) (e - f) (e - f), .slice (some ⟨rb, 0, none⟩) r r] 34)) (World.cell?_alloc_new ..) (World.cell?_alloc_new ..)).mono ?_
  rintro e4 w4 ⟨g, cap, rfl, hcl, hb4⟩
  refine ⟨_, rfl, ?_⟩
  refine hK.out _ _ ?_
  clear hK K
  refine norm_ (a' := ?_) ?_ ?_
  rotate_left
  · show Act.put _ (some 62) _ = _
    simp only [Act.put, List.setIfInBounds_toArray, List.set_cons_zero, List.set_cons_succ, i64_w, i32_w]
    rfl
  refine pure_ (i := 17) (N := some 4) (v := ?_) (a' := ?_) #[I,I,I,I,I,I,I,I,I,I,I,I,I,I,I,I,I,I] rfl rfl (by kernel_rfl) (fun _ _ _ h => h) (Or.inl ⟨by rfl, ?_⟩) ?_ ?_
  rotate_left
  · intro w'
    go_simp
    with_reducible rfl
  rotate_left
  · simp only [Act.put, List.setIfInBounds_toArray, List.set_cons_zero, List.set_cons_succ, i64_w, i32_w]
    rfl
  refine done_ (by kernel_rfl) ?_
--END
  clear hHeld
  go_wp2_with fail
  go_ret
  exact ⟨g, cap, rfl, hcl, hb4⟩
end Go.Proofs.YtcdbnphhoihldaaDoor.X
-- printed by a program (xp.py, over the kit's print); Lean checks it
namespace Go.Proofs.YtcdbnphhoihldaaDoor.X
open Go.RowKit Go.Proofs.YtcdbnphhoihldaaDoorW.PrintWords Go.Proofs.YtcdbnphhoihldaaDoorW.PrintLast Go.Proofs.YtcdbnphhoihldaaDoorW.PrintMore
attribute [local go_sem] max2_int min2_int max_two min_two max_three min_three max_four min_four   -- for this text's walks alone
set_option linter.unusedVariables false
set_option linter.unusedSimpArgs false

/-! ### line_Words: function 29 -/
def line_Words.f  : Option (List ByteArray) := some (([(⟨#[104, 105, 116]⟩ : ByteArray), (⟨#[109, 105, 115, 115]⟩ : ByteArray), (⟨#[99, 104, 101, 99, 107]⟩ : ByteArray), (⟨#[100, 101, 110, 121]⟩ : ByteArray), (⟨#[101, 114, 114, 111, 114]⟩ : ByteArray), (⟨#[99, 111, 110, 115, 111, 108, 101]⟩ : ByteArray)] : List ByteArray))
set_option maxHeartbeats 8000000 in
set_option maxRecDepth 100000 in
theorem line_Words.calls  (r : List ByteArray) (w : World) (h : line_Words.f  = some r) :
    Calls Tryd.prog 29 #[] w fun e w' => ∃ v0_ : Value, e = .returned (v0_) ∧ Kd.R Kd.string 9 w' w.heap.size (fun _ => True) v0_ r ∧ Below w.heap.size w w' := by
  have HB := Aside0.mk (Below.refl w.heap.size w)
  have H : (some (([(⟨#[104, 105, 116]⟩ : ByteArray), (⟨#[109, 105, 115, 115]⟩ : ByteArray), (⟨#[99, 104, 101, 99, 107]⟩ : ByteArray), (⟨#[100, 101, 110, 121]⟩ : ByteArray), (⟨#[101, 114, 114, 111, 114]⟩ : ByteArray), (⟨#[99, 111, 110, 115, 111, 108, 101]⟩ : ByteArray)] : List ByteArray))) = some r := h
  clear h
  obtain ⟨y220, hy220⟩ : ∃ y_ : List ByteArray, y_ = (([(⟨#[104, 105, 116]⟩ : ByteArray), (⟨#[109, 105, 115, 115]⟩ : ByteArray), (⟨#[99, 104, 101, 99, 107]⟩ : ByteArray), (⟨#[100, 101, 110, 121]⟩ : ByteArray), (⟨#[101, 114, 114, 111, 114]⟩ : ByteArray), (⟨#[99, 111, 110, 115, 111, 108, 101]⟩ : ByteArray)] : List ByteArray)) := ⟨_, rfl⟩
  replace H : (some y220) = some r := by first | (rw [hy220]; with_reducible exact H) | (have H2_ := (Option.bind_some _ _).symm.trans H; rw [hy220]; with_reducible exact H2_) | (have H2_ := (Option.bind_some _ _).symm.trans H; with_reducible exact H2_) | with_reducible exact H | (rw [hy220]; exact H) | exact H
  have Ny220 := Aside0.mk hy220
  clear hy220
  obtain rfl := Option.some.inj H
  go_enter Tryd.func29, Tryd.ntmps29
  go_wp2_with (first | ((with_reducible refine gate_dst (N := 1) rfl ?_); refine Kd.R_lit Kd.string _ 9 ?hg (N := 1) ?hd (xs := ([(⟨#[104, 105, 116]⟩ : ByteArray), (⟨#[109, 105, 115, 115]⟩ : ByteArray), (⟨#[99, 104, 101, 99, 107]⟩ : ByteArray), (⟨#[100, 101, 110, 121]⟩ : ByteArray), (⟨#[101, 114, 114, 111, 114]⟩ : ByteArray), (⟨#[99, 111, 110, 115, 111, 108, 101]⟩ : ByteArray)] : List ByteArray)) (inner := [.string (⟨#[104, 105, 116]⟩ : ByteArray), .string (⟨#[109, 105, 115, 115]⟩ : ByteArray), .string (⟨#[99, 104, 101, 99, 107]⟩ : ByteArray), .string (⟨#[100, 101, 110, 121]⟩ : ByteArray), .string (⟨#[101, 114, 114, 111, 114]⟩ : ByteArray), .string (⟨#[99, 111, 110, 115, 111, 108, 101]⟩ : ByteArray)]) (ok := fun _ => True) (okp := fun _ => True) ?hr ?hp (fun _ hk => hk) trivial (Below.refl _ _) (Nat.le_refl _) (by simp) ?_; (case hd => rfl); (case hg => rfl); (case hr => first | (go_simp; done) | (go_simp; rfl)); (case hp => exact (Reps.one (show Kd.M Kd.string _ _ _ (⟨#[104, 105, 116]⟩ : ByteArray) [.string (⟨#[104, 105, 116]⟩ : ByteArray)] from rfl) (Reps.one (show Kd.M Kd.string _ _ _ (⟨#[109, 105, 115, 115]⟩ : ByteArray) [.string (⟨#[109, 105, 115, 115]⟩ : ByteArray)] from rfl) (Reps.one (show Kd.M Kd.string _ _ _ (⟨#[99, 104, 101, 99, 107]⟩ : ByteArray) [.string (⟨#[99, 104, 101, 99, 107]⟩ : ByteArray)] from rfl) (Reps.one (show Kd.M Kd.string _ _ _ (⟨#[100, 101, 110, 121]⟩ : ByteArray) [.string (⟨#[100, 101, 110, 121]⟩ : ByteArray)] from rfl) (Reps.one (show Kd.M Kd.string _ _ _ (⟨#[101, 114, 114, 111, 114]⟩ : ByteArray) [.string (⟨#[101, 114, 114, 111, 114]⟩ : ByteArray)] from rfl) (Reps.one (show Kd.M Kd.string _ _ _ (⟨#[99, 111, 110, 115, 111, 108, 101]⟩ : ByteArray) [.string (⟨#[99, 111, 110, 115, 111, 108, 101]⟩ : ByteArray)] from rfl) (Reps.none _ _)))))))); intro v221 w1 ho2 hb hg_ hnew_; clear hg_ hnew_; (first | rw [← Ny220.out] at ho2 | (simp only [Int.reduceToNat] at ho2; rw [← Ny220.out] at ho2)); have n0_ := Aside0.mk (Kd.R_lower ho2 (below_size (by repeat (first | (with_reducible first | exact HB.out | apply below_alloc | apply pw_below_drewN | apply below_drew1) | exact HB.out)))); have n1_ := Aside0.mk (below_step (by repeat (first | (with_reducible first | exact HB.out | apply below_alloc | apply pw_below_drewN | apply below_drew1) | exact HB.out)) hb); clear HB; have HO222 := n0_; have HB := n1_; clear n0_ n1_; clear hb ho2))
  go_ret
  exact ⟨_, by first | rfl | (simp [errW_none, errW_some] <;> rfl) | (simp [*, errW_none, errW_some] <;> rfl), by (with_reducible repeat (first | apply Kd.R_alloc | apply Kd.R_drewN | apply Kd.R_drew)); exact HO222.out, by repeat (first | (with_reducible first | exact HB.out | apply below_alloc | apply pw_below_drewN | apply below_drew1) | exact HB.out)⟩

end Go.Proofs.YtcdbnphhoihldaaDoor.X
-- printed by a program (xp.py, over the kit's print); Lean checks it
namespace Go.Proofs.YtcdbnphhoihldaaDoor.X
open Go.RowKit Go.Proofs.YtcdbnphhoihldaaDoorW.PrintWords Go.Proofs.YtcdbnphhoihldaaDoorW.PrintLast Go.Proofs.YtcdbnphhoihldaaDoorW.PrintMore
attribute [local go_sem] max2_int min2_int max_two min_two max_three min_three max_four min_four   -- for this text's walks alone
set_option linter.unusedVariables false
set_option linter.unusedSimpArgs false

/-! ### date_reader_number: function 69 -/
mutual
def date_reader_number.l0 : Nat → Int → Int → Int → Int → ByteArray → Option (Int)
 | 0, _, _, _, _, _ => none
 | k + 1, x1, x2, x7, x8, x102000 => if x8 < (wrap64 (x1 + x2)) then (date_reader_number.j1 k x1 x2 x7 x8 (decide (x8 < (x102000.size : Int))) x102000) else (date_reader_number.j1 k x1 x2 x7 x8 false x102000)
def date_reader_number.j1 : Nat → Int → Int → Int → Int → Bool → ByteArray → Option (Int)
 | 0, _, _, _, _, _, _ => none
 | k + 1, x1, x2, x7, x8, x22, x102000 => if x22 = true then (if 0 ≤ x8 then (if x8 < (x102000.size : Int) then (if (bt x102000 x8) ≥ 48 then (if (bt x102000 x8) ≤ 57 then (date_reader_number.l0 k x1 x2 (wrap64 ((wrap64 (10 * x7)) + (((bt x102000 x8) - 48) % 256))) (wrap64 (x8 + 1)) x102000) else (date_reader_number.l0 k x1 x2 x7 (wrap64 (x8 + 1)) x102000)) else (date_reader_number.l0 k x1 x2 x7 (wrap64 (x8 + 1)) x102000)) else (none)) else (none)) else (some x7)
end
def date_reader_number.f (k : Nat) (a0_0 : ByteArray) (a1 : Int) (a2 : Int) : Option (Int) := date_reader_number.l0 k a1 a2 0 a1 a0_0
theorem date_reader_number.mono_l : ∀ k, (∀ y0 y1 y2 y3 y4, LeO (date_reader_number.l0 k y0 y1 y2 y3 y4) (date_reader_number.l0 (k + 1) y0 y1 y2 y3 y4)) ∧ (∀ y0 y1 y2 y3 y4 y5, LeO (date_reader_number.j1 k y0 y1 y2 y3 y4 y5) (date_reader_number.j1 (k + 1) y0 y1 y2 y3 y4 y5))
 | 0 => ⟨fun _ _ _ _ _ r h => by simp [date_reader_number.l0] at h, fun _ _ _ _ _ _ r h => by simp [date_reader_number.j1] at h⟩
 | k + 1 => by
  obtain ⟨ih0, ih1⟩ := date_reader_number.mono_l k
  refine ⟨?_, ?_⟩
  ·
   intro y0 y1 y2 y3 y4
   unfold date_reader_number.l0
   repeat' first
   | (with_reducible exact ih0 _ _ _ _ _)
   | (with_reducible exact ih1 _ _ _ _ _ _)
   | (with_reducible exact LeO.refl _)
   | (with_reducible exact LeO.none _)
   | (with_reducible refine LeO.ite ?_ ?_)
   | (with_reducible refine LeO.bind ?_ (fun _ => ?_))
   | exact ih0 _ _ _ _ _
   | exact ih1 _ _ _ _ _ _
   | exact LeO.none _
   | refine LeO.ite ?_ ?_
   | refine LeO.bind ?_ (fun _ => ?_)
  ·
   intro y0 y1 y2 y3 y4 y5
   unfold date_reader_number.j1
   repeat' first
   | (with_reducible exact ih0 _ _ _ _ _)
   | (with_reducible exact ih1 _ _ _ _ _ _)
   | (with_reducible exact LeO.refl _)
   | (with_reducible exact LeO.none _)
   | (with_reducible refine LeO.ite ?_ ?_)
   | (with_reducible refine LeO.bind ?_ (fun _ => ?_))
   | exact ih0 _ _ _ _ _
   | exact ih1 _ _ _ _ _ _
   | exact LeO.none _
   | refine LeO.ite ?_ ?_
   | refine LeO.bind ?_ (fun _ => ?_)
theorem date_reader_number.mono : ∀ a0 a1 a2 k, LeO (date_reader_number.f k a0 a1 a2) (date_reader_number.f (k + 1) a0 a1 a2) := by
 intro a0 a1 a2 k
 obtain ⟨ih0, ih1⟩ := date_reader_number.mono_l k
 unfold date_reader_number.f
 repeat' first
   | (with_reducible exact ih0 _ _ _ _ _)
   | (with_reducible exact ih1 _ _ _ _ _ _)
   | (with_reducible exact LeO.refl _)
   | (with_reducible exact LeO.none _)
   | (with_reducible refine LeO.ite ?_ ?_)
   | (with_reducible refine LeO.bind ?_ (fun _ => ?_))
   | exact ih0 _ _ _ _ _
   | exact ih1 _ _ _ _ _ _
   | exact LeO.none _
   | refine LeO.ite ?_ ?_
   | refine LeO.bind ?_ (fun _ => ?_)
set_option maxHeartbeats 8000000 in
set_option maxRecDepth 100000 in
theorem date_reader_number.calls (k : Nat) (a0_0 : ByteArray) (a1 : Int) (a2 : Int) (r : Int) (w : World) (h : date_reader_number.f k a0_0 a1 a2 = some r) :
  Calls Tryd.prog 69 #[.agg #[.string a0_0], .int .i64 a1, .int .i64 a2] w fun e w' => e = .returned (.int .i64 r) ∧ Below w.heap.size w w' := by
 have hu99 := Tryd.underlying99
 have HB := Aside0.mk (Below.refl w.heap.size w)
 have H : (date_reader_number.l0 k a1 a2 0 a1 a0_0) = some r := h
 clear h
 have H' := Aside0.mk H
 clear H
 go_enter Tryd.func69, Tryd.ntmps69
 go_wp2_with (first | ((with_reducible refine gate_dst (N := 3) rfl ?_); (try (refine gate_guard (by rfl) ?_; dsimp only)); refine box_event ?hg (N := 3) ?hd (cs := #[.string a0_0]) (t := 99) ?hr ?_; (case hd => rfl); (case hg => rfl); (case hr => first | (go_simp; done) | (go_simp; rfl)); intro gb101 hg w4 hbox hb; have n0_ := Aside0.mk (below_step (by repeat (first | (with_reducible first | exact HB.out | apply below_alloc | apply pw_below_drewN | apply below_drew1) | exact HB.out)) hb); have n1_ := Aside0.mk (hbox); have n2_ := Aside0.mk ((by rw [hg]; exact (below_size (by repeat (first | (with_reducible first | exact HB.out | apply below_alloc | apply pw_below_drewN | apply below_drew1) | exact HB.out))) : w.heap.size ≤ gb101)); have n3_ := Aside0.mk ((by rw [hg]; exact (below_size (by repeat (first | (with_reducible first | exact HB.out | apply below_alloc | apply pw_below_drewN | apply below_drew1) | exact HB.out))) : w.heap.size ≤ gb101)); clear HB; have HB := n0_; have BK101 := n1_; have GW101 := n2_; have GE101 := n3_; clear n0_ n1_ n2_ n3_; clear hb hbox hg))
 go_loopg [7, 8] k (fun kq v7 v8 w' => ∃ (x7_1 : Int) (x8_1 : Int), v7 = .int .i64 x7_1 ∧ v8 = .int .i64 x8_1 ∧ Aside0 (date_reader_number.l0 kq a1 a2 x7_1 x8_1 a0_0 = some r) ∧ Aside0 (kq ≤ k) ∧ Aside0 (w'.heap[gb101]? = some (.cells #[.string a0_0] 99 (0, 0))) ∧ Aside0 (Below w.heap.size w w'))
 case atStart => exact ⟨(0), (a1), (by first | rfl | (simp; done) | (simp [*]; done)), (by first | rfl | (simp; done) | (simp [*]; done)), H', ⟨Nat.le_refl _⟩, ⟨by (with_reducible repeat (first | refine blk_drewN ?_ _ | refine blk_drew ?_ | refine blk_alloc ?_ _)); exact BK101.out⟩, ⟨by repeat (first | (with_reducible first | exact HB.out | apply below_alloc | apply pw_below_drewN | apply below_drew1 | refine below_set ?_ GE101.out) | exact HB.out)⟩⟩
 case round =>
  clear H'
  try clear p2
  obtain ⟨x7_1, x8_1, rfl, rfl, HA, HK1, BK101, HB⟩ := hrel
  cases gk with
  | zero => exact absurd HA.out (by simp [date_reader_number.l0])
  | succ k1 =>
   have H := HA.out
   clear HA
   simp only [date_reader_number.l0] at H
   have HC5 := Aside0.mk H
   clear H
   go_upto_region 3 with (fail)
   go_cut [22] (fun v22 wc => ∃ (kq : Nat) (x22_4 : Bool), v22 = .bool x22_4 ∧ Aside0 (date_reader_number.j1 kq a1 a2 x7_1 x8_1 x22_4 a0_0 = some r) ∧ Aside0 (kq ≤ k1) ∧ Aside0 (wc.heap[gb101]? = some (.cells #[.string a0_0] 99 (0, 0))) ∧ Aside0 (Below w.heap.size w wc))
   case first =>
    have H := HC5.out
    clear HC5
    by_cases c6 : x8_1 < (wrap64 (a1 + a2))
    ·
     rw [if_pos c6] at H
     have c6b0 : decide (x8_1 < (wrap64 (a1 + a2))) = true := decide_eq_true c6
     clear c6
     (first | rw [c6b0] | (simp only [i64_w, i32_w]; rw [c6b0]) | skip)
     have H' := Aside0.mk H
     clear H
     have hcz7_0 : wr.cell? ⟨gb101, 0, none⟩ = some (.string a0_0) := (blk_cell BK101.out 0).trans rfl
     have hfz7_0 := blk_frozen BK101.out 0
     go_wp2
     go_meet
     case rel => exact ⟨_, (decide (x8_1 < (a0_0.size : Int))), (by first | rfl | (simp; done) | (simp [*]; done)), H', ⟨by have := HK1.out; first | omega | exact Nat.le_refl _⟩, ⟨by (with_reducible repeat (first | refine blk_drewN ?_ _ | refine blk_drew ?_ | refine blk_alloc ?_ _)); exact BK101.out⟩, ⟨by repeat (first | (with_reducible first | exact HB.out | apply below_alloc | apply pw_below_drewN | apply below_drew1 | refine below_set ?_ GE101.out) | exact HB.out)⟩⟩
    ·
     rw [if_neg c6] at H
     have c6b0 : decide (x8_1 < (wrap64 (a1 + a2))) = false := decide_eq_false c6
     clear c6
     (first | rw [c6b0] | (simp only [i64_w, i32_w]; rw [c6b0]) | skip)
     have H' := Aside0.mk H
     clear H
     go_wp2
     go_meet
     case rel => exact ⟨_, (false), (by first | rfl | (simp; done) | (simp [*]; done)), H', ⟨by have := HK1.out; first | omega | exact Nat.le_refl _⟩, ⟨by (with_reducible repeat (first | refine blk_drewN ?_ _ | refine blk_drew ?_ | refine blk_alloc ?_ _)); exact BK101.out⟩, ⟨by repeat (first | (with_reducible first | exact HB.out | apply below_alloc | apply pw_below_drewN | apply below_drew1 | refine below_set ?_ GE101.out) | exact HB.out)⟩⟩
   case rest =>
    clear HC5
    try clear p2
    try clear c6
    try clear c6b0
    try clear p6
    try clear hcz7_0
    try clear hfz7_0
    try clear p2
    obtain ⟨kq, x22_4, rfl, HA, HJ4, BK101, HB⟩ := hcut
    cases kq with
    | zero => exact absurd HA.out (by simp [date_reader_number.j1])
    | succ kj4 =>
     have H := HA.out
     clear HA
     simp only [date_reader_number.j1] at H
     by_cases c8 : x22_4 = true
     ·
      subst c8
      have H1 : (if 0 ≤ x8_1 then (if x8_1 < (a0_0.size : Int) then (if (bt a0_0 x8_1) ≥ 48 then (if (bt a0_0 x8_1) ≤ 57 then (date_reader_number.l0 kj4 a1 a2 (wrap64 ((wrap64 (10 * x7_1)) + (((bt a0_0 x8_1) - 48) % 256))) (wrap64 (x8_1 + 1)) a0_0) else (date_reader_number.l0 kj4 a1 a2 x7_1 (wrap64 (x8_1 + 1)) a0_0)) else (date_reader_number.l0 kj4 a1 a2 x7_1 (wrap64 (x8_1 + 1)) a0_0)) else (none)) else (none)) = some r := by rw [if_pos rfl] at H; exact H
      clear H
      have H := H1
      clear H1
      by_cases c9 : 0 ≤ x8_1
      ·
       rw [if_pos c9] at H
       have c9b0 : decide (0 ≤ x8_1) = true := decide_eq_true c9
       clear c9
       by_cases c10 : x8_1 < (a0_0.size : Int)
       ·
        rw [if_pos c10] at H
        have c10b0 : decide (x8_1 < (a0_0.size : Int)) = true := decide_eq_true c10
        clear c10
        by_cases c12 : (bt a0_0 x8_1) ≥ 48
        ·
         rw [if_pos c12] at H
         have c12b0 : decide (48 ≤ (bt a0_0 x8_1)) = true := decide_eq_true c12
         clear c12
         by_cases c13 : (bt a0_0 x8_1) ≤ 57
         ·
          rw [if_pos c13] at H
          have c13b0 : decide ((bt a0_0 x8_1) ≤ 57) = true := decide_eq_true c13
          clear c13
          have H' := Aside0.mk H
          clear H
          have hcz14_0 : wc.cell? ⟨gb101, 0, none⟩ = some (.string a0_0) := (blk_cell BK101.out 0).trans rfl
          have hfz14_0 := blk_frozen BK101.out 0
          have p11 : 0 ≤ (x8_1 : Int) := of_decide_eq_true (by first | (with_reducible assumption) | assumption)
          have q11 : x8_1 < (a0_0.size : Int) := of_decide_eq_true (by first | (with_reducible assumption) | assumption)
          have hx11 := bt_at a0_0 x8_1
          replace p11 := eq_true p11
          replace q11 := eq_true q11
          go_wp2
          go_roundg kj4
          case measure => have := HK1.out; have := HJ4.out; omega
          case rel => exact ⟨(wrap64 ((wrap64 (10 * x7_1)) + (((bt a0_0 x8_1) - 48) % 256))), (wrap64 (x8_1 + 1)), (by first | rfl | (simp; done) | (simp [*]; done)), (by first | rfl | (simp; done) | (simp [*]; done)), H', ⟨by have := HK1.out; have := HJ4.out; omega⟩, ⟨by (with_reducible repeat (first | refine blk_drewN ?_ _ | refine blk_drew ?_ | refine blk_alloc ?_ _)); exact BK101.out⟩, ⟨by repeat (first | (with_reducible first | exact HB.out | apply below_alloc | apply pw_below_drewN | apply below_drew1 | refine below_set ?_ GE101.out) | exact HB.out)⟩⟩
         ·
          rw [if_neg c13] at H
          have c13b0 : decide ((bt a0_0 x8_1) ≤ 57) = false := decide_eq_false c13
          clear c13
          have H' := Aside0.mk H
          clear H
          have hcz15_0 : wc.cell? ⟨gb101, 0, none⟩ = some (.string a0_0) := (blk_cell BK101.out 0).trans rfl
          have hfz15_0 := blk_frozen BK101.out 0
          have p11 : 0 ≤ (x8_1 : Int) := of_decide_eq_true (by first | (with_reducible assumption) | assumption)
          have q11 : x8_1 < (a0_0.size : Int) := of_decide_eq_true (by first | (with_reducible assumption) | assumption)
          have hx11 := bt_at a0_0 x8_1
          replace p11 := eq_true p11
          replace q11 := eq_true q11
          go_wp2
          go_roundg kj4
          case measure => have := HK1.out; have := HJ4.out; omega
          case rel => exact ⟨(x7_1), (wrap64 (x8_1 + 1)), (by first | rfl | (simp; done) | (simp [*]; done)), (by first | rfl | (simp; done) | (simp [*]; done)), H', ⟨by have := HK1.out; have := HJ4.out; omega⟩, ⟨by (with_reducible repeat (first | refine blk_drewN ?_ _ | refine blk_drew ?_ | refine blk_alloc ?_ _)); exact BK101.out⟩, ⟨by repeat (first | (with_reducible first | exact HB.out | apply below_alloc | apply pw_below_drewN | apply below_drew1 | refine below_set ?_ GE101.out) | exact HB.out)⟩⟩
        ·
         rw [if_neg c12] at H
         have c12b0 : decide (48 ≤ (bt a0_0 x8_1)) = false := decide_eq_false c12
         clear c12
         have H' := Aside0.mk H
         clear H
         have hcz16_0 : wc.cell? ⟨gb101, 0, none⟩ = some (.string a0_0) := (blk_cell BK101.out 0).trans rfl
         have hfz16_0 := blk_frozen BK101.out 0
         have p11 : 0 ≤ (x8_1 : Int) := of_decide_eq_true (by first | (with_reducible assumption) | assumption)
         have q11 : x8_1 < (a0_0.size : Int) := of_decide_eq_true (by first | (with_reducible assumption) | assumption)
         have hx11 := bt_at a0_0 x8_1
         replace p11 := eq_true p11
         replace q11 := eq_true q11
         go_wp2
         go_roundg kj4
         case measure => have := HK1.out; have := HJ4.out; omega
         case rel => exact ⟨(x7_1), (wrap64 (x8_1 + 1)), (by first | rfl | (simp; done) | (simp [*]; done)), (by first | rfl | (simp; done) | (simp [*]; done)), H', ⟨by have := HK1.out; have := HJ4.out; omega⟩, ⟨by (with_reducible repeat (first | refine blk_drewN ?_ _ | refine blk_drew ?_ | refine blk_alloc ?_ _)); exact BK101.out⟩, ⟨by repeat (first | (with_reducible first | exact HB.out | apply below_alloc | apply pw_below_drewN | apply below_drew1 | refine below_set ?_ GE101.out) | exact HB.out)⟩⟩
       ·
        rw [if_neg c10] at H
        exact absurd H (by simp)
      ·
       rw [if_neg c9] at H
       exact absurd H (by simp)
     ·
      replace c8 := Bool.eq_false_iff.mpr c8
      subst c8
      have H1 : (some x7_1) = some r := by rw [if_neg (show ¬ (false = true) by decide)] at H; exact H
      clear H
      have H := H1
      clear H1
      obtain rfl := Option.some.inj H
      go_wp2
      go_ret
      exact ⟨by first | rfl | (simp [errW_none, errW_some] <;> rfl) | (simp [*, errW_none, errW_some] <;> rfl), by repeat (first | (with_reducible first | exact HB.out | apply below_alloc | apply pw_below_drewN | apply below_drew1 | refine below_set ?_ GE101.out) | exact HB.out)⟩

end Go.Proofs.YtcdbnphhoihldaaDoor.X
-- printed by a program (xp.py, over the kit's print); Lean checks it
namespace Go.Proofs.YtcdbnphhoihldaaDoor.X
open Go.RowKit Go.Proofs.YtcdbnphhoihldaaDoorW.PrintWords Go.Proofs.YtcdbnphhoihldaaDoorW.PrintLast Go.Proofs.YtcdbnphhoihldaaDoorW.PrintMore
attribute [local go_sem] max2_int min2_int max_two min_two max_three min_three max_four min_four   -- for this text's walks alone
set_option linter.unusedVariables false
set_option linter.unusedSimpArgs false

/-! ### date_reader_clock: function 68 -/
def date_reader_clock.f (k : Nat) (a0_0 : ByteArray) (a1_0 : Int) (a1_1 : Int) (a1_2 : Int) (a1_3 : Int) (a1_4 : Int) (a1_5 : Int) (a2 : Int) : Option (Int × Int × Int × Int × Int × Int) := (date_reader_number.f k a0_0 a2 2).bind fun t105 => ((date_reader_number.f k a0_0 (wrap64 (a2 + 3)) 2).bind fun t106 => ((date_reader_number.f k a0_0 (wrap64 (a2 + 6)) 2).bind fun t107 => (some (a1_0, a1_1, a1_2, t105, t106, t107))))
theorem date_reader_clock.mono : ∀ a0 a1 a2 a3 a4 a5 a6 a7 k, LeO (date_reader_clock.f k a0 a1 a2 a3 a4 a5 a6 a7) (date_reader_clock.f (k + 1) a0 a1 a2 a3 a4 a5 a6 a7) := by
 intro a0 a1 a2 a3 a4 a5 a6 a7 k
 unfold date_reader_clock.f
 repeat' first
   | (with_reducible exact date_reader_number.mono _ _ _ _)
   | (with_reducible exact LeO.refl _)
   | (with_reducible exact LeO.none _)
   | (with_reducible refine LeO.ite ?_ ?_)
   | (with_reducible refine LeO.bind ?_ (fun _ => ?_))
   | exact date_reader_number.mono _ _ _ _
   | exact LeO.none _
   | refine LeO.ite ?_ ?_
   | refine LeO.bind ?_ (fun _ => ?_)
def date_reader_clock.T1 : Bool × List (List Nat × List Nat) := (true, [([], []), ([], []), ([0, 1], [0, 1]), ([], []), ([], []), ([4], [4]), ([3, 5, 2], [3, 5]), ([], []), ([], []), ([8], [8]), ([7, 9, 6], [7, 9]), ([0, 1, 2], []), ([11, 2, 10, 0, 1, 2], [2, 11]), ([0, 1, 2, 3, 4, 5, 6, 11, 12], []), ([13, 6, 12, 0, 1, 2, 3, 4, 5, 6, 11, 12], [6, 13]), ([0, 1, 2, 3, 4, 5, 6, 7, 8, 9, 10, 11, 12, 13, 14], []), ([15, 10, 14, 0, 1, 2, 3, 4, 5, 6, 7, 8, 9, 10, 11, 12, 13, 14], [10, 15])])
def date_reader_clock.B1 : List Nat := [0, 0, 3, 0, 0, 16, 63, 0, 0, 256, 1023, 7, 4095, 8191, 16383, 32767, 65535]
theorem date_reader_clock.tab1 : rtab .any (opsOf Tryd.f68 1) = date_reader_clock.T1 := by kernel_rfl
theorem date_reader_clock.bits1 : waitsOk date_reader_clock.T1.2 date_reader_clock.B1 = true := by kernel_rfl
set_option maxHeartbeats 8000000 in
set_option maxRecDepth 100000 in
theorem date_reader_clock.calls (k : Nat) (a0_0 : ByteArray) (a1_0 : Int) (a1_1 : Int) (a1_2 : Int) (a1_3 : Int) (a1_4 : Int) (a1_5 : Int) (a2 : Int) (r1 : Int) (r2 : Int) (r3 : Int) (r4 : Int) (r5 : Int) (r6 : Int) (w : World) (h : date_reader_clock.f k a0_0 a1_0 a1_1 a1_2 a1_3 a1_4 a1_5 a2 = some (r1, r2, r3, r4, r5, r6)) :
  Calls Tryd.prog 68 #[.agg #[.string a0_0], .agg #[.int .i64 a1_0, .int .i64 a1_1, .int .i64 a1_2, .int .i64 a1_3, .int .i64 a1_4, .int .i64 a1_5], .int .i64 a2] w fun e w' => e = .returned (.agg #[.int .i64 r1, .int .i64 r2, .int .i64 r3, .int .i64 r4, .int .i64 r5, .int .i64 r6]) ∧ Below w.heap.size w w' := by
 have hu99 := Tryd.underlying99
 have hu76 := Tryd.underlying76
 have HB := Aside0.mk (Below.refl w.heap.size w)
 have H : ((date_reader_number.f k a0_0 a2 2).bind fun t105 => ((date_reader_number.f k a0_0 (wrap64 (a2 + 3)) 2).bind fun t106 => ((date_reader_number.f k a0_0 (wrap64 (a2 + 6)) 2).bind fun t107 => (some (a1_0, a1_1, a1_2, t105, t106, t107))))) = some (r1, r2, r3, r4, r5, r6) := h
 clear h
 replace H := Option.bind_eq_some_iff.mp H
 obtain ⟨t105, A40, H⟩ := H
 replace H : ((date_reader_number.f k a0_0 (wrap64 (a2 + 3)) 2).bind fun t106 => ((date_reader_number.f k a0_0 (wrap64 (a2 + 6)) 2).bind fun t107 => (some (a1_0, a1_1, a1_2, t105, t106, t107)))) = some (r1, r2, r3, r4, r5, r6) := H
 have A4 := Aside0.mk A40
 clear A40
 replace H := Option.bind_eq_some_iff.mp H
 obtain ⟨t106, A50, H⟩ := H
 replace H : ((date_reader_number.f k a0_0 (wrap64 (a2 + 6)) 2).bind fun t107 => (some (a1_0, a1_1, a1_2, t105, t106, t107))) = some (r1, r2, r3, r4, r5, r6) := H
 have A5 := Aside0.mk A50
 clear A50
 replace H := Option.bind_eq_some_iff.mp H
 obtain ⟨t107, A60, H⟩ := H
 replace H : (some (a1_0, a1_1, a1_2, t105, t106, t107)) = some (r1, r2, r3, r4, r5, r6) := H
 have A6 := Aside0.mk A60
 clear A60
 simp only [Option.some.injEq, Prod.mk.injEq] at H
 obtain ⟨rfl, rfl, rfl, rfl, rfl, rfl⟩ := H
 go_enter Tryd.func68, Tryd.ntmps68
 try go_wp2_with (first | ((with_reducible refine gate_dst (N := 3) rfl ?_); refine box_event ?hg (N := 3) ?hd (cs := #[.string a0_0]) (t := 99) ?hr ?_; (case hd => rfl); (case hg => rfl); (case hr => first | (go_simp; done) | (go_simp; rfl)); intro gb102 hg w7 hbox hb; have n0_ := Aside0.mk (below_step (by repeat (first | (with_reducible first | exact HB.out | apply below_alloc | apply pw_below_drewN | apply below_drew1) | exact HB.out)) hb); have n1_ := Aside0.mk (hbox); have n2_ := Aside0.mk ((by rw [hg]; exact (below_size (by repeat (first | (with_reducible first | exact HB.out | apply below_alloc | apply pw_below_drewN | apply below_drew1) | exact HB.out))) : w.heap.size ≤ gb102)); have n3_ := Aside0.mk ((by rw [hg]; exact (below_size (by repeat (first | (with_reducible first | exact HB.out | apply below_alloc | apply pw_below_drewN | apply below_drew1) | exact HB.out))) : w.heap.size ≤ gb102)); clear HB; have HB := n0_; have BK102 := n1_; have GW102 := n2_; have GE102 := n3_; clear n0_ n1_ n2_ n3_; clear hb hbox hg) | ((with_reducible refine gate_dst (N := 4) rfl ?_); refine box_event ?hg (N := 4) ?hd (cs := #[.int .i64 a1_0, .int .i64 a1_1, .int .i64 a1_2, .int .i64 a1_3, .int .i64 a1_4, .int .i64 a1_5]) (t := 76) ?hr ?_; (case hd => rfl); (case hg => rfl); (case hr => first | (go_simp; done) | (go_simp; rfl)); intro gb103 hg w8 hbox hb; have n0_ := Aside0.mk (blk_below (g := gb102) (o := .cells #[.string a0_0] 99 (0, 0)) (by (with_reducible repeat (first | refine blk_drewN ?_ _ | refine blk_drew ?_ | refine blk_alloc ?_ _)); exact BK102.out) hb); have n1_ := Aside0.mk (below_step (by repeat (first | (with_reducible first | exact HB.out | apply below_alloc | apply pw_below_drewN | apply below_drew1 | refine below_set ?_ GE102.out) | exact HB.out)) hb); have n2_ := Aside0.mk (hbox); have n3_ := Aside0.mk ((by rw [hg]; exact (below_size (by repeat (first | (with_reducible first | exact HB.out | apply below_alloc | apply pw_below_drewN | apply below_drew1 | refine below_set ?_ GE102.out) | exact HB.out))) : w.heap.size ≤ gb103)); have n4_ := Aside0.mk ((by rw [hg]; exact (below_size (by repeat (first | (with_reducible first | exact HB.out | apply below_alloc | apply pw_below_drewN | apply below_drew1 | refine below_set ?_ GE102.out) | exact HB.out))) : w.heap.size ≤ gb103)); have n5_ := Aside0.mk ((by rw [hg]; exact Nat.ne_of_lt (blk_lt (g := gb102) (o := .cells #[.string a0_0] 99 (0, 0)) (by (with_reducible repeat (first | refine blk_drewN ?_ _ | refine blk_drew ?_ | refine blk_alloc ?_ _)); exact BK102.out)) : gb102 ≠ gb103)); have n6_ := Aside0.mk ((by rw [hg]; exact Nat.ne_of_gt (blk_lt (g := gb102) (o := .cells #[.string a0_0] 99 (0, 0)) (by (with_reducible repeat (first | refine blk_drewN ?_ _ | refine blk_drew ?_ | refine blk_alloc ?_ _)); exact BK102.out)) : gb103 ≠ gb102)); clear BK102; clear HB; have BK102 := n0_; have HB := n1_; have BK103 := n2_; have GW103 := n3_; have GE103 := n4_; have NB102_103 := n5_; have NB103_102 := n6_; clear n0_ n1_ n2_ n3_ n4_ n5_ n6_; clear hb hbox hg) | ((with_reducible refine gate_dst (N := 6) rfl ?_); refine box_event ?hg (N := 6) ?hd (cs := #[.int .i64 0, .int .i64 0, .int .i64 0, .int .i64 0, .int .i64 0, .int .i64 0]) (t := 76) ?hr ?_; (case hd => rfl); (case hg => rfl); (case hr => first | (go_simp; done) | (go_simp; rfl)); intro gb104 hg w9 hbox hb; have n0_ := Aside0.mk (blk_below (g := gb102) (o := .cells #[.string a0_0] 99 (0, 0)) (by (with_reducible repeat (first | refine blk_drewN ?_ _ | refine blk_drew ?_ | refine blk_alloc ?_ _)); exact BK102.out) hb); have n1_ := Aside0.mk (blk_below (g := gb103) (o := .cells #[.int .i64 a1_0, .int .i64 a1_1, .int .i64 a1_2, .int .i64 a1_3, .int .i64 a1_4, .int .i64 a1_5] 76 (0, 0)) (by (with_reducible repeat (first | refine blk_drewN ?_ _ | refine blk_drew ?_ | refine blk_alloc ?_ _)); exact BK103.out) hb); have n2_ := Aside0.mk (below_step (by repeat (first | (with_reducible first | exact HB.out | apply below_alloc | apply pw_below_drewN | apply below_drew1 | refine below_set ?_ GE102.out | refine below_set ?_ GE103.out) | exact HB.out)) hb); have n3_ := Aside0.mk (hbox); have n4_ := Aside0.mk ((by rw [hg]; exact (below_size (by repeat (first | (with_reducible first | exact HB.out | apply below_alloc | apply pw_below_drewN | apply below_drew1 | refine below_set ?_ GE102.out | refine below_set ?_ GE103.out) | exact HB.out))) : w.heap.size ≤ gb104)); have n5_ := Aside0.mk ((by rw [hg]; exact (below_size (by repeat (first | (with_reducible first | exact HB.out | apply below_alloc | apply pw_below_drewN | apply below_drew1 | refine below_set ?_ GE102.out | refine below_set ?_ GE103.out) | exact HB.out))) : w.heap.size ≤ gb104)); have n6_ := Aside0.mk ((by rw [hg]; exact Nat.ne_of_lt (blk_lt (g := gb102) (o := .cells #[.string a0_0] 99 (0, 0)) (by (with_reducible repeat (first | refine blk_drewN ?_ _ | refine blk_drew ?_ | refine blk_alloc ?_ _)); exact BK102.out)) : gb102 ≠ gb104)); have n7_ := Aside0.mk ((by rw [hg]; exact Nat.ne_of_gt (blk_lt (g := gb102) (o := .cells #[.string a0_0] 99 (0, 0)) (by (with_reducible repeat (first | refine blk_drewN ?_ _ | refine blk_drew ?_ | refine blk_alloc ?_ _)); exact BK102.out)) : gb104 ≠ gb102)); have n8_ := Aside0.mk ((by rw [hg]; exact Nat.ne_of_lt (blk_lt (g := gb103) (o := .cells #[.int .i64 a1_0, .int .i64 a1_1, .int .i64 a1_2, .int .i64 a1_3, .int .i64 a1_4, .int .i64 a1_5] 76 (0, 0)) (by (with_reducible repeat (first | refine blk_drewN ?_ _ | refine blk_drew ?_ | refine blk_alloc ?_ _)); exact BK103.out)) : gb103 ≠ gb104)); have n9_ := Aside0.mk ((by rw [hg]; exact Nat.ne_of_gt (blk_lt (g := gb103) (o := .cells #[.int .i64 a1_0, .int .i64 a1_1, .int .i64 a1_2, .int .i64 a1_3, .int .i64 a1_4, .int .i64 a1_5] 76 (0, 0)) (by (with_reducible repeat (first | refine blk_drewN ?_ _ | refine blk_drew ?_ | refine blk_alloc ?_ _)); exact BK103.out)) : gb104 ≠ gb103)); clear BK102; clear BK103; clear HB; have BK102 := n0_; have BK103 := n1_; have HB := n2_; have BK104 := n3_; have GW104 := n4_; have GE104 := n5_; have NB102_104 := n6_; have NB104_102 := n7_; have NB103_104 := n8_; have NB104_103 := n9_; clear n0_ n1_ n2_ n3_ n4_ n5_ n6_ n7_ n8_ n9_; clear hb hbox hg))
 have n0_ := Aside0.mk (blk_drew BK102.out)
 have n1_ := Aside0.mk (blk_drew BK103.out)
 have n2_ := Aside0.mk (blk_drew BK104.out)
 have n3_ := Aside0.mk (below_drew1 HB.out)
 clear BK102
 clear BK103
 clear BK104
 clear HB
 have BK102 := n0_
 have BK103 := n1_
 have BK104 := n2_
 have HB := n3_
 clear n0_ n1_ n2_ n3_
 refine start_ (n := 17) (S := fun w' => w'.cell? ⟨gb102, 0, none⟩ = some (.string a0_0)) (ds := []) #[O,O,O,O,O,O,O,O,O,O,O,O,O,O,O,O,O] (by kernel_rfl) rfl rfl ((blk_cell BK102.out 0).trans rfl) (fun hHeld => ?_); refine with_tabW date_reader_clock.tab1 date_reader_clock.bits1 (fun HT_ HW_ => ?_)
 generalize w9.drew = w10 at BK102 BK103 BK104 HB hHeld ⊢
 refine pure_ (i := 1) (N := some 8) (v := ?_) (a' := ?_) #[O,I,O,O,O,O,O,O,O,O,O,O,O,O,O,O,O] rfl rfl (any_of HT_.out (by kernel_rfl)) (fun _ _ _ h => h) (Or.inl ⟨by rfl, ?_⟩) ?_ ?_
 rotate_left
 ·
  intro w'
  go_simp
  with_reducible rfl
 rotate_left
 ·
  simp only [Act.put, List.setIfInBounds_toArray, List.set_cons_zero, List.set_cons_succ, i64_w, i32_w]
  rfl
 refine pure_ (i := 4) (N := some 11) (v := ?_) (a' := ?_) #[O,I,O,O,I,O,O,O,O,O,O,O,O,O,O,O,O] rfl rfl (any_of HT_.out (by kernel_rfl)) (fun _ _ _ h => h) (Or.inl ⟨by rfl, ?_⟩) ?_ ?_
 rotate_left
 ·
  intro w'
  go_simp
  with_reducible rfl
 rotate_left
 ·
  simp only [Act.put, List.setIfInBounds_toArray, List.set_cons_zero, List.set_cons_succ, i64_w, i32_w]
  rfl
 refine pure_ (i := 5) (N := some 12) (v := ?_) (a' := ?_) #[O,I,O,O,I,I,O,O,O,O,O,O,O,O,O,O,O] rfl rfl (any_of HT_.out (by kernel_rfl)) (fun _ _ _ h => h) (Or.inl ⟨by rfl, ?_⟩) ?_ ?_
 rotate_left
 ·
  intro w'
  go_simp
  with_reducible rfl
 rotate_left
 ·
  simp only [Act.put, List.setIfInBounds_toArray, List.set_cons_zero, List.set_cons_succ, i64_w, i32_w]
  rfl
 refine pure_ (i := 8) (N := some 15) (v := ?_) (a' := ?_) #[O,I,O,O,I,I,O,O,I,O,O,O,O,O,O,O,O] rfl rfl (any_of HT_.out (by kernel_rfl)) (fun _ _ _ h => h) (Or.inl ⟨by rfl, ?_⟩) ?_ ?_
 rotate_left
 ·
  intro w'
  go_simp
  with_reducible rfl
 rotate_left
 ·
  simp only [Act.put, List.setIfInBounds_toArray, List.set_cons_zero, List.set_cons_succ, i64_w, i32_w]
  rfl
 refine pure_ (i := 9) (N := some 16) (v := ?_) (a' := ?_) #[O,I,O,O,I,I,O,O,I,I,O,O,O,O,O,O,O] rfl rfl (any_of HT_.out (by kernel_rfl)) (fun _ _ _ h => h) (Or.inl ⟨by rfl, ?_⟩) ?_ ?_
 rotate_left
 ·
  intro w'
  go_simp
  with_reducible rfl
 rotate_left
 ·
  simp only [Act.put, List.setIfInBounds_toArray, List.set_cons_zero, List.set_cons_succ, i64_w, i32_w]
  rfl
 refine take_ (i := 0) (N := some 7) (v := ?_) (a' := ?_) #[I,I,O,O,I,I,O,O,I,I,O,O,O,O,O,O,O] rfl rfl (take_ofW HT_.out HW_.out (by kernel_rfl)) (fun _ _ _ h => h) (Or.inl ⟨by rfl, ?_⟩) hHeld ?_ ?_
 rotate_left
 ·
  intro w' s0
  go_simp
  with_reducible rfl
 rotate_left
 ·
  simp only [Act.put, List.setIfInBounds_toArray, List.set_cons_zero, List.set_cons_succ, i64_w, i32_w]
  rfl
 refine take_ (i := 3) (N := some 10) (v := ?_) (a' := ?_) #[I,I,O,I,I,I,O,O,I,I,O,O,O,O,O,O,O] rfl rfl (take_ofW HT_.out HW_.out (by kernel_rfl)) (fun _ _ _ h => h) (Or.inl ⟨by rfl, ?_⟩) hHeld ?_ ?_
 rotate_left
 ·
  intro w' s0
  go_simp
  with_reducible rfl
 rotate_left
 ·
  simp only [Act.put, List.setIfInBounds_toArray, List.set_cons_zero, List.set_cons_succ, i64_w, i32_w]
  rfl
 refine take_ (i := 7) (N := some 14) (v := ?_) (a' := ?_) #[I,I,O,I,I,I,O,I,I,I,O,O,O,O,O,O,O] rfl rfl (take_ofW HT_.out HW_.out (by kernel_rfl)) (fun _ _ _ h => h) (Or.inl ⟨by rfl, ?_⟩) hHeld ?_ ?_
 rotate_left
 ·
  intro w' s0
  go_simp
  with_reducible rfl
 rotate_left
 ·
  simp only [Act.put, List.setIfInBounds_toArray, List.set_cons_zero, List.set_cons_succ, i64_w, i32_w]
  rfl
 refine one_ (i := 2) (N := some 9) #[I,I,I,I,I,I,O,I,I,I,O,O,O,O,O,O,O] rfl rfl (one_of HT_.out (by kernel_rfl)) (by decide) (fun K hK => ?_)
 refine goes_ Tryd.func69 (by kernel_rfl) rfl #[.agg #[.string a0_0], .int .i64 a2, .int .i64 2] (by rfl) rfl rfl (by (try simp only [List.map_toArray, List.map_cons, List.map_nil]); first | done | rfl | (simp only [List.length_drop, List.length_take]; rfl)) ?_
 with_reducible refine (date_reader_number.calls k a0_0 a2 2 t105 _ A4.out).mono ?_
 rintro e w11 ⟨rfl, hb⟩
 refine ⟨_, rfl, ?_⟩
 have n0_ := Aside0.mk (blk_below (g := gb102) (o := .cells #[.string a0_0] 99 (0, 0)) (by (with_reducible repeat (first | refine blk_drewN ?_ _ | refine blk_drew ?_ | refine blk_alloc ?_ _)); exact BK102.out) hb)
 have n1_ := Aside0.mk (blk_below (g := gb103) (o := .cells #[.int .i64 a1_0, .int .i64 a1_1, .int .i64 a1_2, .int .i64 a1_3, .int .i64 a1_4, .int .i64 a1_5] 76 (0, 0)) (by (with_reducible repeat (first | refine blk_drewN ?_ _ | refine blk_drew ?_ | refine blk_alloc ?_ _)); exact BK103.out) hb)
 have n2_ := Aside0.mk (blk_below (g := gb104) (o := .cells #[.int .i64 0, .int .i64 0, .int .i64 0, .int .i64 0, .int .i64 0, .int .i64 0] 76 (0, 0)) (by (with_reducible repeat (first | refine blk_drewN ?_ _ | refine blk_drew ?_ | refine blk_alloc ?_ _)); exact BK104.out) hb)
 have n3_ := Aside0.mk (below_step (by repeat (first | (with_reducible first | exact HB.out | apply below_alloc | apply pw_below_drewN | apply below_drew1 | refine below_set ?_ GE102.out | refine below_set ?_ GE103.out | refine below_set ?_ GE104.out) | exact HB.out)) hb)
 clear BK102
 clear BK103
 clear BK104
 clear HB
 have BK102 := n0_
 have BK103 := n1_
 have BK104 := n2_
 have HB := n3_
 clear n0_ n1_ n2_ n3_
 (try clear hb)
 (try clear hb2)
 (try clear hk)
 (try clear hi)
 refine hK.out _ _ ((blk_cell BK102.out 0).trans rfl) (fun hHeld => ?_)
 clear hK K
 refine norm_ (a' := ?_) ?_ ?_
 rotate_left
 ·
  show Act.put _ (some 9) _ = _
  simp only [Act.put, List.setIfInBounds_toArray, List.set_cons_zero, List.set_cons_succ, i64_w, i32_w]
  rfl
 refine pure_ (i := 11) (N := some 18) (v := ?_) (a' := ?_) #[I,I,I,I,I,I,O,I,I,I,O,I,O,O,O,O,O] rfl rfl (any_of HT_.out (by kernel_rfl)) (fun _ _ _ h => h) (Or.inl ⟨by rfl, ?_⟩) ?_ ?_
 rotate_left
 ·
  intro w'
  go_simp
  with_reducible rfl
 rotate_left
 ·
  simp only [Act.put, List.setIfInBounds_toArray, List.set_cons_zero, List.set_cons_succ, i64_w, i32_w]
  rfl
 refine one_ (i := 6) (N := some 13) #[I,I,I,I,I,I,I,I,I,I,O,I,O,O,O,O,O] rfl rfl (one_of HT_.out (by kernel_rfl)) (by decide) (fun K hK => ?_)
 refine goes_ Tryd.func69 (by kernel_rfl) rfl #[.agg #[.string a0_0], .int .i64 (wrap64 (a2 + 3)), .int .i64 2] (by rfl) rfl rfl (by (try simp only [List.map_toArray, List.map_cons, List.map_nil]); first | done | rfl | (simp only [List.length_drop, List.length_take]; rfl)) ?_
 with_reducible refine (date_reader_number.calls k a0_0 (wrap64 (a2 + 3)) 2 t106 _ A5.out).mono ?_
 rintro e w12 ⟨rfl, hb⟩
 refine ⟨_, rfl, ?_⟩
 have n0_ := Aside0.mk (blk_below (g := gb102) (o := .cells #[.string a0_0] 99 (0, 0)) (by (with_reducible repeat (first | refine blk_drewN ?_ _ | refine blk_drew ?_ | refine blk_alloc ?_ _)); exact BK102.out) hb)
 have n1_ := Aside0.mk (blk_below (g := gb103) (o := .cells #[.int .i64 a1_0, .int .i64 a1_1, .int .i64 a1_2, .int .i64 a1_3, .int .i64 a1_4, .int .i64 a1_5] 76 (0, 0)) (by (with_reducible repeat (first | refine blk_drewN ?_ _ | refine blk_drew ?_ | refine blk_alloc ?_ _)); exact BK103.out) hb)
 have n2_ := Aside0.mk (blk_below (g := gb104) (o := .cells #[.int .i64 0, .int .i64 0, .int .i64 0, .int .i64 0, .int .i64 0, .int .i64 0] 76 (0, 0)) (by (with_reducible repeat (first | refine blk_drewN ?_ _ | refine blk_drew ?_ | refine blk_alloc ?_ _)); exact BK104.out) hb)
 have n3_ := Aside0.mk (below_step (by repeat (first | (with_reducible first | exact HB.out | apply below_alloc | apply pw_below_drewN | apply below_drew1 | refine below_set ?_ GE102.out | refine below_set ?_ GE103.out | refine below_set ?_ GE104.out) | exact HB.out)) hb)
 clear BK102
 clear BK103
 clear BK104
 clear HB
 have BK102 := n0_
 have BK103 := n1_
 have BK104 := n2_
 have HB := n3_
 clear n0_ n1_ n2_ n3_
 (try clear hb)
 (try clear hb2)
 (try clear hk)
 (try clear hi)
 refine hK.out _ _ ((blk_cell BK102.out 0).trans rfl) (fun hHeld => ?_)
 clear hK K
 refine norm_ (a' := ?_) ?_ ?_
 rotate_left
 ·
  show Act.put _ (some 13) _ = _
  simp only [Act.put, List.setIfInBounds_toArray, List.set_cons_zero, List.set_cons_succ, i64_w, i32_w]
  rfl
 refine one_ (i := 10) (N := some 17) #[I,I,I,I,I,I,I,I,I,I,I,I,O,O,O,O,O] rfl rfl (one_of HT_.out (by kernel_rfl)) (by decide) (fun K hK => ?_)
 refine goes_ Tryd.func69 (by kernel_rfl) rfl #[.agg #[.string a0_0], .int .i64 (wrap64 (a2 + 6)), .int .i64 2] (by rfl) rfl rfl (by (try simp only [List.map_toArray, List.map_cons, List.map_nil]); first | done | rfl | (simp only [List.length_drop, List.length_take]; rfl)) ?_
 with_reducible refine (date_reader_number.calls k a0_0 (wrap64 (a2 + 6)) 2 t107 _ A6.out).mono ?_
 rintro e w13 ⟨rfl, hb⟩
 refine ⟨_, rfl, ?_⟩
 have n0_ := Aside0.mk (blk_below (g := gb102) (o := .cells #[.string a0_0] 99 (0, 0)) (by (with_reducible repeat (first | refine blk_drewN ?_ _ | refine blk_drew ?_ | refine blk_alloc ?_ _)); exact BK102.out) hb)
 have n1_ := Aside0.mk (blk_below (g := gb103) (o := .cells #[.int .i64 a1_0, .int .i64 a1_1, .int .i64 a1_2, .int .i64 a1_3, .int .i64 a1_4, .int .i64 a1_5] 76 (0, 0)) (by (with_reducible repeat (first | refine blk_drewN ?_ _ | refine blk_drew ?_ | refine blk_alloc ?_ _)); exact BK103.out) hb)
 have n2_ := Aside0.mk (blk_below (g := gb104) (o := .cells #[.int .i64 0, .int .i64 0, .int .i64 0, .int .i64 0, .int .i64 0, .int .i64 0] 76 (0, 0)) (by (with_reducible repeat (first | refine blk_drewN ?_ _ | refine blk_drew ?_ | refine blk_alloc ?_ _)); exact BK104.out) hb)
 have n3_ := Aside0.mk (below_step (by repeat (first | (with_reducible first | exact HB.out | apply below_alloc | apply pw_below_drewN | apply below_drew1 | refine below_set ?_ GE102.out | refine below_set ?_ GE103.out | refine below_set ?_ GE104.out) | exact HB.out)) hb)
 clear BK102
 clear BK103
 clear BK104
 clear HB
 have BK102 := n0_
 have BK103 := n1_
 have BK104 := n2_
 have HB := n3_
 clear n0_ n1_ n2_ n3_
 (try clear hb)
 (try clear hb2)
 (try clear hk)
 (try clear hi)
 refine hK.out _ _ ((blk_cell BK102.out 0).trans rfl) (fun hHeld => ?_)
 clear hK K
 refine norm_ (a' := ?_) ?_ ?_
 rotate_left
 ·
  show Act.put _ (some 17) _ = _
  simp only [Act.put, List.setIfInBounds_toArray, List.set_cons_zero, List.set_cons_succ, i64_w, i32_w]
  rfl
 refine one_ (i := 12) (N := none) #[I,I,I,I,I,I,I,I,I,I,I,I,I,O,O,O,O] rfl rfl (one_of HT_.out (by kernel_rfl)) (by decide) (fun K hK => ?_)
 have hs14 : w13.cell? ⟨gb103, 3, none⟩ = some (.int .i64 a1_3) := (blk_cell BK103.out 3).trans rfl
 have hfs14 := blk_frozen BK103.out 3
 have hns14_0 := NB102_103.out
 have hns14_2 := NB104_103.out
 have hms14_0 := NB103_102.out
 have hms14_2 := NB103_104.out
 refine skip_ (w1 := ?_) (by rfl) rfl ?_ ?_
 rotate_left
 ·
  go_simp
  rfl
 refine hK.out _ _ (((cell_far (p := ⟨gb103, _, none⟩) NB102_103.out _).trans (hHeld))) (fun hHeld => ?_)
 clear hK K
 refine pure_ (i := 13) (N := some 19) (v := ?_) (a' := ?_) #[I,I,I,I,I,I,I,I,I,I,I,I,I,I,O,O,O] rfl rfl (any_of HT_.out (by kernel_rfl)) (fun _ _ _ h => h) (Or.inl ⟨by rfl, ?_⟩) ?_ ?_
 rotate_left
 ·
  intro w'
  go_simp
  with_reducible rfl
 rotate_left
 ·
  simp only [Act.put, List.setIfInBounds_toArray, List.set_cons_zero, List.set_cons_succ, i64_w, i32_w]
  rfl
 refine one_ (i := 14) (N := none) #[I,I,I,I,I,I,I,I,I,I,I,I,I,I,I,O,O] rfl rfl (one_of HT_.out (by kernel_rfl)) (by decide) (fun K hK => ?_)
 have hs15 : w13.cell? ⟨gb103, 4, none⟩ = some (.int .i64 a1_4) := (blk_cell BK103.out 4).trans rfl
 have hfs15 := blk_frozen BK103.out 4
 have hns15_0 := NB102_103.out
 have hns15_2 := NB104_103.out
 have hms15_0 := NB103_102.out
 have hms15_2 := NB103_104.out
 refine skip_ (w1 := ?_) (by rfl) rfl ?_ ?_
 rotate_left
 ·
  go_simp
  rfl
 refine hK.out _ _ (((cell_far (p := ⟨gb103, _, none⟩) NB102_103.out _).trans (hHeld))) (fun hHeld => ?_)
 clear hK K
 refine pure_ (i := 15) (N := some 20) (v := ?_) (a' := ?_) #[I,I,I,I,I,I,I,I,I,I,I,I,I,I,I,I,O] rfl rfl (any_of HT_.out (by kernel_rfl)) (fun _ _ _ h => h) (Or.inl ⟨by rfl, ?_⟩) ?_ ?_
 rotate_left
 ·
  intro w'
  go_simp
  with_reducible rfl
 rotate_left
 ·
  simp only [Act.put, List.setIfInBounds_toArray, List.set_cons_zero, List.set_cons_succ, i64_w, i32_w]
  rfl
 refine one_ (i := 16) (N := none) #[I,I,I,I,I,I,I,I,I,I,I,I,I,I,I,I,I] rfl rfl (one_of HT_.out (by kernel_rfl)) (by decide) (fun K hK => ?_)
 have hs16 : w13.cell? ⟨gb103, 5, none⟩ = some (.int .i64 a1_5) := (blk_cell BK103.out 5).trans rfl
 have hfs16 := blk_frozen BK103.out 5
 have hns16_0 := NB102_103.out
 have hns16_2 := NB104_103.out
 have hms16_0 := NB103_102.out
 have hms16_2 := NB103_104.out
 refine skip_ (w1 := ?_) (by rfl) rfl ?_ ?_
 rotate_left
 ·
  go_simp
  rfl
 refine hK.out _ _ (((cell_far (p := ⟨gb103, _, none⟩) NB102_103.out _).trans (hHeld))) (fun hHeld => ?_)
 clear hK K
 refine done_ (done_of HT_.out (by kernel_rfl)) ?_
 have hnb17 := NB103_102.out
 have hnc17 := NB102_103.out
 have hnb18 := NB103_104.out
 have hnc18 := NB104_103.out
 have hcz19_0 : w13.cell? ⟨gb103, 0, none⟩ = some (.int .i64 a1_0) := (blk_cell BK103.out 0).trans rfl
 have hcz19_1 : w13.cell? ⟨gb103, 1, none⟩ = some (.int .i64 a1_1) := (blk_cell BK103.out 1).trans rfl
 have hcz19_2 : w13.cell? ⟨gb103, 2, none⟩ = some (.int .i64 a1_2) := (blk_cell BK103.out 2).trans rfl
 have hcz19_3 : w13.cell? ⟨gb103, 3, none⟩ = some (.int .i64 a1_3) := (blk_cell BK103.out 3).trans rfl
 have hcz19_4 : w13.cell? ⟨gb103, 4, none⟩ = some (.int .i64 a1_4) := (blk_cell BK103.out 4).trans rfl
 have hcz19_5 : w13.cell? ⟨gb103, 5, none⟩ = some (.int .i64 a1_5) := (blk_cell BK103.out 5).trans rfl
 have hfz19_0 := blk_frozen BK103.out 0
 have hfz19_1 := blk_frozen BK103.out 1
 have hfz19_2 := blk_frozen BK103.out 2
 have hfz19_3 := blk_frozen BK103.out 3
 have hfz19_4 := blk_frozen BK103.out 4
 have hfz19_5 := blk_frozen BK103.out 5
 have hnb20 := NB104_102.out
 have hnc20 := NB102_104.out
 have hcz21_0 : w13.cell? ⟨gb104, 0, none⟩ = some (.int .i64 0) := (blk_cell BK104.out 0).trans rfl
 have hcz21_1 : w13.cell? ⟨gb104, 1, none⟩ = some (.int .i64 0) := (blk_cell BK104.out 1).trans rfl
 have hcz21_2 : w13.cell? ⟨gb104, 2, none⟩ = some (.int .i64 0) := (blk_cell BK104.out 2).trans rfl
 have hcz21_3 : w13.cell? ⟨gb104, 3, none⟩ = some (.int .i64 0) := (blk_cell BK104.out 3).trans rfl
 have hcz21_4 : w13.cell? ⟨gb104, 4, none⟩ = some (.int .i64 0) := (blk_cell BK104.out 4).trans rfl
 have hcz21_5 : w13.cell? ⟨gb104, 5, none⟩ = some (.int .i64 0) := (blk_cell BK104.out 5).trans rfl
 have hfz21_0 := blk_frozen BK104.out 0
 have hfz21_1 := blk_frozen BK104.out 1
 have hfz21_2 := blk_frozen BK104.out 2
 have hfz21_3 := blk_frozen BK104.out 3
 have hfz21_4 := blk_frozen BK104.out 4
 have hfz21_5 := blk_frozen BK104.out 5
 try go_wp2
 refine bodyPost_ret (results_cell_row rfl _ _ gb104 76 #[.int .i64 a1_0, .int .i64 a1_1, .int .i64 a1_2, .int .i64 t105, .int .i64 t106, .int .i64 t107] (0, 0) _ rfl (by (with_reducible repeat (first | refine blk_drewN ?_ _ | refine blk_drew ?_ | refine blk_alloc ?_ _)); refine blk_put (cs := #[.int .i64 a1_0, .int .i64 a1_1, .int .i64 a1_2, .int .i64 t105, .int .i64 t106, .int .i64 0]) ?_ 5 _ rfl; (with_reducible repeat (first | refine blk_drewN ?_ _ | refine blk_drew ?_ | refine blk_alloc ?_ _)); refine blk_put (cs := #[.int .i64 a1_0, .int .i64 a1_1, .int .i64 a1_2, .int .i64 t105, .int .i64 0, .int .i64 0]) ?_ 4 _ rfl; (with_reducible repeat (first | refine blk_drewN ?_ _ | refine blk_drew ?_ | refine blk_alloc ?_ _)); refine blk_put (cs := #[.int .i64 a1_0, .int .i64 a1_1, .int .i64 a1_2, .int .i64 0, .int .i64 0, .int .i64 0]) ?_ 3 _ rfl; (with_reducible repeat (first | refine blk_drewN ?_ _ | refine blk_drew ?_ | refine blk_alloc ?_ _)); refine blk_put (cs := #[.int .i64 a1_0, .int .i64 a1_1, .int .i64 0, .int .i64 0, .int .i64 0, .int .i64 0]) ?_ 2 _ rfl; (with_reducible repeat (first | refine blk_drewN ?_ _ | refine blk_drew ?_ | refine blk_alloc ?_ _)); refine blk_put (cs := #[.int .i64 a1_0, .int .i64 0, .int .i64 0, .int .i64 0, .int .i64 0, .int .i64 0]) ?_ 1 _ rfl; (with_reducible repeat (first | refine blk_drewN ?_ _ | refine blk_drew ?_ | refine blk_alloc ?_ _)); refine blk_put (cs := #[.int .i64 0, .int .i64 0, .int .i64 0, .int .i64 0, .int .i64 0, .int .i64 0]) ?_ 0 _ rfl; (with_reducible repeat (first | refine blk_drewN ?_ _ | refine blk_drew ?_ | refine blk_alloc ?_ _)); refine blk_far ?_ NB104_103.out _; (with_reducible repeat (first | refine blk_drewN ?_ _ | refine blk_drew ?_ | refine blk_alloc ?_ _)); refine blk_far ?_ NB104_103.out _; (with_reducible repeat (first | refine blk_drewN ?_ _ | refine blk_drew ?_ | refine blk_alloc ?_ _)); refine blk_far ?_ NB104_103.out _; (with_reducible repeat (first | refine blk_drewN ?_ _ | refine blk_drew ?_ | refine blk_alloc ?_ _)); exact BK104.out) Tryd.underlying76 rfl (by kernel_rfl)) rfl ?_
 exact ⟨by first | rfl | (simp [errW_none, errW_some] <;> rfl) | (simp [*, errW_none, errW_some] <;> rfl), by repeat (first | (with_reducible first | exact HB.out | apply below_alloc | apply pw_below_drewN | apply below_drew1 | refine below_set ?_ GE102.out | refine below_set ?_ GE103.out | refine below_set ?_ GE104.out) | exact HB.out)⟩

end Go.Proofs.YtcdbnphhoihldaaDoor.X
