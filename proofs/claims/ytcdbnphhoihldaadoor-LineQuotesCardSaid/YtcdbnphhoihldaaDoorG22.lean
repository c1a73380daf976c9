/- Words and walks, joined by a program. -/
import Derived.Test.YtcdbnphhoihldaaDoorG3
import Derived.Test.YtcdbnphhoihldaaDoorG13
import Derived.Test.YtcdbnphhoihldaaDoorG14
import Derived.RowKit
import Derived.Shelf.Strings.Builder1
import Derived.Shelf.Strings.Builder2
import Derived.Shelf.Strings.OnBuilder
import Derived.Shelf.Small.Strs
import Derived.Shelf.Strings.BuilderF
import Derived.Shelf.Strings.BuilderK
import Derived.Shelf.Strconv.Itoa0
import Derived.Shelf.Strconv.Itoa1
import Derived.Shelf.LaysM
import Derived.Shelf.Strconv.Itoa2
import Derived.Shelf.Strconv.Itoa3
import Derived.Shelf.Strings.Search1
import Derived.Shelf.Strings.Search2
import Derived.Shelf.Strings.Cut
import Derived.Shelf.Strings.Shaped
import Derived.Shelf.Strings.Fields
import Derived.Shelf.Strings.SplitShaped
import Derived.Shelf.Unicode.Latin
import Derived.Shelf.Unicode.Is16WhiteD
import Derived.Shelf.Unicode.Is16Any
import Derived.Shelf.Slices.Turned
import Derived.Test.YtcdbnphhoihldaaDoorProg
import Derived.Below
import Derived.Deep.Draws
import Derived.Deep.AppendLies
import Derived.Maps.AppendAt
import Derived.OwnWalk
import Derived.Laws.BytesArg
import Derived.Laws.MakeOwn
import Derived.Laws.OwnMore
import Derived.Deep.OwnRows
import Derived.Tactics
import Derived.Lib.ConvBytes
import Derived.Laws.Slices
import Derived.WalkKit
import Derived.KernelRfl
import Derived.RowKit3
import Derived.Deep.LoopGhost
import Derived.Deep.QuietTactic
import Derived.BigQuiet
import Derived.WideLaws
import Derived.Deep.DeepCutAuto
import Derived.Deep.CutBlock
import Derived.Deep.RegionHeld3
import Derived.Laws.Rows
import Derived.Lib.AppendStr
import Derived.ArgAppend
import Derived.Laws.IdiomCopy
import Derived.OrdersHeld
import Derived.Laws.BitsLemmas
import Derived.Test.YtcdbnphhoihldaaDoorG2
import Derived.Test.YtcdbnphhoihldaaDoorG1
import Derived.Test.YtcdbnphhoihldaaDoorG15
import Derived.Test.YtcdbnphhoihldaaDoorG4
import Derived.Test.YtcdbnphhoihldaaDoorG5
import Derived.Test.YtcdbnphhoihldaaDoorG6
import Derived.Test.YtcdbnphhoihldaaDoorG7
import Derived.Test.YtcdbnphhoihldaaDoorG8
import Derived.Test.YtcdbnphhoihldaaDoorG9
import Derived.Test.YtcdbnphhoihldaaDoorG10
import Derived.Test.YtcdbnphhoihldaaDoorG11
import Derived.Test.YtcdbnphhoihldaaDoorG16
import Derived.Test.YtcdbnphhoihldaaDoorG17
import Derived.Test.YtcdbnphhoihldaaDoorG18
import Derived.Test.YtcdbnphhoihldaaDoorG19
import Derived.Test.YtcdbnphhoihldaaDoorG20
import Derived.Test.YtcdbnphhoihldaaDoorG21
import Derived.Test.YtcdbnphhoihldaaDoorG12
import Derived.Lib.AppendIntMem
import Derived.Lib.ItoaMem
import Derived.Lib.Hide
/- What the printed texts lean on beside the kit's words: a fact that comes up inside a region that draws its order. -/
namespace Go.Proofs.YtcdbnphhoihldaaDoorW.PrintLast
section
variable {P : Program} {ops : Array Oper} {Q : Exit → Act → World → Prop} {md : Region.Mode} {S S' : World → Prop}
/-- From here on more is known of every world that may come: it is shown now, and each operation from here on shows it again. -/
theorem more0_ (hw : ∀ w, S' w → S w) : ∀ (n : Nat) (l : Array Bool) (a : Act) (w : World), S' w → wpAnyLast P md ops Q S' [] n l a w → wpAnyLast P md ops Q S [] n l a w
  | 0, _, _, _, _, h => h
  | n + 1, l, a, w, hs, h => ⟨h.1, fun i hi => wpOp_mono (fun a' w' h' => ⟨fun _ _ => hw _ (h'.1 (by simp) hs), more0_ hw n _ a' w' (h'.1 (by simp) hs) h'.2⟩) (h.2 i hi)⟩
theorem more_ {n : Nat} {l : Array Bool} {a : Act} {w : World} (S' : World → Prop) (hs : S' w) (hw : ∀ w, S' w → S w) (h : S' w → wpAnyLast P md ops Q S' [] n l a w) : wpAnyLast P md ops Q S [] n l a w := more0_ hw n l a w hs (h hs)
end
theorem ba_size (l : List UInt8) : (⟨l.toArray⟩ : ByteArray).size = l.length := rfl
abbrev I : Bool := true
abbrev O : Bool := false
end Go.Proofs.YtcdbnphhoihldaaDoorW.PrintLast
/- Plain Lean: a text in quotes, told and read (no program in sight). -/
namespace Go.Proofs.YtcdbnphhoihldaaDoor.Quo
set_option linter.unusedVariables false
set_option linter.unusedSimpArgs false

/-- Must a byte be told by its digits? -/
def odd (c : UInt8) : Bool := decide (c < 32) || decide (127 ≤ c)
def hexd (n : UInt8) : UInt8 := if n < 10 then 48 + n else 87 + n
/-- A digit's worth. -/
def val (c : UInt8) : Option UInt8 := if 48 ≤ c ∧ c ≤ 57 then some (c - 48) else if 97 ≤ c ∧ c ≤ 102 then some (c - 87) else if 65 ≤ c ∧ c ≤ 70 then some (c - 55) else none
def enc (c : UInt8) : List UInt8 := if c = 34 ∨ c = 92 then [92, c] else if odd c = true then [92, 120, hexd (c / 16), hexd (c % 16)] else [c]
def quote (s : List UInt8) : List UInt8 := 34 :: (s.flatMap enc ++ [34])
/-- What stands behind the opening quote: what it says, and what is left. -/
def de : List UInt8 → Option (List UInt8 × List UInt8)
  | [] => none
  | c :: r =>
    if c = 34 then some ([], r)
    else if odd c = true then none
    else if c ≠ 92 then (de r).map fun z => (c :: z.1, z.2)
    else match r with
      | [] => none
      | d :: r' =>
        if d = 34 ∨ d = 92 then (de r').map fun z => (d :: z.1, z.2)
        else match r' with
          | h :: l :: r'' => if d = 120 then match val h, val l with
              | some a, some b => if odd (16 * a + b) = true then (de r'').map fun z => ((16 * a + b) :: z.1, z.2) else none
              | _, _ => none
            else none
          | _ => none
def unq (s : List UInt8) : List UInt8 × Bool := match s with
  | 34 :: r => match de r with
    | some (x, []) => (x, true)
    | _ => ([], false)
  | _ => ([], false)
theorem all_u8 {p : UInt8 → Prop} [DecidablePred p] (h : ∀ n : Fin 256, p (UInt8.ofNat n.val)) (c : UInt8) : p c := by
  have := h ⟨c.toNat, c.toNat_lt⟩
  simpa using this
theorem hex_back (c : UInt8) : val (hexd (c / 16)) = some (c / 16) ∧ val (hexd (c % 16)) = some (c % 16) ∧ 16 * (c / 16) + c % 16 = c :=
  all_u8 (p := fun c => val (hexd (c / 16)) = some (c / 16) ∧ val (hexd (c % 16)) = some (c % 16) ∧ 16 * (c / 16) + c % 16 = c) (by decide +kernel) c
theorem enc_ok (c : UInt8) : ∀ b ∈ enc c, 32 ≤ b ∧ b ≤ 126 :=
  all_u8 (p := fun c => ∀ b ∈ enc c, 32 ≤ b ∧ b ≤ 126) (by decide +kernel) c
theorem de_enc (c : UInt8) (r : List UInt8) : de (enc c ++ r) = (de r).map fun z => (c :: z.1, z.2) := by
  unfold enc
  by_cases h1 : c = 34 ∨ c = 92
  · rw [if_pos h1]
    have o : odd 92 = false := by decide
    simp only [List.cons_append, List.nil_append]
    rw [de.eq_def]
    simp only [o, h1, if_true, Bool.false_eq_true, if_false, ne_eq, not_true]
    rw [if_neg (by decide)]
  · rw [if_neg h1]
    by_cases h2 : odd c = true
    · rw [if_pos h2]
      obtain ⟨e1, e2, e3⟩ := hex_back c
      have o : odd 92 = false := by decide
      simp only [List.cons_append, List.nil_append]
      rw [de.eq_def]
      simp only [o, Bool.false_eq_true, if_false, ne_eq, not_true, e1, e2, e3, h2, if_true]
      rw [if_neg (by decide), if_neg (by decide)]
    · rw [if_neg h2]
      simp only [List.cons_append, List.nil_append]
      conv => lhs; rw [de.eq_def]
      have a : c ≠ 34 := fun z => h1 (.inl z)
      have b : c ≠ 92 := fun z => h1 (.inr z)
      simp only [a, b, h2, if_false, if_true, ne_eq, not_false_eq_true, Bool.false_eq_true]
theorem de_quote (s r : List UInt8) : de (s.flatMap enc ++ 34 :: r) = some (s, r) := by
  induction s with
  | nil => rw [List.flatMap_nil, List.nil_append, de.eq_def]; rfl
  | cons c s ih => rw [List.flatMap_cons, List.append_assoc, de_enc, ih]; rfl
theorem unq_quote (s : List UInt8) : unq (quote s) = (s, true) := by
  unfold quote unq
  have := de_quote s []
  simp only [this]
theorem quote_ok (s : List UInt8) : ∀ b ∈ quote s, 32 ≤ b ∧ b ≤ 126 := by
  intro b hb
  unfold quote at hb
  rcases List.mem_cons.1 hb with rfl | hb
  · decide
  · rcases List.mem_append.1 hb with hb | hb
    · obtain ⟨c, _, h⟩ := List.mem_flatMap.1 hb
      exact enc_ok c b h
    · obtain rfl := List.mem_singleton.1 hb
      decide
end Go.Proofs.YtcdbnphhoihldaaDoor.Quo
/- Plain arithmetic of the calendar: years' and months' lengths, days' numbers. No program here. -/
namespace Go.Proofs.YtcdbnphhoihldaaDoor.Cal
open Go.RowKit

theorem w64 {x : Int} (h0 : -9223372036854775808 ≤ x) (h1 : x ≤ 9223372036854775807) : wrap64 x = x := by unfold wrap64; omega

/-- 1 where the year is a leap year. -/
def lp (y : Int) : Int := if y % 4 = 0 then (if y % 100 = 0 then (if y % 400 = 0 then 1 else 0) else 1) else 0
theorem lp_01 (y : Int) : lp y = 0 ∨ lp y = 1 := by unfold lp; split <;> (try split) <;> (try split) <;> simp
/-- A month's length (January is 0). -/
def len (y m : Int) : Int := if m = 1 then 28 + lp y else if m = 3 ∨ m = 5 ∨ m = 8 ∨ m = 10 then 30 else 31
theorem len_lo (y m : Int) : 28 ≤ len y m := by have := lp_01 y; unfold len; split <;> (try split) <;> omega
theorem len_hi (y m : Int) : len y m ≤ 31 := by have := lp_01 y; unfold len; split <;> (try split) <;> omega
/-- Days ahead of a year, from 1970 on. -/
def dys (y : Int) : Int := 365 * (y - 1970) + ((y - 1) / 4 - (y - 1) / 100 + (y - 1) / 400) - 477
theorem dys_succ (y : Int) : dys (y + 1) = dys y + 365 + lp y := by
  unfold dys lp
  split
  · split
    · split <;> omega
    · omega
  · omega
theorem dys_1970 : dys 1970 = 0 := by decide
theorem dys_10000 : dys 10000 = 2932897 := by decide
theorem dys_le {a b : Int} (h : a ≤ b) : dys a ≤ dys b := by unfold dys; omega
/-- Days ahead of a month in its year. -/
def cum (y m : Int) : Int := if m ≤ 0 then 0 else if m = 1 then 31 else (if m = 2 then 59 else if m = 3 then 90 else if m = 4 then 120 else if m = 5 then 151 else if m = 6 then 181 else if m = 7 then 212 else if m = 8 then 243 else if m = 9 then 273 else if m = 10 then 304 else if m = 11 then 334 else 365) + lp y
theorem cum_0 (y : Int) : cum y 0 = 0 := rfl
theorem cum_12 (y : Int) : cum y 12 = 365 + lp y := rfl
theorem cum_succ (y m : Int) (h0 : 0 ≤ m) (h1 : m < 12) : cum y (m + 1) = cum y m + len y m := by
  obtain ⟨n, rfl⟩ := Int.eq_ofNat_of_zero_le h0
  match n, h1 with
  | 0, _ | 1, _ | 2, _ | 3, _ | 4, _ | 5, _ | 6, _ | 7, _ | 8, _ | 9, _ | 10, _ | 11, _ => simp [cum, len]; try omega
  | n + 12, h => omega
theorem cum_mono (y : Int) {a b : Int} (h0 : 0 ≤ a) (h : a ≤ b) (h1 : b ≤ 12) : cum y a ≤ cum y b := by
  obtain ⟨d, hd⟩ := Int.eq_ofNat_of_zero_le (show 0 ≤ b - a by omega)
  obtain rfl : b = a + d := by omega
  clear hd h
  induction d with
  | zero => simp
  | succ d ih =>
    have := cum_succ y (a + d) (by omega) (by omega)
    have := len_lo y (a + d)
    have := ih (by omega)
    have e : a + ((d + 1 : Nat) : Int) = a + d + 1 := by omega
    rw [e]
    omega
theorem cum_pos (y m : Int) (h0 : 0 ≤ m) (h1 : m ≤ 12) : 0 ≤ cum y m ∧ cum y m ≤ 366 := by
  have h2 := cum_mono y (Int.le_refl 0) h0 h1
  have h3 := cum_mono y h0 h1 (Int.le_refl 12)
  rw [cum_0] at h2
  rw [cum_12] at h3
  have := lp_01 y
  omega
/-- A date that may be. -/
structure Ok (y m d : Int) : Prop where
  y0 : 1970 ≤ y
  y1 : y ≤ 9999
  m0 : 0 ≤ m
  m1 : m < 12
  d0 : 1 ≤ d
  d1 : d ≤ len y m
/-- A date's number. -/
def num (y m d : Int) : Int := dys y + cum y m + d - 1
theorem Ok.lo {y m d : Int} (h : Ok y m d) : dys y ≤ num y m d := by
  have := (cum_pos y m h.m0 (by have := h.m1; omega)).1
  have := h.d0
  unfold num
  omega
theorem Ok.hi {y m d : Int} (h : Ok y m d) : num y m d < dys (y + 1) := by
  have h1 := cum_succ y m h.m0 h.m1
  have h2 := cum_mono y (show 0 ≤ m + 1 by have := h.m0; omega) (show m + 1 ≤ 12 by have := h.m1; omega) (Int.le_refl 12)
  rw [cum_12] at h2
  have h3 := dys_succ y
  have := h.d1
  unfold num
  omega
theorem Ok.bound {y m d : Int} (h : Ok y m d) : 0 ≤ num y m d ∧ num y m d ≤ 2932896 := by
  have h1 := h.lo
  have h2 := h.hi
  have h3 := dys_le h.y0
  have h4 := dys_le (show y + 1 ≤ 10000 by have := h.y1; omega)
  rw [dys_1970] at h3
  rw [dys_10000] at h4
  omega
/-- A number is one date's alone. -/
theorem num_inj {y m d y' m' d' : Int} (h : Ok y m d) (h' : Ok y' m' d') (e : num y m d = num y' m' d') : y = y' ∧ m = m' ∧ d = d' := by
  have l := h.lo; have l' := h'.lo; have u := h.hi; have u' := h'.hi
  have hy : y = y' := by
    rcases Int.lt_trichotomy y y' with hlt | heq | hgt
    · have := dys_le (show y + 1 ≤ y' by omega); omega
    · exact heq
    · have := dys_le (show y' + 1 ≤ y by omega); omega
  subst hy
  have hm : m = m' := by
    have c := cum_succ y m h.m0 h.m1
    have c' := cum_succ y m' h'.m0 h'.m1
    have := h.d0; have := h.d1; have := h'.d0; have := h'.d1
    unfold num at e
    rcases Int.lt_trichotomy m m' with hlt | heq | hgt
    · have := cum_mono y (show 0 ≤ m + 1 by have := h.m0; omega) (show m + 1 ≤ m' by omega) (by have := h'.m1; omega); omega
    · exact heq
    · have := cum_mono y (show 0 ≤ m' + 1 by have := h'.m0; omega) (show m' + 1 ≤ m by omega) (by have := h.m1; omega); omega
  subst hm
  unfold num at e
  exact ⟨rfl, rfl, by omega⟩
end Go.Proofs.YtcdbnphhoihldaaDoor.Cal
/-
  DERIVED: THE SHELF's CONTRACTS AT THIS DUMP, IN PLAIN WORDS (tools/lay-plain.mjs out of 'TrydShelf.lean', which tools/lay-shelf.mjs wrote): THE SAME DECLARATIONS UNDER THE SAME NAMES: 'import', 'namespace', 'open', 'def', 'theorem' AND NOTHING ELSE: no command of the shelf's: FOR A HAND-IN. Each laying: the table of numbers ('.._ren') and one theorem, a field a fact of the dump's own or the kernel's comparison; each contract: ONE APPLICATION.
-/
namespace Go.Proofs
open Go.Shelf
def Tryd.lays156_ren : Go.Shelf.Ren := ⟨fun | 156 => 19 | 165 => 36 | 166 => 37 | 169 => 38 | 240 => 59 | 241 => 60 | 276 => 72 | 277 => 73 | n => n, fun | 31 => 45 | 9 => 9 | 3 => 3 | 4 => 4 | 0 => 0 | 20 => 20 | 72 => 68 | 76 => 72 | 70 => 66 | 37 => 60 | 75 => 71 | 127 => 92 | 164 => 103 | 5 => 5 | 80 => 74 | n => n, fun | n => n⟩
theorem Tryd.lays156 : Go.Proofs.Lays.n156 Tryd.prog Tryd.lays156_ren := {
  mixed := by kernel_rfl
  f156 := Tryd.func19.trans (congrArg some (by kernel_rfl))
  f165 := Tryd.func36.trans (congrArg some (by kernel_rfl))
  f166 := Tryd.func37.trans (congrArg some (by kernel_rfl))
  f169 := Tryd.func38.trans (congrArg some (by kernel_rfl))
  f240 := Tryd.func59.trans (congrArg some (by kernel_rfl))
  f241 := Tryd.func60.trans (congrArg some (by kernel_rfl))
  f276 := Tryd.func72.trans (congrArg some (by kernel_rfl))
  f277 := Tryd.func73.trans (congrArg some (by kernel_rfl))
  t0 := Tryd.underlying0
  a0 := Tryd.isAgg0
  z0 := Tryd.sizeOf0
  v0 := Tryd.zeroValue0
  t3 := Tryd.underlying3
  a3 := Tryd.isAgg3
  z3 := Tryd.sizeOf3
  v3 := Tryd.zeroValue3
  t4 := Tryd.underlying4
  a4 := Tryd.isAgg4
  z4 := Tryd.sizeOf4
  v4 := Tryd.zeroValue4
  t9 := Tryd.underlying9
  a9 := Tryd.isAgg9
  z9 := Tryd.sizeOf9
  v9 := Tryd.zeroValue9
  t20 := Tryd.underlying20
  a20 := Tryd.isAgg20
  z20 := Tryd.sizeOf20
  v20 := Tryd.zeroValue20
  t31 := Tryd.underlying45
  a31 := Tryd.isAgg45
  z31 := Tryd.sizeOf45
  v31 := Tryd.zeroValue45
  t37 := Tryd.underlying60
  a37 := Tryd.isAgg60
  z37 := Tryd.sizeOf60
  v37 := Tryd.zeroValue60
  t70 := Tryd.underlying66
  a70 := Tryd.isAgg66
  z70 := Tryd.sizeOf66
  v70 := Tryd.zeroValue66
  t72 := Tryd.underlying68
  a72 := Tryd.isAgg68
  z72 := Tryd.sizeOf68
  v72 := Tryd.zeroValue68
  t75 := Tryd.underlying71
  a75 := Tryd.isAgg71
  z75 := Tryd.sizeOf71
  v75 := Tryd.zeroValue71
  t76 := Tryd.underlying72
  a76 := Tryd.isAgg72
  z76 := Tryd.sizeOf72
  v76 := Tryd.zeroValue72
  t127 := Tryd.underlying92
  a127 := Tryd.isAgg92
  z127 := Tryd.sizeOf92
  v127 := Tryd.zeroValue92
  t164 := Tryd.underlying103
  a164 := Tryd.isAgg103
  z164 := Tryd.sizeOf103
  v164 := Tryd.zeroValue103 }
theorem Tryd.Builder_Extra_156 : Builder.Extra Tryd.prog Tryd.lays156_ren := {
  sizeBuilder := by kernel_rfl
  liesBuilder := by kernel_rfl
  t5 := Tryd.underlying5
  a5 := Tryd.isAgg5
  z5 := Tryd.sizeOf5
  v5 := Tryd.zeroValue5
  infoByte := by kernel_rfl
  cellsByte := by kernel_rfl
  sizeByte := by kernel_rfl
  neB5 := by decide }
open Go.RowKit in
/-- strings.Join: "Join concatenates the elements of its first argument to create a single string. The separator string sep is placed between elements in the resulting string.": HOWEVER MANY ELEMENTS. Below the heap's end the world is as it was. (LAID: no walk: one application.) -/
theorem Tryd.strings_Join (bk o c : Nat) (xs : List ByteArray) (sep : ByteArray) (w : World) (hcells : ∀ (j : Nat) x, xs[j]? = some x → w.cell? ⟨bk, o + j, none⟩ = some (.string x)) (hbk : bk < w.heap.size) (hN : xs.length ≤ 140737488355328) (hcap : xs.length ≤ c) (hlen : (Lib.join (xs.map (·.data.toList)) sep.data.toList).length ≤ 140737488355328) :
    Calls Tryd.prog 19 #[.slice (some ⟨bk, o, none⟩) xs.length c, .string sep] w fun e w' => e = .returned (.string ⟨(Lib.join (xs.map (·.data.toList)) sep.data.toList).toArray⟩) ∧ Below w.heap.size w w' := Any.strings_Join Tryd.lays156 Tryd.Builder_Extra_156 bk o c xs sep w hcells hbk hN hcap hlen
def Tryd.lays137_ren : Go.Shelf.Ren := ⟨fun | 137 => 67 | 217 => 80 | 266 => 90 | n => n, fun | 9 => 9 | 5 => 5 | 3 => 3 | n => n, fun | n => n⟩
theorem Tryd.lays137 : Go.Proofs.Lays.n137 Tryd.prog Tryd.lays137_ren := {
  mixed := by kernel_rfl
  f137 := Tryd.func67.trans (congrArg some (by kernel_rfl))
  f217 := Tryd.func80.trans (congrArg some (by kernel_rfl))
  f266 := Tryd.func90.trans (congrArg some (by kernel_rfl))
  t3 := Tryd.underlying3
  a3 := Tryd.isAgg3
  z3 := Tryd.sizeOf3
  v3 := Tryd.zeroValue3
  t5 := Tryd.underlying5
  a5 := Tryd.isAgg5
  z5 := Tryd.sizeOf5
  v5 := Tryd.zeroValue5
  t9 := Tryd.underlying9
  a9 := Tryd.isAgg9
  z9 := Tryd.sizeOf9
  v9 := Tryd.zeroValue9 }
open Go.RowKit in
/-- strings.IndexByte: "IndexByte returns the index of the first instance of c in s, or -1 if c is not present in s.": IT RETURNS 'Lib.indexByte s c'; the world is as it was. (LAID: no walk: one application.) -/
theorem Tryd.strings_IndexByte (s : ByteArray) (c : Int) (w : World) :
    Calls Tryd.prog 67 #[.string s, .int .u8 c] w fun e w' => e = .returned (.int .i64 (Lib.indexByte s.data.toList c.toNat.toUInt8)) ∧ w' = w := Any.strings_IndexByte Tryd.lays137 s c w
def Tryd.laysM171_ren : Go.Shelf.Ren := ⟨fun | 171 => 22 | 243 => 44 | 246 => 65 | 283 => 76 | 284 => 77 | 285 => 78 | 286 => 79 | 129 => 86 | 317 => 85 | 318 => 87 | 319 => 88 | 320 => 89 | 337 => 94 | 338 => 95 | n => n, fun | 3 => 3 | 9 => 9 | 2 => 2 | 4 => 4 | 171 => 109 | 0 => 0 | 53 => 110 | 37 => 60 | 5 => 5 | 173 => 113 | 212 => 122 | 51 => 118 | 20 => 20 | 213 => 123 | 46 => 62 | 232 => 140 | 233 => 141 | n => n, fun | 17 => 3 | 18 => 4 | 19 => 5 | n => n⟩
theorem Tryd.laysM171 : Go.Proofs.LaysM.n171 Tryd.prog Tryd.laysM171_ren := {
  mixed := by kernel_rfl
  f129 := Tryd.func86.trans (congrArg some (by kernel_rfl))
  f171 := Tryd.func22.trans (congrArg some (by kernel_rfl))
  f243 := Tryd.func44.trans (congrArg some (by kernel_rfl))
  f246 := Tryd.func65.trans (congrArg some (by kernel_rfl))
  f283 := Tryd.func76.trans (congrArg some (by kernel_rfl))
  f284 := Tryd.func77.trans (congrArg some (by kernel_rfl))
  f285 := Tryd.func78.trans (congrArg some (by kernel_rfl))
  f286 := Tryd.func79.trans (congrArg some (by kernel_rfl))
  f317 := Tryd.func85.trans (congrArg some (by kernel_rfl))
  f318 := Tryd.func87.trans (congrArg some (by kernel_rfl))
  f319 := Tryd.func88.trans (congrArg some (by kernel_rfl))
  f320 := Tryd.func89.trans (congrArg some (by kernel_rfl))
  f337 := Tryd.func94.trans (congrArg some (by kernel_rfl))
  f338 := Tryd.func95.trans (congrArg some (by kernel_rfl))
  t0 := Tryd.underlying0
  a0 := Tryd.isAgg0
  z0 := Tryd.sizeOf0
  v0 := Tryd.zeroValue0
  t2 := Tryd.underlying2
  a2 := Tryd.isAgg2
  z2 := Tryd.sizeOf2
  v2 := Tryd.zeroValue2
  t3 := Tryd.underlying3
  a3 := Tryd.isAgg3
  z3 := Tryd.sizeOf3
  v3 := Tryd.zeroValue3
  t4 := Tryd.underlying4
  a4 := Tryd.isAgg4
  z4 := Tryd.sizeOf4
  v4 := Tryd.zeroValue4
  t5 := Tryd.underlying5
  a5 := Tryd.isAgg5
  z5 := Tryd.sizeOf5
  v5 := Tryd.zeroValue5
  t9 := Tryd.underlying9
  a9 := Tryd.isAgg9
  z9 := Tryd.sizeOf9
  v9 := Tryd.zeroValue9
  t20 := Tryd.underlying20
  a20 := Tryd.isAgg20
  z20 := Tryd.sizeOf20
  v20 := Tryd.zeroValue20
  t37 := Tryd.underlying60
  a37 := Tryd.isAgg60
  z37 := Tryd.sizeOf60
  v37 := Tryd.zeroValue60
  t46 := Tryd.underlying62
  a46 := Tryd.isAgg62
  z46 := Tryd.sizeOf62
  v46 := Tryd.zeroValue62
  t51 := Tryd.underlying118
  a51 := Tryd.isAgg118
  z51 := Tryd.sizeOf118
  v51 := Tryd.zeroValue118
  t53 := Tryd.underlying110
  a53 := Tryd.isAgg110
  z53 := Tryd.sizeOf110
  v53 := Tryd.zeroValue110
  t171 := Tryd.underlying109
  a171 := Tryd.isAgg109
  z171 := Tryd.sizeOf109
  v171 := Tryd.zeroValue109
  t173 := Tryd.underlying113
  a173 := Tryd.isAgg113
  z173 := Tryd.sizeOf113
  v173 := Tryd.zeroValue113
  t212 := Tryd.underlying122
  a212 := Tryd.isAgg122
  z212 := Tryd.sizeOf122
  v212 := Tryd.zeroValue122
  t213 := Tryd.underlying123
  a213 := Tryd.isAgg123
  z213 := Tryd.sizeOf123
  t232 := Tryd.underlying140
  a232 := Tryd.isAgg140
  z232 := Tryd.sizeOf140
  v232 := Tryd.zeroValue140
  t233 := Tryd.underlying141
  a233 := Tryd.isAgg141
  z233 := Tryd.sizeOf141
  v233 := Tryd.zeroValue141
  g17 := by kernel_rfl
  g18 := by kernel_rfl
  g19 := by kernel_rfl
  i0 := by kernel_rfl
  i2 := by kernel_rfl
  i3 := by kernel_rfl
  i4 := by kernel_rfl
  i5 := by kernel_rfl
  i9 := by kernel_rfl
  i20 := by kernel_rfl
  i37 := by kernel_rfl
  i46 := by kernel_rfl
  i51 := by kernel_rfl
  i53 := by kernel_rfl
  i171 := by kernel_rfl
  i173 := by kernel_rfl
  i212 := by kernel_rfl
  i232 := by kernel_rfl
  i233 := by kernel_rfl
  m17 := by kernel_rfl
  m18 := by kernel_rfl
  m19 := by kernel_rfl }
open Go.RowKit Go.Sort Go.Lib in
/-- strconv.Itoa: "Itoa is equivalent to FormatInt(int64(i), 10).": i's DECIMAL NUMERAL ('Lib.itoa': a '-' where i is negative, then the digits), FOR EVERY int. The world behind the call: the world before it, new blocks behind the heap (the library's 'var a [24]byte'), draws. (LAID: no walk: one application.) -/
theorem Tryd.strconv_Itoa (n : Int) (h0 : -9223372036854775808 ≤ n) (h1 : n ≤ 9223372036854775807) (w : World) (htab : Lib.TabIs Tryd.prog w "internal/strconv.uint64pow10" .u64 Lib.pow10Tab) :
    Calls Tryd.prog 22 #[.int .i64 n] w fun e w' => e = .returned (.string ⟨(Lib.itoa n).toArray⟩) ∧ ∃ k os, w' = grow (w.drewN k) os := Any.strconv_Itoa Tryd.laysM171 n h0 h1 w htab
def Tryd.lays171_ren : Go.Shelf.Ren := ⟨fun | 171 => 22 | 243 => 44 | 246 => 65 | 283 => 76 | 284 => 77 | 285 => 78 | 286 => 79 | 129 => 86 | 317 => 85 | 318 => 87 | 319 => 88 | 320 => 89 | 337 => 94 | 338 => 95 | n => n, fun | 3 => 3 | 9 => 9 | 2 => 2 | 4 => 4 | 171 => 109 | 0 => 0 | 53 => 110 | 37 => 60 | 5 => 5 | 173 => 113 | 212 => 122 | 51 => 118 | 20 => 20 | 213 => 123 | 46 => 62 | 232 => 140 | 233 => 141 | n => n, fun | 17 => 3 | 18 => 4 | 19 => 5 | n => n⟩
theorem Tryd.lays171 : Go.Proofs.Lays.n171 Tryd.prog Tryd.lays171_ren := {
  mixed := by kernel_rfl
  f129 := Tryd.func86.trans (congrArg some (by kernel_rfl))
  f171 := Tryd.func22.trans (congrArg some (by kernel_rfl))
  f243 := Tryd.func44.trans (congrArg some (by kernel_rfl))
  f246 := Tryd.func65.trans (congrArg some (by kernel_rfl))
  f283 := Tryd.func76.trans (congrArg some (by kernel_rfl))
  f284 := Tryd.func77.trans (congrArg some (by kernel_rfl))
  f285 := Tryd.func78.trans (congrArg some (by kernel_rfl))
  f286 := Tryd.func79.trans (congrArg some (by kernel_rfl))
  f317 := Tryd.func85.trans (congrArg some (by kernel_rfl))
  f318 := Tryd.func87.trans (congrArg some (by kernel_rfl))
  f319 := Tryd.func88.trans (congrArg some (by kernel_rfl))
  f320 := Tryd.func89.trans (congrArg some (by kernel_rfl))
  f337 := Tryd.func94.trans (congrArg some (by kernel_rfl))
  f338 := Tryd.func95.trans (congrArg some (by kernel_rfl))
  t0 := Tryd.underlying0
  a0 := Tryd.isAgg0
  z0 := Tryd.sizeOf0
  v0 := Tryd.zeroValue0
  t2 := Tryd.underlying2
  a2 := Tryd.isAgg2
  z2 := Tryd.sizeOf2
  v2 := Tryd.zeroValue2
  t3 := Tryd.underlying3
  a3 := Tryd.isAgg3
  z3 := Tryd.sizeOf3
  v3 := Tryd.zeroValue3
  t4 := Tryd.underlying4
  a4 := Tryd.isAgg4
  z4 := Tryd.sizeOf4
  v4 := Tryd.zeroValue4
  t5 := Tryd.underlying5
  a5 := Tryd.isAgg5
  z5 := Tryd.sizeOf5
  v5 := Tryd.zeroValue5
  t9 := Tryd.underlying9
  a9 := Tryd.isAgg9
  z9 := Tryd.sizeOf9
  v9 := Tryd.zeroValue9
  t20 := Tryd.underlying20
  a20 := Tryd.isAgg20
  z20 := Tryd.sizeOf20
  v20 := Tryd.zeroValue20
  t37 := Tryd.underlying60
  a37 := Tryd.isAgg60
  z37 := Tryd.sizeOf60
  v37 := Tryd.zeroValue60
  t46 := Tryd.underlying62
  a46 := Tryd.isAgg62
  z46 := Tryd.sizeOf62
  v46 := Tryd.zeroValue62
  t51 := Tryd.underlying118
  a51 := Tryd.isAgg118
  z51 := Tryd.sizeOf118
  v51 := Tryd.zeroValue118
  t53 := Tryd.underlying110
  a53 := Tryd.isAgg110
  z53 := Tryd.sizeOf110
  v53 := Tryd.zeroValue110
  t171 := Tryd.underlying109
  a171 := Tryd.isAgg109
  z171 := Tryd.sizeOf109
  v171 := Tryd.zeroValue109
  t173 := Tryd.underlying113
  a173 := Tryd.isAgg113
  z173 := Tryd.sizeOf113
  v173 := Tryd.zeroValue113
  t212 := Tryd.underlying122
  a212 := Tryd.isAgg122
  z212 := Tryd.sizeOf122
  v212 := Tryd.zeroValue122
  t213 := Tryd.underlying123
  a213 := Tryd.isAgg123
  z213 := Tryd.sizeOf123
  t232 := Tryd.underlying140
  a232 := Tryd.isAgg140
  z232 := Tryd.sizeOf140
  v232 := Tryd.zeroValue140
  t233 := Tryd.underlying141
  a233 := Tryd.isAgg141
  z233 := Tryd.sizeOf141
  v233 := Tryd.zeroValue141
  g17 := by kernel_rfl
  g18 := by kernel_rfl
  g19 := by kernel_rfl }
open Go.RowKit Go.Sort Go.Lib in
/-- THE ROAD WITHOUT THE TABLE: 0 <= i < 100: NO PREMISE ON THE WORLD, AND THE WORLD IS AS IT WAS: a row that keeps its argument in that range need list no table ('laid = []'). (LAID: no walk: one application.) -/
theorem Tryd.strconv_Itoa_small (i : Nat) (hi : i < 100) (w : World) :
    Calls Tryd.prog 22 #[.int .i64 i] w fun e w' => e = .returned (.string ⟨(Lib.decDigits i).toArray⟩) ∧ w' = w := Any.strconv_Itoa_small Tryd.lays171 i hi w
def Tryd.lays145_ren : Go.Shelf.Ren := ⟨fun | 145 => 27 | 220 => 55 | 219 => 71 | 217 => 80 | 225 => 81 | 224 => 82 | 267 => 83 | 266 => 90 | 314 => 91 | n => n, fun | 9 => 9 | 4 => 4 | 59 => 49 | 3 => 3 | 5 => 5 | 46 => 62 | 146 => 125 | 51 => 118 | n => n, fun | 1 => 1 | n => n⟩
theorem Tryd.lays145 : Go.Proofs.Lays.n145 Tryd.prog Tryd.lays145_ren := {
  mixed := by kernel_rfl
  f145 := Tryd.func27.trans (congrArg some (by kernel_rfl))
  f217 := Tryd.func80.trans (congrArg some (by kernel_rfl))
  f219 := Tryd.func71.trans (congrArg some (by kernel_rfl))
  f220 := Tryd.func55.trans (congrArg some (by kernel_rfl))
  f224 := Tryd.func82.trans (congrArg some (by kernel_rfl))
  f225 := Tryd.func81.trans (congrArg some (by kernel_rfl))
  f266 := Tryd.func90.trans (congrArg some (by kernel_rfl))
  f267 := Tryd.func83.trans (congrArg some (by kernel_rfl))
  f314 := Tryd.func91.trans (congrArg some (by kernel_rfl))
  t3 := Tryd.underlying3
  a3 := Tryd.isAgg3
  z3 := Tryd.sizeOf3
  v3 := Tryd.zeroValue3
  t4 := Tryd.underlying4
  a4 := Tryd.isAgg4
  z4 := Tryd.sizeOf4
  v4 := Tryd.zeroValue4
  t5 := Tryd.underlying5
  a5 := Tryd.isAgg5
  z5 := Tryd.sizeOf5
  v5 := Tryd.zeroValue5
  t9 := Tryd.underlying9
  a9 := Tryd.isAgg9
  z9 := Tryd.sizeOf9
  v9 := Tryd.zeroValue9
  t46 := Tryd.underlying62
  a46 := Tryd.isAgg62
  z46 := Tryd.sizeOf62
  v46 := Tryd.zeroValue62
  t51 := Tryd.underlying118
  a51 := Tryd.isAgg118
  z51 := Tryd.sizeOf118
  v51 := Tryd.zeroValue118
  t59 := Tryd.underlying49
  a59 := Tryd.isAgg49
  z59 := Tryd.sizeOf49
  v59 := Tryd.zeroValue49
  t146 := Tryd.underlying125
  a146 := Tryd.isAgg125
  z146 := Tryd.sizeOf125
  v146 := Tryd.zeroValue125
  g1 := by kernel_rfl }
open Go.RowKit Go.Lib in
/-- strings.Cut: "Cut slices s around the first instance of sep, returning the text before and after sep. The found result reports whether sep appears in s. If sep does not appear in s, cut returns s, "", false.": IT RETURNS 'Lib.cut s sep'; the world is as it was but for the count of draws. (LAID: no walk: one application.) -/
theorem Tryd.strings_Cut (s sep : ByteArray) (m : Int) (w : World) (hs : s.size < 4294967281) (hm : w.cell? ⟨1, 0, none⟩ = some (.int .i64 m)) :
    Calls Tryd.prog 27 #[.string s, .string sep] w fun e w' => e = .returned (.tuple #[.string ⟨(Lib.cut s.data.toList sep.data.toList).1.toArray⟩, .string ⟨(Lib.cut s.data.toList sep.data.toList).2.1.toArray⟩, .bool (Lib.cut s.data.toList sep.data.toList).2.2]) ∧ ∃ n, w' = w.drewN n := Any.strings_Cut Tryd.lays145 s sep m w hs hm
def Tryd.laysM145_ren : Go.Shelf.Ren := ⟨fun | 145 => 27 | 220 => 55 | 219 => 71 | 217 => 80 | 225 => 81 | 224 => 82 | 267 => 83 | 266 => 90 | 314 => 91 | n => n, fun | 9 => 9 | 4 => 4 | 59 => 49 | 3 => 3 | 5 => 5 | 46 => 62 | 146 => 125 | 51 => 118 | n => n, fun | 1 => 1 | n => n⟩
theorem Tryd.laysM145 : Go.Proofs.LaysM.n145 Tryd.prog Tryd.laysM145_ren := {
  mixed := by kernel_rfl
  f145 := Tryd.func27.trans (congrArg some (by kernel_rfl))
  f217 := Tryd.func80.trans (congrArg some (by kernel_rfl))
  f219 := Tryd.func71.trans (congrArg some (by kernel_rfl))
  f220 := Tryd.func55.trans (congrArg some (by kernel_rfl))
  f224 := Tryd.func82.trans (congrArg some (by kernel_rfl))
  f225 := Tryd.func81.trans (congrArg some (by kernel_rfl))
  f266 := Tryd.func90.trans (congrArg some (by kernel_rfl))
  f267 := Tryd.func83.trans (congrArg some (by kernel_rfl))
  f314 := Tryd.func91.trans (congrArg some (by kernel_rfl))
  t3 := Tryd.underlying3
  a3 := Tryd.isAgg3
  z3 := Tryd.sizeOf3
  v3 := Tryd.zeroValue3
  t4 := Tryd.underlying4
  a4 := Tryd.isAgg4
  z4 := Tryd.sizeOf4
  v4 := Tryd.zeroValue4
  t5 := Tryd.underlying5
  a5 := Tryd.isAgg5
  z5 := Tryd.sizeOf5
  v5 := Tryd.zeroValue5
  t9 := Tryd.underlying9
  a9 := Tryd.isAgg9
  z9 := Tryd.sizeOf9
  v9 := Tryd.zeroValue9
  t46 := Tryd.underlying62
  a46 := Tryd.isAgg62
  z46 := Tryd.sizeOf62
  v46 := Tryd.zeroValue62
  t51 := Tryd.underlying118
  a51 := Tryd.isAgg118
  z51 := Tryd.sizeOf118
  v51 := Tryd.zeroValue118
  t59 := Tryd.underlying49
  a59 := Tryd.isAgg49
  z59 := Tryd.sizeOf49
  v59 := Tryd.zeroValue49
  t146 := Tryd.underlying125
  a146 := Tryd.isAgg125
  z146 := Tryd.sizeOf125
  v146 := Tryd.zeroValue125
  g1 := by kernel_rfl
  i3 := by kernel_rfl
  i4 := by kernel_rfl
  i5 := by kernel_rfl
  i9 := by kernel_rfl
  i46 := by kernel_rfl
  i51 := by kernel_rfl
  i59 := by kernel_rfl
  i146 := by kernel_rfl
  m1 := by kernel_rfl
  s1_3 := fun w h => Go.Proofs.cell_of_shapedOpen_int (zero := #[.int .i64 0]) (t := 3) h (of_decide_eq_true (by kernel_rfl)) (by kernel_rfl) rfl (by kernel_rfl) (by kernel_rfl) Tryd.underlying3 }
def Tryd.lays157_ren : Go.Shelf.Ren := ⟨fun | 157 => 64 | 229 => 74 | 199 => 75 | 261 => 84 | 311 => 92 | 312 => 93 | n => n, fun | 9 => 9 | 31 => 45 | 3 => 3 | 5 => 5 | 4 => 4 | 119 => 106 | 0 => 0 | 40 => 108 | 152 => 115 | 21 => 21 | 154 => 117 | 51 => 118 | 141 => 120 | 196 => 130 | 193 => 127 | 198 => 132 | 49 => 30 | 194 => 128 | 201 => 135 | 226 => 138 | 46 => 62 | 227 => 139 | n => n, fun | 0 => 0 | 6 => 2 | n => n⟩
theorem Tryd.lays157 : Go.Proofs.Lays.n157 Tryd.prog Tryd.lays157_ren := {
  mixed := by kernel_rfl
  f157 := Tryd.func64.trans (congrArg some (by kernel_rfl))
  f199 := Tryd.func75.trans (congrArg some (by kernel_rfl))
  f229 := Tryd.func74.trans (congrArg some (by kernel_rfl))
  f261 := Tryd.func84.trans (congrArg some (by kernel_rfl))
  f311 := Tryd.func92.trans (congrArg some (by kernel_rfl))
  f312 := Tryd.func93.trans (congrArg some (by kernel_rfl))
  t0 := Tryd.underlying0
  a0 := Tryd.isAgg0
  z0 := Tryd.sizeOf0
  v0 := Tryd.zeroValue0
  t3 := Tryd.underlying3
  a3 := Tryd.isAgg3
  z3 := Tryd.sizeOf3
  v3 := Tryd.zeroValue3
  t4 := Tryd.underlying4
  a4 := Tryd.isAgg4
  z4 := Tryd.sizeOf4
  v4 := Tryd.zeroValue4
  t5 := Tryd.underlying5
  a5 := Tryd.isAgg5
  z5 := Tryd.sizeOf5
  v5 := Tryd.zeroValue5
  t9 := Tryd.underlying9
  a9 := Tryd.isAgg9
  z9 := Tryd.sizeOf9
  v9 := Tryd.zeroValue9
  t21 := Tryd.underlying21
  a21 := Tryd.isAgg21
  z21 := Tryd.sizeOf21
  v21 := Tryd.zeroValue21
  t31 := Tryd.underlying45
  a31 := Tryd.isAgg45
  z31 := Tryd.sizeOf45
  v31 := Tryd.zeroValue45
  t40 := Tryd.underlying108
  a40 := Tryd.isAgg108
  z40 := Tryd.sizeOf108
  v40 := Tryd.zeroValue108
  t46 := Tryd.underlying62
  a46 := Tryd.isAgg62
  z46 := Tryd.sizeOf62
  v46 := Tryd.zeroValue62
  t49 := Tryd.underlying30
  a49 := Tryd.isAgg30
  z49 := Tryd.sizeOf30
  v49 := Tryd.zeroValue30
  t51 := Tryd.underlying118
  a51 := Tryd.isAgg118
  z51 := Tryd.sizeOf118
  v51 := Tryd.zeroValue118
  t119 := Tryd.underlying106
  a119 := Tryd.isAgg106
  z119 := Tryd.sizeOf106
  t141 := Tryd.underlying120
  a141 := Tryd.isAgg120
  z141 := Tryd.sizeOf120
  v141 := Tryd.zeroValue120
  t152 := Tryd.underlying115
  a152 := Tryd.isAgg115
  z152 := Tryd.sizeOf115
  v152 := Tryd.zeroValue115
  t154 := Tryd.underlying117
  a154 := Tryd.isAgg117
  z154 := Tryd.sizeOf117
  v154 := Tryd.zeroValue117
  t193 := Tryd.underlying127
  a193 := Tryd.isAgg127
  z193 := Tryd.sizeOf127
  v193 := Tryd.zeroValue127
  t194 := Tryd.underlying128
  a194 := Tryd.isAgg128
  z194 := Tryd.sizeOf128
  v194 := Tryd.zeroValue128
  t196 := Tryd.underlying130
  a196 := Tryd.isAgg130
  z196 := Tryd.sizeOf130
  v196 := Tryd.zeroValue130
  t198 := Tryd.underlying132
  a198 := Tryd.isAgg132
  z198 := Tryd.sizeOf132
  v198 := Tryd.zeroValue132
  t201 := Tryd.underlying135
  a201 := Tryd.isAgg135
  z201 := Tryd.sizeOf135
  v201 := Tryd.zeroValue135
  t226 := Tryd.underlying138
  a226 := Tryd.isAgg138
  z226 := Tryd.sizeOf138
  v226 := Tryd.zeroValue138
  t227 := Tryd.underlying139
  a227 := Tryd.isAgg139
  z227 := Tryd.sizeOf139
  v227 := Tryd.zeroValue139
  g0 := by kernel_rfl
  g6 := by kernel_rfl }
open Go.RowKit Go.Lib in
/-- strings.Fields, the table by 'Lib.TabIs' (as strings.TrimSpace's contract). 'hg': the table's number, by its name: at a dump 'by kernel_rfl'. (LAID: no walk: one application.) -/
theorem Tryd.strings_Fields (s : ByteArray) (w : World) (hs : s.size < 4294967281) (hascii : ∀ (j : Nat) b, s.data.toList[j]? = some b → b.toNat < 128) (htab : Lib.TabIs Tryd.prog w "strings.asciiSpace" .u8 Lib.asciiSpaceTab) :
    Calls Tryd.prog 64 #[.string s] w fun e w' =>
      e = .returned (.slice (some ⟨w.heap.size, 0, none⟩) (Lib.fields s.data.toList).length (Lib.fields s.data.toList).length) ∧ w' = w.alloc (.cells ((Lib.fields s.data.toList).map fun l => Value.string ⟨l.toArray⟩).toArray 9) := Any.strings_Fields Tryd.lays157 (by kernel_rfl) (by kernel_rfl) s w hs hascii htab
def Tryd.lays109_ren : Go.Shelf.Ren := ⟨fun | 109 => 28 | n => n, fun | 31 => 45 | 9 => 9 | 3 => 3 | 0 => 0 | 4 => 4 | n => n, fun | n => n⟩
theorem Tryd.lays109 : Go.Proofs.Lays.n109 Tryd.prog Tryd.lays109_ren := {
  mixed := by kernel_rfl
  f109 := Tryd.func28.trans (congrArg some (by kernel_rfl))
  t0 := Tryd.underlying0
  a0 := Tryd.isAgg0
  z0 := Tryd.sizeOf0
  v0 := Tryd.zeroValue0
  t3 := Tryd.underlying3
  a3 := Tryd.isAgg3
  z3 := Tryd.sizeOf3
  v3 := Tryd.zeroValue3
  t4 := Tryd.underlying4
  a4 := Tryd.isAgg4
  z4 := Tryd.sizeOf4
  v4 := Tryd.zeroValue4
  t9 := Tryd.underlying9
  a9 := Tryd.isAgg9
  z9 := Tryd.sizeOf9
  v9 := Tryd.zeroValue9
  t31 := Tryd.underlying45
  a31 := Tryd.isAgg45
  z31 := Tryd.sizeOf45
  v31 := Tryd.zeroValue45 }
open Go.Lib in
/-- slices.Index at []string: "Index returns the index of the first occurrence of v in s, or -1 if not present.": IT RETURNS 'Lib.idxOfS (the elements) v'; the world is as it was. 'zs': what the cells behind the slice's address hold (its spare capacity too, if you have it); 'zs.take n': its elements. (LAID: no walk: one application.) -/
theorem Tryd.slices_Index_string (b off n c : Nat) (zs : List ByteArray) (x : ByteArray) (w : World) (hz : n ≤ zs.length) (hbig : n ≤ 9223372036854775807) (hc : ∀ j, j < zs.length → w.cell? ⟨b, off + j, none⟩ = some (.string (zs.getD j ByteArray.empty))) :
    Calls Tryd.prog 28 #[.slice (some ⟨b, off, none⟩) n c, .string x] w fun e w' => e = .returned (.int .i64 (Lib.idxOfS (zs.take n) x)) ∧ w' = w := Any.slices_Index_string Tryd.lays109 b off n c zs x w hz hbig hc
end Go.Proofs
-- printed by a program (xp.py, over the kit's print); Lean checks it
namespace Go.Proofs.YtcdbnphhoihldaaDoor.X
open Go.RowKit Go.Proofs.YtcdbnphhoihldaaDoorW.PrintWords Go.Proofs.YtcdbnphhoihldaaDoorW.PrintLast Go.Proofs.YtcdbnphhoihldaaDoorW.PrintMore
attribute [local go_sem] max2_int min2_int max_two min_two max_three min_three max_four min_four   -- for this text's walks alone
set_option linter.unusedVariables false
set_option linter.unusedSimpArgs false



def errW : Option Int → Value
  | none => .nilIface
  | some c => .iface 0 (.int .i64 c)
theorem errW_none : errW none = .nilIface := rfl
theorem errW_some (c : Int) : errW (some c) = .iface 0 (.int .i64 c) := rfl

theorem info5 : (Tryd.prog.info? 5).map (fun i => (i.zero, i.size, i.bytes)) = some (some (.int .u8 0), 1, 1) := by kernel_rfl
-- the values' own types
/-! #### struct type 99 -/
structure S99 where
  f0 : ByteArray
/-! #### struct type 76 -/
structure S76 where
  f0 : Int
  f1 : Int
  f2 : Int
  f3 : Int
  f4 : Int
  f5 : Int
def z76 : S76 := ⟨(0 : Int), (0 : Int), (0 : Int), (0 : Int), (0 : Int), (0 : Int)⟩
def k76 : Kd S76 := Kd.iso (Kd.pair (Kd.int .i64) (Kd.pair (Kd.int .i64) (Kd.pair (Kd.int .i64) (Kd.pair (Kd.int .i64) (Kd.pair (Kd.int .i64) (Kd.int .i64)))))) (fun x : S76 => (x.f0, x.f1, x.f2, x.f3, x.f4, x.f5))
theorem k76_open {w : World} {x : S76} {cs : List Value} (h : k76.K w x cs) : cs = [.int .i64 x.f0, .int .i64 x.f1, .int .i64 x.f2, .int .i64 x.f3, .int .i64 x.f4, .int .i64 x.f5] := by
  obtain ⟨_, _, rfl, rfl, ⟨_, _, rfl, rfl, ⟨_, _, rfl, rfl, ⟨_, _, rfl, rfl, ⟨_, _, rfl, rfl, rfl⟩⟩⟩⟩⟩ := h
  exact rfl
theorem k76_mkM (w : World) (base : Nat) (ok : Nat → Prop) (x : S76)  : k76.M w base ok x [.int .i64 x.f0, .int .i64 x.f1, .int .i64 x.f2, .int .i64 x.f3, .int .i64 x.f4, .int .i64 x.f5] := ⟨[.int .i64 x.f0], [.int .i64 x.f1, .int .i64 x.f2, .int .i64 x.f3, .int .i64 x.f4, .int .i64 x.f5], rfl, rfl, ⟨[.int .i64 x.f1], [.int .i64 x.f2, .int .i64 x.f3, .int .i64 x.f4, .int .i64 x.f5], rfl, rfl, ⟨[.int .i64 x.f2], [.int .i64 x.f3, .int .i64 x.f4, .int .i64 x.f5], rfl, rfl, ⟨[.int .i64 x.f3], [.int .i64 x.f4, .int .i64 x.f5], rfl, rfl, ⟨[.int .i64 x.f4], [.int .i64 x.f5], rfl, rfl, rfl⟩⟩⟩⟩⟩
def rd_T76 (xs : List S76) (i : Int) : S76 := xs.getD i.toNat z76
theorem at_T76 {w : World} {A : Option Addr} {n : Nat} {xs : List S76} (h : Kd.C k76 w A n xs) (i : Int) (h0 : 0 ≤ i) (h1 : i < n) : ∃ ad , A = some ad ∧ w.cell? (ad.add (i.toNat * 6)) = some (.int .i64 (rd_T76 xs i).f0) ∧ w.cell? ⟨(ad.add (i.toNat * 6)).block, (ad.add (i.toNat * 6)).off + 1, none⟩ = some (.int .i64 (rd_T76 xs i).f1) ∧ w.cell? ⟨(ad.add (i.toNat * 6)).block, (ad.add (i.toNat * 6)).off + 2, none⟩ = some (.int .i64 (rd_T76 xs i).f2) ∧ w.cell? ⟨(ad.add (i.toNat * 6)).block, (ad.add (i.toNat * 6)).off + 3, none⟩ = some (.int .i64 (rd_T76 xs i).f3) ∧ w.cell? ⟨(ad.add (i.toNat * 6)).block, (ad.add (i.toNat * 6)).off + 4, none⟩ = some (.int .i64 (rd_T76 xs i).f4) ∧ w.cell? ⟨(ad.add (i.toNat * 6)).block, (ad.add (i.toNat * 6)).off + 5, none⟩ = some (.int .i64 (rd_T76 xs i).f5) := by
  obtain ⟨ad, c, e, _, hK, hc0⟩ := Kd.C_get h z76 i h0 h1
  have hc : ∀ j u, c[j]? = some u → w.cell? (ad.add (i.toNat * 6 + j)) = some u := hc0
  obtain rfl := k76_open hK
  exact ⟨ad, e, hc 0 _ rfl, by rw [← add_field _ _ 1 (by omega)]; exact hc 1 _ rfl, by rw [← add_field _ _ 2 (by omega)]; exact hc 2 _ rfl, by rw [← add_field _ _ 3 (by omega)]; exact hc 3 _ rfl, by rw [← add_field _ _ 4 (by omega)]; exact hc 4 _ rfl, by rw [← add_field _ _ 5 (by omega)]; exact hc 5 _ rfl⟩

/-! #### struct type 23 -/
structure S23 where
  f0 : Int
  f1 : Int
  f2 : ByteArray
  f3 : ByteArray
  f4 : ByteArray
  f5 : Int
  f6 : Int
end Go.Proofs.YtcdbnphhoihldaaDoor.X
-- printed by a program (xp.py, over the kit's print); Lean checks it
namespace Go.Proofs.YtcdbnphhoihldaaDoor.X
open Go.RowKit Go.Proofs.YtcdbnphhoihldaaDoorW.PrintWords Go.Proofs.YtcdbnphhoihldaaDoorW.PrintLast Go.Proofs.YtcdbnphhoihldaaDoorW.PrintMore
attribute [local go_sem] max2_int min2_int max_two min_two max_three min_three max_four min_four   -- for this text's walks alone
set_option linter.unusedVariables false
set_option linter.unusedSimpArgs false

/-! ### date_days: function 61 -/
def date_days.f (a0 : Int) : Option (Int) := some (wrap64 ((wrap64 ((wrap64 (365 * (wrap64 (a0 - 1970)))) + (wrap64 ((wrap64 ((wrap64 (Int.tdiv (wrap64 (a0 - 1)) 4)) - (wrap64 (Int.tdiv (wrap64 (a0 - 1)) 100)))) + (wrap64 (Int.tdiv (wrap64 (a0 - 1)) 400)))))) - 477))
set_option maxHeartbeats 8000000 in
set_option maxRecDepth 100000 in
theorem date_days.calls (a0 : Int) (r : Int) (w : World) (h : date_days.f a0 = some r) :
    Calls Tryd.prog 61 #[.int .i64 a0] w fun e w' => e = .returned (.int .i64 r) ∧ Drawn0 w w' := by
  have H : (some (wrap64 ((wrap64 ((wrap64 (365 * (wrap64 (a0 - 1970)))) + (wrap64 ((wrap64 ((wrap64 (Int.tdiv (wrap64 (a0 - 1)) 4)) - (wrap64 (Int.tdiv (wrap64 (a0 - 1)) 100)))) + (wrap64 (Int.tdiv (wrap64 (a0 - 1)) 400)))))) - 477))) = some r := h
  clear h
  obtain rfl := Option.some.inj H
  go_enter Tryd.func61, Tryd.ntmps61
  go_wp2
  go_ret
  exact ⟨by first | rfl | (simp; done) | (simp [*]; done), by repeat (first | exact Drawn0.refl _ | apply Drawn0.step)⟩

end Go.Proofs.YtcdbnphhoihldaaDoor.X
-- printed by a program (xp.py, over the kit's print); Lean checks it
namespace Go.Proofs.YtcdbnphhoihldaaDoor.X
open Go.RowKit Go.Proofs.YtcdbnphhoihldaaDoorW.PrintWords Go.Proofs.YtcdbnphhoihldaaDoorW.PrintLast Go.Proofs.YtcdbnphhoihldaaDoorW.PrintMore
attribute [local go_sem] max2_int min2_int max_two min_two max_three min_three max_four min_four   -- for this text's walks alone
set_option linter.unusedVariables false
set_option linter.unusedSimpArgs false

/-! ### date_length: function 62 -/
def date_length.f (a0 : Int) (a1 : Int) : Option (Int) := if a1 = 1 then (if (Int.tmod a0 4) = 0 then (if (Int.tmod a0 100) = 0 then (if (Int.tmod a0 400) = 0 then (some 29) else (some 28)) else (some 29)) else (some 28)) else (if a1 = 3 then (some 30) else (if a1 = 5 then (some 30) else (if a1 = 8 then (some 30) else (if a1 = 10 then (some 30) else (some 31)))))
set_option maxHeartbeats 8000000 in
set_option maxRecDepth 100000 in
theorem date_length.calls (a0 : Int) (a1 : Int) (r : Int) (w : World) (h : date_length.f a0 a1 = some r) :
    Calls Tryd.prog 62 #[.int .i64 a0, .int .i64 a1] w fun e w' => e = .returned (.int .i64 r) ∧ Drawn0 w w' := by
  have H : (if a1 = 1 then (if (Int.tmod a0 4) = 0 then (if (Int.tmod a0 100) = 0 then (if (Int.tmod a0 400) = 0 then (some 29) else (some 28)) else (some 29)) else (some 28)) else (if a1 = 3 then (some 30) else (if a1 = 5 then (some 30) else (if a1 = 8 then (some 30) else (if a1 = 10 then (some 30) else (some 31)))))) = some r := h
  clear h
  by_cases c3 : a1 = 1
  · rw [if_pos c3] at H
    have c3b0 : (a1 == 1) = true := beq_iff_eq.mpr c3
    have c3b1 : (a1 != 1) = false := bne_eq_false_iff_eq.mpr c3
    clear c3
    by_cases c4 : (Int.tmod a0 4) = 0
    · rw [if_pos c4] at H
      have c4b0 : ((Int.tmod a0 4) == 0) = true := beq_iff_eq.mpr c4
      have c4b1 : ((Int.tmod a0 4) != 0) = false := bne_eq_false_iff_eq.mpr c4
      clear c4
      by_cases c5 : (Int.tmod a0 100) = 0
      · rw [if_pos c5] at H
        have c5b0 : ((Int.tmod a0 100) == 0) = true := beq_iff_eq.mpr c5
        have c5b1 : ((Int.tmod a0 100) != 0) = false := bne_eq_false_iff_eq.mpr c5
        clear c5
        by_cases c6 : (Int.tmod a0 400) = 0
        · rw [if_pos c6] at H
          have c6b0 : ((Int.tmod a0 400) == 0) = true := beq_iff_eq.mpr c6
          have c6b1 : ((Int.tmod a0 400) != 0) = false := bne_eq_false_iff_eq.mpr c6
          clear c6
          obtain rfl := Option.some.inj H
          go_enter Tryd.func62, Tryd.ntmps62
          go_wp2
          go_ret
          exact ⟨by first | rfl | (simp; done) | (simp [*]; done), by repeat (first | exact Drawn0.refl _ | apply Drawn0.step)⟩
        · rw [if_neg c6] at H
          have c6b0 : ((Int.tmod a0 400) == 0) = false := beq_eq_false_iff_ne.mpr c6
          have c6b1 : ((Int.tmod a0 400) != 0) = true := bne_iff_ne.mpr c6
          obtain rfl := Option.some.inj H
          go_enter Tryd.func62, Tryd.ntmps62
          go_wp2
          go_ret
          exact ⟨by first | rfl | (simp; done) | (simp [*]; done), by repeat (first | exact Drawn0.refl _ | apply Drawn0.step)⟩
      · rw [if_neg c5] at H
        have c5b0 : ((Int.tmod a0 100) == 0) = false := beq_eq_false_iff_ne.mpr c5
        have c5b1 : ((Int.tmod a0 100) != 0) = true := bne_iff_ne.mpr c5
        obtain rfl := Option.some.inj H
        go_enter Tryd.func62, Tryd.ntmps62
        go_wp2
        go_ret
        exact ⟨by first | rfl | (simp; done) | (simp [*]; done), by repeat (first | exact Drawn0.refl _ | apply Drawn0.step)⟩
    · rw [if_neg c4] at H
      have c4b0 : ((Int.tmod a0 4) == 0) = false := beq_eq_false_iff_ne.mpr c4
      have c4b1 : ((Int.tmod a0 4) != 0) = true := bne_iff_ne.mpr c4
      obtain rfl := Option.some.inj H
      go_enter Tryd.func62, Tryd.ntmps62
      go_wp2
      go_ret
      exact ⟨by first | rfl | (simp; done) | (simp [*]; done), by repeat (first | exact Drawn0.refl _ | apply Drawn0.step)⟩
  · rw [if_neg c3] at H
    have c3b0 : (a1 == 1) = false := beq_eq_false_iff_ne.mpr c3
    have c3b1 : (a1 != 1) = true := bne_iff_ne.mpr c3
    by_cases c7 : a1 = 3
    · rw [if_pos c7] at H
      have c7b0 : (a1 == 3) = true := beq_iff_eq.mpr c7
      have c7b1 : (a1 != 3) = false := bne_eq_false_iff_eq.mpr c7
      clear c7
      obtain rfl := Option.some.inj H
      go_enter Tryd.func62, Tryd.ntmps62
      go_wp2
      go_ret
      exact ⟨by first | rfl | (simp; done) | (simp [*]; done), by repeat (first | exact Drawn0.refl _ | apply Drawn0.step)⟩
    · rw [if_neg c7] at H
      have c7b0 : (a1 == 3) = false := beq_eq_false_iff_ne.mpr c7
      have c7b1 : (a1 != 3) = true := bne_iff_ne.mpr c7
      by_cases c8 : a1 = 5
      · rw [if_pos c8] at H
        have c8b0 : (a1 == 5) = true := beq_iff_eq.mpr c8
        have c8b1 : (a1 != 5) = false := bne_eq_false_iff_eq.mpr c8
        clear c8
        obtain rfl := Option.some.inj H
        go_enter Tryd.func62, Tryd.ntmps62
        go_wp2
        go_ret
        exact ⟨by first | rfl | (simp; done) | (simp [*]; done), by repeat (first | exact Drawn0.refl _ | apply Drawn0.step)⟩
      · rw [if_neg c8] at H
        have c8b0 : (a1 == 5) = false := beq_eq_false_iff_ne.mpr c8
        have c8b1 : (a1 != 5) = true := bne_iff_ne.mpr c8
        by_cases c9 : a1 = 8
        · rw [if_pos c9] at H
          have c9b0 : (a1 == 8) = true := beq_iff_eq.mpr c9
          have c9b1 : (a1 != 8) = false := bne_eq_false_iff_eq.mpr c9
          clear c9
          obtain rfl := Option.some.inj H
          go_enter Tryd.func62, Tryd.ntmps62
          go_wp2
          go_ret
          exact ⟨by first | rfl | (simp; done) | (simp [*]; done), by repeat (first | exact Drawn0.refl _ | apply Drawn0.step)⟩
        · rw [if_neg c9] at H
          have c9b0 : (a1 == 8) = false := beq_eq_false_iff_ne.mpr c9
          have c9b1 : (a1 != 8) = true := bne_iff_ne.mpr c9
          by_cases c10 : a1 = 10
          · rw [if_pos c10] at H
            have c10b0 : (a1 == 10) = true := beq_iff_eq.mpr c10
            have c10b1 : (a1 != 10) = false := bne_eq_false_iff_eq.mpr c10
            clear c10
            obtain rfl := Option.some.inj H
            go_enter Tryd.func62, Tryd.ntmps62
            go_wp2
            go_ret
            exact ⟨by first | rfl | (simp; done) | (simp [*]; done), by repeat (first | exact Drawn0.refl _ | apply Drawn0.step)⟩
          · rw [if_neg c10] at H
            have c10b0 : (a1 == 10) = false := beq_eq_false_iff_ne.mpr c10
            have c10b1 : (a1 != 10) = true := bne_iff_ne.mpr c10
            obtain rfl := Option.some.inj H
            go_enter Tryd.func62, Tryd.ntmps62
            go_wp2
            go_ret
            exact ⟨by first | rfl | (simp; done) | (simp [*]; done), by repeat (first | exact Drawn0.refl _ | apply Drawn0.step)⟩

end Go.Proofs.YtcdbnphhoihldaaDoor.X
-- printed by a program (xp.py, over the kit's print); Lean checks it
namespace Go.Proofs.YtcdbnphhoihldaaDoor.X
open Go.RowKit Go.Proofs.YtcdbnphhoihldaaDoorW.PrintWords Go.Proofs.YtcdbnphhoihldaaDoorW.PrintLast Go.Proofs.YtcdbnphhoihldaaDoorW.PrintMore
attribute [local go_sem] max2_int min2_int max_two min_two max_three min_three max_four min_four   -- for this text's walks alone
set_option linter.unusedVariables false
set_option linter.unusedSimpArgs false

/-! ### date_weekday: function 63 -/
def date_weekday.f (a0 : Int) : Option (Int) := some (Int.tmod (wrap64 (a0 + 4)) 7)
set_option maxHeartbeats 8000000 in
set_option maxRecDepth 100000 in
theorem date_weekday.calls (a0 : Int) (r : Int) (w : World) (h : date_weekday.f a0 = some r) :
    Calls Tryd.prog 63 #[.int .i64 a0] w fun e w' => e = .returned (.int .i64 r) ∧ Drawn0 w w' := by
  have H : (some (Int.tmod (wrap64 (a0 + 4)) 7)) = some r := h
  clear h
  obtain rfl := Option.some.inj H
  go_enter Tryd.func63, Tryd.ntmps63
  go_wp2
  go_ret
  exact ⟨by first | rfl | (simp; done) | (simp [*]; done), by repeat (first | exact Drawn0.refl _ | apply Drawn0.step)⟩

end Go.Proofs.YtcdbnphhoihldaaDoor.X
-- printed by a program (xp.py, over the kit's print); Lean checks it
namespace Go.Proofs.YtcdbnphhoihldaaDoor.X
open Go.RowKit Go.Proofs.YtcdbnphhoihldaaDoorW.PrintWords Go.Proofs.YtcdbnphhoihldaaDoorW.PrintLast Go.Proofs.YtcdbnphhoihldaaDoorW.PrintMore
attribute [local go_sem] max2_int min2_int max_two min_two max_three min_three max_four min_four   -- for this text's walks alone
set_option linter.unusedVariables false
set_option linter.unusedSimpArgs false

/-! ### date_of: function 39 -/
mutual
def date_of.l0 : Nat → Int → Int → Int → Int → Int → Int → Int → Option (Int × Int × Int × Int × Int × Int × Int)
 | 0, _, _, _, _, _, _, _ => none
 | k + 1, x4, x164000, x164001, x164002, x164003, x164004, x164005 => (date_days.f (wrap64 (x164000 + 1))).bind fun t164 => (if t164 ≤ x4 then (date_of.l0 k x4 (wrap64 (x164000 + 1)) x164001 x164002 x164003 x164004 x164005) else ((date_days.f x164000).bind fun t165 => (date_of.l1 k x4 (wrap64 (x4 - t165)) x164000 x164001 x164002 x164003 x164004 x164005)))
def date_of.l1 : Nat → Int → Int → Int → Int → Int → Int → Int → Int → Option (Int × Int × Int × Int × Int × Int × Int)
 | 0, _, _, _, _, _, _, _, _ => none
 | k + 1, x4, x7, x164000, x164001, x164002, x164003, x164004, x164005 => (date_length.f x164000 x164001).bind fun t166 => (if x7 ≥ t166 then ((date_length.f x164000 x164001).bind fun t167 => (date_of.l1 k x4 (wrap64 (x7 - t167)) x164000 (wrap64 (x164001 + 1)) x164002 x164003 x164004 x164005)) else ((date_weekday.f x4).bind fun t168 => (some (x164000, x164001, wrap64 (x7 + 1), x164003, x164004, x164005, t168))))
end
def date_of.f (k : Nat) (a0 : Int) : Option (Int × Int × Int × Int × Int × Int × Int) := date_of.l0 k (wrap64 (Int.tdiv a0 86400)) (wrap64 (1970 + (wrap64 (Int.tdiv (wrap64 (Int.tdiv a0 86400)) 366)))) 0 0 (wrap64 (Int.tdiv (Int.tmod a0 86400) 3600)) (Int.tmod (wrap64 (Int.tdiv (Int.tmod a0 86400) 60)) 60) (Int.tmod a0 60)
theorem date_of.mono_l : ∀ k, (∀ y0 y1 y2 y3 y4 y5 y6, LeO (date_of.l0 k y0 y1 y2 y3 y4 y5 y6) (date_of.l0 (k + 1) y0 y1 y2 y3 y4 y5 y6)) ∧ (∀ y0 y1 y2 y3 y4 y5 y6 y7, LeO (date_of.l1 k y0 y1 y2 y3 y4 y5 y6 y7) (date_of.l1 (k + 1) y0 y1 y2 y3 y4 y5 y6 y7))
 | 0 => ⟨fun _ _ _ _ _ _ _ r h => by simp [date_of.l0] at h, fun _ _ _ _ _ _ _ _ r h => by simp [date_of.l1] at h⟩
 | k + 1 => by
  obtain ⟨ih0, ih1⟩ := date_of.mono_l k
  refine ⟨?_, ?_⟩
  ·
   intro y0 y1 y2 y3 y4 y5 y6
   unfold date_of.l0
   repeat' first
   | (with_reducible exact ih0 _ _ _ _ _ _ _)
   | (with_reducible exact ih1 _ _ _ _ _ _ _ _)
   | (with_reducible exact LeO.refl _)
   | (with_reducible exact LeO.none _)
   | (with_reducible refine LeO.ite ?_ ?_)
   | (with_reducible refine LeO.bind ?_ (fun _ => ?_))
   | exact ih0 _ _ _ _ _ _ _
   | exact ih1 _ _ _ _ _ _ _ _
   | exact LeO.none _
   | refine LeO.ite ?_ ?_
   | refine LeO.bind ?_ (fun _ => ?_)
  ·
   intro y0 y1 y2 y3 y4 y5 y6 y7
   unfold date_of.l1
   repeat' first
   | (with_reducible exact ih0 _ _ _ _ _ _ _)
   | (with_reducible exact ih1 _ _ _ _ _ _ _ _)
   | (with_reducible exact LeO.refl _)
   | (with_reducible exact LeO.none _)
   | (with_reducible refine LeO.ite ?_ ?_)
   | (with_reducible refine LeO.bind ?_ (fun _ => ?_))
   | exact ih0 _ _ _ _ _ _ _
   | exact ih1 _ _ _ _ _ _ _ _
   | exact LeO.none _
   | refine LeO.ite ?_ ?_
   | refine LeO.bind ?_ (fun _ => ?_)
theorem date_of.mono : ∀ a0 k, LeO (date_of.f k a0) (date_of.f (k + 1) a0) := by
 intro a0 k
 obtain ⟨ih0, ih1⟩ := date_of.mono_l k
 unfold date_of.f
 repeat' first
   | (with_reducible exact ih0 _ _ _ _ _ _ _)
   | (with_reducible exact ih1 _ _ _ _ _ _ _ _)
   | (with_reducible exact LeO.refl _)
   | (with_reducible exact LeO.none _)
   | (with_reducible refine LeO.ite ?_ ?_)
   | (with_reducible refine LeO.bind ?_ (fun _ => ?_))
   | exact ih0 _ _ _ _ _ _ _
   | exact ih1 _ _ _ _ _ _ _ _
   | exact LeO.none _
   | refine LeO.ite ?_ ?_
   | refine LeO.bind ?_ (fun _ => ?_)
set_option maxHeartbeats 8000000 in
set_option maxRecDepth 100000 in
theorem date_of.calls (k : Nat) (a0 : Int) (r1 : Int) (r2 : Int) (r3 : Int) (r4 : Int) (r5 : Int) (r6 : Int) (r7 : Int) (w : World) (h : date_of.f k a0 = some (r1, r2, r3, r4, r5, r6, r7)) :
  Calls Tryd.prog 39 #[.int .i64 a0] w fun e w' => e = .returned (.tuple #[.agg #[.int .i64 r1, .int .i64 r2, .int .i64 r3, .int .i64 r4, .int .i64 r5, .int .i64 r6], .int .i64 r7]) ∧ Below w.heap.size w w' := by
 have hu76 := Tryd.underlying76
 have HB := Aside0.mk (Below.refl w.heap.size w)
 have H : (date_of.l0 k (wrap64 (Int.tdiv a0 86400)) (wrap64 (1970 + (wrap64 (Int.tdiv (wrap64 (Int.tdiv a0 86400)) 366)))) 0 0 (wrap64 (Int.tdiv (Int.tmod a0 86400) 3600)) (Int.tmod (wrap64 (Int.tdiv (Int.tmod a0 86400) 60)) 60) (Int.tmod a0 60)) = some (r1, r2, r3, r4, r5, r6, r7) := h
 clear h
 have H' := Aside0.mk H
 clear H
 go_enter Tryd.func39, Tryd.ntmps39
 go_wp2_with (first | ((with_reducible refine gate_dst (N := 2) rfl ?_); refine box_event ?hg (N := 2) ?hd (cs := #[.int .i64 0, .int .i64 0, .int .i64 0, .int .i64 0, .int .i64 0, .int .i64 0]) (t := 76) ?hr ?_; (case hd => rfl); (case hg => rfl); (case hr => first | (go_simp; done) | (go_simp; rfl)); intro gb162 hg w2 hbox hb; have n0_ := Aside0.mk (below_step (by repeat (first | (with_reducible first | exact HB.out | apply below_alloc | apply pw_below_drewN | apply below_drew1) | exact HB.out)) hb); have n1_ := Aside0.mk (hbox); have n2_ := Aside0.mk ((by rw [hg]; exact (below_size (by repeat (first | (with_reducible first | exact HB.out | apply below_alloc | apply pw_below_drewN | apply below_drew1) | exact HB.out))) : w.heap.size ≤ gb162)); have n3_ := Aside0.mk ((by rw [hg]; exact (below_size (by repeat (first | (with_reducible first | exact HB.out | apply below_alloc | apply pw_below_drewN | apply below_drew1) | exact HB.out))) : w.heap.size ≤ gb162)); clear HB; have HB := n0_; have BK162 := n1_; have GW162 := n2_; have GE162 := n3_; clear n0_ n1_ n2_ n3_; clear hb hbox hg) | ((with_reducible refine gate_dst (N := 6) rfl ?_); refine box_event ?hg (N := 6) ?hd (cs := #[.int .i64 0, .int .i64 0, .int .i64 0, .int .i64 0, .int .i64 0, .int .i64 0]) (t := 76) ?hr ?_; (case hd => rfl); (case hg => rfl); (case hr => first | (go_simp; done) | (go_simp; rfl)); intro gb163 hg w3 hbox hb; have n0_ := Aside0.mk (blk_below (g := gb162) (o := .cells #[.int .i64 0, .int .i64 0, .int .i64 0, .int .i64 0, .int .i64 0, .int .i64 0] 76 (0, 0)) (by (with_reducible repeat (first | refine blk_drewN ?_ _ | refine blk_drew ?_ | refine blk_alloc ?_ _)); exact BK162.out) hb); have n1_ := Aside0.mk (below_step (by repeat (first | (with_reducible first | exact HB.out | apply below_alloc | apply pw_below_drewN | apply below_drew1 | refine below_set ?_ GE162.out) | exact HB.out)) hb); have n2_ := Aside0.mk (hbox); have n3_ := Aside0.mk ((by rw [hg]; exact (below_size (by repeat (first | (with_reducible first | exact HB.out | apply below_alloc | apply pw_below_drewN | apply below_drew1 | refine below_set ?_ GE162.out) | exact HB.out))) : w.heap.size ≤ gb163)); have n4_ := Aside0.mk ((by rw [hg]; exact (below_size (by repeat (first | (with_reducible first | exact HB.out | apply below_alloc | apply pw_below_drewN | apply below_drew1 | refine below_set ?_ GE162.out) | exact HB.out))) : w.heap.size ≤ gb163)); have n5_ := Aside0.mk ((by rw [hg]; exact Nat.ne_of_lt (blk_lt (g := gb162) (o := .cells #[.int .i64 0, .int .i64 0, .int .i64 0, .int .i64 0, .int .i64 0, .int .i64 0] 76 (0, 0)) (by (with_reducible repeat (first | refine blk_drewN ?_ _ | refine blk_drew ?_ | refine blk_alloc ?_ _)); exact BK162.out)) : gb162 ≠ gb163)); have n6_ := Aside0.mk ((by rw [hg]; exact Nat.ne_of_gt (blk_lt (g := gb162) (o := .cells #[.int .i64 0, .int .i64 0, .int .i64 0, .int .i64 0, .int .i64 0, .int .i64 0] 76 (0, 0)) (by (with_reducible repeat (first | refine blk_drewN ?_ _ | refine blk_drew ?_ | refine blk_alloc ?_ _)); exact BK162.out)) : gb163 ≠ gb162)); clear BK162; clear HB; have BK162 := n0_; have HB := n1_; have BK163 := n2_; have GW163 := n3_; have GE163 := n4_; have NB162_163 := n5_; have NB163_162 := n6_; clear n0_ n1_ n2_ n3_ n4_ n5_ n6_; clear hb hbox hg; have hnb4 := NB163_162.out; have hnc4 := NB162_163.out; have hcz5_0 : w3.cell? ⟨gb163, 0, none⟩ = some (.int .i64 0) := (blk_cell BK163.out 0).trans rfl; have hcz5_1 : w3.cell? ⟨gb163, 1, none⟩ = some (.int .i64 0) := (blk_cell BK163.out 1).trans rfl; have hcz5_2 : w3.cell? ⟨gb163, 2, none⟩ = some (.int .i64 0) := (blk_cell BK163.out 2).trans rfl; have hcz5_3 : w3.cell? ⟨gb163, 3, none⟩ = some (.int .i64 0) := (blk_cell BK163.out 3).trans rfl; have hcz5_4 : w3.cell? ⟨gb163, 4, none⟩ = some (.int .i64 0) := (blk_cell BK163.out 4).trans rfl; have hcz5_5 : w3.cell? ⟨gb163, 5, none⟩ = some (.int .i64 0) := (blk_cell BK163.out 5).trans rfl; have hfz5_0 := blk_frozen BK163.out 0; have hfz5_1 := blk_frozen BK163.out 1; have hfz5_2 := blk_frozen BK163.out 2; have hfz5_3 := blk_frozen BK163.out 3; have hfz5_4 := blk_frozen BK163.out 4; have hfz5_5 := blk_frozen BK163.out 5))
 go_loopg [] k (fun kq w' => ∃ (x164000_1 : Int), Aside0 (date_of.l0 kq (wrap64 (Int.tdiv a0 86400)) x164000_1 0 0 (wrap64 (Int.tdiv (Int.tmod a0 86400) 3600)) (Int.tmod (wrap64 (Int.tdiv (Int.tmod a0 86400) 60)) 60) (Int.tmod a0 60) = some (r1, r2, r3, r4, r5, r6, r7)) ∧ Aside0 (kq ≤ k) ∧ Aside0 (w'.heap[gb162]? = some (.cells #[.int .i64 0, .int .i64 0, .int .i64 0, .int .i64 0, .int .i64 0, .int .i64 0] 76 (0, 0))) ∧ Aside0 (w'.heap[gb163]? = some (.cells #[.int .i64 x164000_1, .int .i64 0, .int .i64 0, .int .i64 (wrap64 (Int.tdiv (Int.tmod a0 86400) 3600)), .int .i64 (Int.tmod (wrap64 (Int.tdiv (Int.tmod a0 86400) 60)) 60), .int .i64 (Int.tmod a0 60)] 76 (0, 0))) ∧ Aside0 (Below w.heap.size w w'))
 case atStart => exact ⟨(wrap64 (1970 + (wrap64 (Int.tdiv (wrap64 (Int.tdiv a0 86400)) 366)))), H', ⟨Nat.le_refl _⟩, ⟨by (with_reducible repeat (first | refine blk_drewN ?_ _ | refine blk_drew ?_ | refine blk_alloc ?_ _)); refine blk_far ?_ NB162_163.out _; (with_reducible repeat (first | refine blk_drewN ?_ _ | refine blk_drew ?_ | refine blk_alloc ?_ _)); refine blk_far ?_ NB162_163.out _; (with_reducible repeat (first | refine blk_drewN ?_ _ | refine blk_drew ?_ | refine blk_alloc ?_ _)); refine blk_far ?_ NB162_163.out _; (with_reducible repeat (first | refine blk_drewN ?_ _ | refine blk_drew ?_ | refine blk_alloc ?_ _)); refine blk_far ?_ NB162_163.out _; (with_reducible repeat (first | refine blk_drewN ?_ _ | refine blk_drew ?_ | refine blk_alloc ?_ _)); refine blk_far ?_ NB162_163.out _; (with_reducible repeat (first | refine blk_drewN ?_ _ | refine blk_drew ?_ | refine blk_alloc ?_ _)); refine blk_far ?_ NB162_163.out _; (with_reducible repeat (first | refine blk_drewN ?_ _ | refine blk_drew ?_ | refine blk_alloc ?_ _)); exact BK162.out⟩, ⟨by (with_reducible repeat (first | refine blk_drewN ?_ _ | refine blk_drew ?_ | refine blk_alloc ?_ _)); refine blk_put (cs := #[.int .i64 (wrap64 (1970 + (wrap64 (Int.tdiv (wrap64 (Int.tdiv a0 86400)) 366)))), .int .i64 0, .int .i64 0, .int .i64 (wrap64 (Int.tdiv (Int.tmod a0 86400) 3600)), .int .i64 (Int.tmod (wrap64 (Int.tdiv (Int.tmod a0 86400) 60)) 60), .int .i64 0]) ?_ 5 _ rfl; (with_reducible repeat (first | refine blk_drewN ?_ _ | refine blk_drew ?_ | refine blk_alloc ?_ _)); refine blk_put (cs := #[.int .i64 (wrap64 (1970 + (wrap64 (Int.tdiv (wrap64 (Int.tdiv a0 86400)) 366)))), .int .i64 0, .int .i64 0, .int .i64 (wrap64 (Int.tdiv (Int.tmod a0 86400) 3600)), .int .i64 0, .int .i64 0]) ?_ 4 _ rfl; (with_reducible repeat (first | refine blk_drewN ?_ _ | refine blk_drew ?_ | refine blk_alloc ?_ _)); refine blk_put (cs := #[.int .i64 (wrap64 (1970 + (wrap64 (Int.tdiv (wrap64 (Int.tdiv a0 86400)) 366)))), .int .i64 0, .int .i64 0, .int .i64 0, .int .i64 0, .int .i64 0]) ?_ 3 _ rfl; (with_reducible repeat (first | refine blk_drewN ?_ _ | refine blk_drew ?_ | refine blk_alloc ?_ _)); refine blk_put (cs := #[.int .i64 (wrap64 (1970 + (wrap64 (Int.tdiv (wrap64 (Int.tdiv a0 86400)) 366)))), .int .i64 0, .int .i64 0, .int .i64 0, .int .i64 0, .int .i64 0]) ?_ 2 _ rfl; (with_reducible repeat (first | refine blk_drewN ?_ _ | refine blk_drew ?_ | refine blk_alloc ?_ _)); refine blk_put (cs := #[.int .i64 (wrap64 (1970 + (wrap64 (Int.tdiv (wrap64 (Int.tdiv a0 86400)) 366)))), .int .i64 0, .int .i64 0, .int .i64 0, .int .i64 0, .int .i64 0]) ?_ 1 _ rfl; (with_reducible repeat (first | refine blk_drewN ?_ _ | refine blk_drew ?_ | refine blk_alloc ?_ _)); refine blk_put (cs := #[.int .i64 0, .int .i64 0, .int .i64 0, .int .i64 0, .int .i64 0, .int .i64 0]) ?_ 0 _ rfl; (with_reducible repeat (first | refine blk_drewN ?_ _ | refine blk_drew ?_ | refine blk_alloc ?_ _)); exact BK163.out⟩, ⟨by repeat (first | (with_reducible first | exact HB.out | apply below_alloc | apply pw_below_drewN | apply below_drew1 | refine below_set ?_ GE162.out | refine below_set ?_ GE163.out) | exact HB.out)⟩⟩
 case round =>
  clear H'
  try clear p2
  try clear c3
  try clear c4
  try clear hcz5_0
  try clear hcz5_1
  try clear hcz5_2
  try clear hcz5_3
  try clear hcz5_4
  try clear hcz5_5
  try clear hfz5_0
  try clear hfz5_1
  try clear hfz5_2
  try clear hfz5_3
  try clear hfz5_4
  try clear hfz5_5
  obtain ⟨x164000_1, HA, HK1, BK162, BK163, HB⟩ := hrel
  cases gk with
  | zero => exact absurd HA.out (by simp [date_of.l0])
  | succ k1 =>
   have H := HA.out
   clear HA
   simp only [date_of.l0] at H
   replace H := Option.bind_eq_some_iff.mp H
   obtain ⟨t164, A60, H⟩ := H
   replace H : (if t164 ≤ (wrap64 (Int.tdiv a0 86400)) then (date_of.l0 k1 (wrap64 (Int.tdiv a0 86400)) (wrap64 (x164000_1 + 1)) 0 0 (wrap64 (Int.tdiv (Int.tmod a0 86400) 3600)) (Int.tmod (wrap64 (Int.tdiv (Int.tmod a0 86400) 60)) 60) (Int.tmod a0 60)) else ((date_days.f x164000_1).bind fun t165 => (date_of.l1 k1 (wrap64 (Int.tdiv a0 86400)) (wrap64 ((wrap64 (Int.tdiv a0 86400)) - t165)) x164000_1 0 0 (wrap64 (Int.tdiv (Int.tmod a0 86400) 3600)) (Int.tmod (wrap64 (Int.tdiv (Int.tmod a0 86400) 60)) 60) (Int.tmod a0 60)))) = some (r1, r2, r3, r4, r5, r6, r7) := H
   have A6 := Aside0.mk A60
   clear A60
   by_cases c7 : t164 ≤ (wrap64 (Int.tdiv a0 86400))
   ·
    rw [if_pos c7] at H
    have c7b0 : decide (t164 ≤ (wrap64 (Int.tdiv a0 86400))) = true := decide_eq_true c7
    clear c7
    have H' := Aside0.mk H
    clear H
    have hnb8 := NB163_162.out
    have hnc8 := NB162_163.out
    have hcz9_0 : wr.cell? ⟨gb163, 0, none⟩ = some (.int .i64 x164000_1) := (blk_cell BK163.out 0).trans rfl
    have hcz9_1 : wr.cell? ⟨gb163, 1, none⟩ = some (.int .i64 0) := (blk_cell BK163.out 1).trans rfl
    have hcz9_2 : wr.cell? ⟨gb163, 2, none⟩ = some (.int .i64 0) := (blk_cell BK163.out 2).trans rfl
    have hcz9_3 : wr.cell? ⟨gb163, 3, none⟩ = some (.int .i64 (wrap64 (Int.tdiv (Int.tmod a0 86400) 3600))) := (blk_cell BK163.out 3).trans rfl
    have hcz9_4 : wr.cell? ⟨gb163, 4, none⟩ = some (.int .i64 (Int.tmod (wrap64 (Int.tdiv (Int.tmod a0 86400) 60)) 60)) := (blk_cell BK163.out 4).trans rfl
    have hcz9_5 : wr.cell? ⟨gb163, 5, none⟩ = some (.int .i64 (Int.tmod a0 60)) := (blk_cell BK163.out 5).trans rfl
    have hfz9_0 := blk_frozen BK163.out 0
    have hfz9_1 := blk_frozen BK163.out 1
    have hfz9_2 := blk_frozen BK163.out 2
    have hfz9_3 := blk_frozen BK163.out 3
    have hfz9_4 := blk_frozen BK163.out 4
    have hfz9_5 := blk_frozen BK163.out 5
    go_wp2_with (first | ((with_reducible refine gate_callee (f := 61) rfl ?_); refine goesL_ (some 26) rfl rfl Tryd.func61 (by kernel_rfl) rfl #[.int .i64 (wrap64 (x164000_1 + 1))] rfl (by (try simp only [List.map_toArray, List.map_cons, List.map_nil]); first | done | rfl | (simp only [List.length_drop, List.length_take]; rfl)) ?_; (with_reducible refine (date_days.calls (wrap64 (x164000_1 + 1)) t164 _ A6.out).mono ?_); rintro e w' ⟨rfl, ⟨nd, rfl⟩⟩; refine ⟨_, rfl, ?_⟩; (try (rw [drewN_self wr]; generalize hq_ : World.drewN wr _ = wr; have n0_ : Aside0 (wr.heap[gb162]? = some (.cells #[.int .i64 0, .int .i64 0, .int .i64 0, .int .i64 0, .int .i64 0, .int .i64 0] 76 (0, 0))) := ⟨by rw [← hq_]; exact (by (with_reducible repeat (first | refine blk_drewN ?_ _ | refine blk_drew ?_ | refine blk_alloc ?_ _)); exact BK162.out)⟩; have n1_ : Aside0 (wr.heap[gb163]? = some (.cells #[.int .i64 x164000_1, .int .i64 0, .int .i64 0, .int .i64 (wrap64 (Int.tdiv (Int.tmod a0 86400) 3600)), .int .i64 (Int.tmod (wrap64 (Int.tdiv (Int.tmod a0 86400) 60)) 60), .int .i64 (Int.tmod a0 60)] 76 (0, 0))) := ⟨by rw [← hq_]; exact (by (with_reducible repeat (first | refine blk_drewN ?_ _ | refine blk_drew ?_ | refine blk_alloc ?_ _)); exact BK163.out)⟩; have n2_ : Aside0 (Below w.heap.size w wr) := ⟨by rw [← hq_]; exact (by repeat (first | (with_reducible first | exact HB.out | apply below_alloc | apply pw_below_drewN | apply below_drew1 | refine below_set ?_ GE162.out | refine below_set ?_ GE163.out) | exact HB.out))⟩; clear BK162 BK163 HB hq_; have BK162 := n0_; have BK163 := n1_; have HB := n2_; clear n0_ n1_ n2_)); (try have hcz9_0 : wr.cell? ⟨gb163, 0, none⟩ = some (.int .i64 x164000_1) := (blk_cell BK163.out 0).trans rfl); (try have hcz9_1 : wr.cell? ⟨gb163, 1, none⟩ = some (.int .i64 0) := (blk_cell BK163.out 1).trans rfl); (try have hcz9_2 : wr.cell? ⟨gb163, 2, none⟩ = some (.int .i64 0) := (blk_cell BK163.out 2).trans rfl); (try have hcz9_3 : wr.cell? ⟨gb163, 3, none⟩ = some (.int .i64 (wrap64 (Int.tdiv (Int.tmod a0 86400) 3600))) := (blk_cell BK163.out 3).trans rfl); (try have hcz9_4 : wr.cell? ⟨gb163, 4, none⟩ = some (.int .i64 (Int.tmod (wrap64 (Int.tdiv (Int.tmod a0 86400) 60)) 60)) := (blk_cell BK163.out 4).trans rfl); (try have hcz9_5 : wr.cell? ⟨gb163, 5, none⟩ = some (.int .i64 (Int.tmod a0 60)) := (blk_cell BK163.out 5).trans rfl); (try have hfz9_0 := blk_frozen BK163.out 0); (try have hfz9_1 := blk_frozen BK163.out 1); (try have hfz9_2 := blk_frozen BK163.out 2); (try have hfz9_3 := blk_frozen BK163.out 3); (try have hfz9_4 := blk_frozen BK163.out 4); (try have hfz9_5 := blk_frozen BK163.out 5)))
    go_roundg k1
    case measure => have := HK1.out; omega
    case rel => exact ⟨(wrap64 (x164000_1 + 1)), H', ⟨by have := HK1.out; omega⟩, ⟨by (with_reducible repeat (first | refine blk_drewN ?_ _ | refine blk_drew ?_ | refine blk_alloc ?_ _)); refine blk_far ?_ NB162_163.out _; (with_reducible repeat (first | refine blk_drewN ?_ _ | refine blk_drew ?_ | refine blk_alloc ?_ _)); exact BK162.out⟩, ⟨by (with_reducible repeat (first | refine blk_drewN ?_ _ | refine blk_drew ?_ | refine blk_alloc ?_ _)); refine blk_put (cs := #[.int .i64 x164000_1, .int .i64 0, .int .i64 0, .int .i64 (wrap64 (Int.tdiv (Int.tmod a0 86400) 3600)), .int .i64 (Int.tmod (wrap64 (Int.tdiv (Int.tmod a0 86400) 60)) 60), .int .i64 (Int.tmod a0 60)]) ?_ 0 _ rfl; (with_reducible repeat (first | refine blk_drewN ?_ _ | refine blk_drew ?_ | refine blk_alloc ?_ _)); exact BK163.out⟩, ⟨by repeat (first | (with_reducible first | exact HB.out | apply below_alloc | apply pw_below_drewN | apply below_drew1 | refine below_set ?_ GE162.out | refine below_set ?_ GE163.out) | exact HB.out)⟩⟩
   ·
    rw [if_neg c7] at H
    have c7b0 : decide (t164 ≤ (wrap64 (Int.tdiv a0 86400))) = false := decide_eq_false c7
    clear c7
    replace H := Option.bind_eq_some_iff.mp H
    obtain ⟨t165, A100, H⟩ := H
    replace H : (date_of.l1 k1 (wrap64 (Int.tdiv a0 86400)) (wrap64 ((wrap64 (Int.tdiv a0 86400)) - t165)) x164000_1 0 0 (wrap64 (Int.tdiv (Int.tmod a0 86400) 3600)) (Int.tmod (wrap64 (Int.tdiv (Int.tmod a0 86400) 60)) 60) (Int.tmod a0 60)) = some (r1, r2, r3, r4, r5, r6, r7) := H
    have A10 := Aside0.mk A100
    clear A100
    have H' := Aside0.mk H
    clear H
    have hnb11 := NB163_162.out
    have hnc11 := NB162_163.out
    have hcz12_0 : wr.cell? ⟨gb163, 0, none⟩ = some (.int .i64 x164000_1) := (blk_cell BK163.out 0).trans rfl
    have hcz12_1 : wr.cell? ⟨gb163, 1, none⟩ = some (.int .i64 0) := (blk_cell BK163.out 1).trans rfl
    have hcz12_2 : wr.cell? ⟨gb163, 2, none⟩ = some (.int .i64 0) := (blk_cell BK163.out 2).trans rfl
    have hcz12_3 : wr.cell? ⟨gb163, 3, none⟩ = some (.int .i64 (wrap64 (Int.tdiv (Int.tmod a0 86400) 3600))) := (blk_cell BK163.out 3).trans rfl
    have hcz12_4 : wr.cell? ⟨gb163, 4, none⟩ = some (.int .i64 (Int.tmod (wrap64 (Int.tdiv (Int.tmod a0 86400) 60)) 60)) := (blk_cell BK163.out 4).trans rfl
    have hcz12_5 : wr.cell? ⟨gb163, 5, none⟩ = some (.int .i64 (Int.tmod a0 60)) := (blk_cell BK163.out 5).trans rfl
    have hfz12_0 := blk_frozen BK163.out 0
    have hfz12_1 := blk_frozen BK163.out 1
    have hfz12_2 := blk_frozen BK163.out 2
    have hfz12_3 := blk_frozen BK163.out 3
    have hfz12_4 := blk_frozen BK163.out 4
    have hfz12_5 := blk_frozen BK163.out 5
    go_wp2_with (first | ((with_reducible refine gate_callee (f := 61) rfl ?_); refine goesL_ (some 26) rfl rfl Tryd.func61 (by kernel_rfl) rfl #[.int .i64 (wrap64 (x164000_1 + 1))] rfl (by (try simp only [List.map_toArray, List.map_cons, List.map_nil]); first | done | rfl | (simp only [List.length_drop, List.length_take]; rfl)) ?_; (with_reducible refine (date_days.calls (wrap64 (x164000_1 + 1)) t164 _ A6.out).mono ?_); rintro e w' ⟨rfl, ⟨nd, rfl⟩⟩; refine ⟨_, rfl, ?_⟩) | ((with_reducible refine gate_callee (f := 61) rfl ?_); refine goesL_ (some 36) rfl rfl Tryd.func61 (by kernel_rfl) rfl #[.int .i64 x164000_1] rfl (by (try simp only [List.map_toArray, List.map_cons, List.map_nil]); first | done | rfl | (simp only [List.length_drop, List.length_take]; rfl)) ?_; (with_reducible refine (date_days.calls x164000_1 t165 _ A10.out).mono ?_); rintro e w' ⟨rfl, ⟨nd, rfl⟩⟩; refine ⟨_, rfl, ?_⟩))
    go_loopg [7] k1 (fun kq v7 w' => ∃ (x7_2 : Int) (x164001_2 : Int), v7 = .int .i64 x7_2 ∧ Aside0 (date_of.l1 kq (wrap64 (Int.tdiv a0 86400)) x7_2 x164000_1 x164001_2 0 (wrap64 (Int.tdiv (Int.tmod a0 86400) 3600)) (Int.tmod (wrap64 (Int.tdiv (Int.tmod a0 86400) 60)) 60) (Int.tmod a0 60) = some (r1, r2, r3, r4, r5, r6, r7)) ∧ Aside0 (kq ≤ k1) ∧ Aside0 (w'.heap[gb162]? = some (.cells #[.int .i64 0, .int .i64 0, .int .i64 0, .int .i64 0, .int .i64 0, .int .i64 0] 76 (0, 0))) ∧ Aside0 (w'.heap[gb163]? = some (.cells #[.int .i64 x164000_1, .int .i64 x164001_2, .int .i64 0, .int .i64 (wrap64 (Int.tdiv (Int.tmod a0 86400) 3600)), .int .i64 (Int.tmod (wrap64 (Int.tdiv (Int.tmod a0 86400) 60)) 60), .int .i64 (Int.tmod a0 60)] 76 (0, 0))) ∧ Aside0 (Below w.heap.size w w'))
    case atStart => exact ⟨(wrap64 ((wrap64 (Int.tdiv a0 86400)) - t165)), (0), (by first | rfl | (simp; done) | (simp [*]; done)), H', ⟨Nat.le_refl _⟩, ⟨by (with_reducible repeat (first | refine blk_drewN ?_ _ | refine blk_drew ?_ | refine blk_alloc ?_ _)); exact BK162.out⟩, ⟨by (with_reducible repeat (first | refine blk_drewN ?_ _ | refine blk_drew ?_ | refine blk_alloc ?_ _)); exact BK163.out⟩, ⟨by repeat (first | (with_reducible first | exact HB.out | apply below_alloc | apply pw_below_drewN | apply below_drew1 | refine below_set ?_ GE162.out | refine below_set ?_ GE163.out) | exact HB.out)⟩⟩
    case round =>
     clear H'
     try clear c1
     try clear p2
     try clear c3
     try clear c4
     try clear c6
     try clear p6
     try clear c7
     try clear c7b0
     try clear c8
     try clear c11
     try clear hcz12_0
     try clear hcz12_1
     try clear hcz12_2
     try clear hcz12_3
     try clear hcz12_4
     try clear hcz12_5
     try clear hcz5_0
     try clear hcz5_1
     try clear hcz5_2
     try clear hcz5_3
     try clear hcz5_4
     try clear hcz5_5
     try clear hcz9_0
     try clear hcz9_1
     try clear hcz9_2
     try clear hcz9_3
     try clear hcz9_4
     try clear hcz9_5
     try clear hfz12_0
     try clear hfz12_1
     try clear hfz12_2
     try clear hfz12_3
     try clear hfz12_4
     try clear hfz12_5
     try clear hfz5_0
     try clear hfz5_1
     try clear hfz5_2
     try clear hfz5_3
     try clear hfz5_4
     try clear hfz5_5
     try clear hfz9_0
     try clear hfz9_1
     try clear hfz9_2
     try clear hfz9_3
     try clear hfz9_4
     try clear hfz9_5
     try clear p2
     obtain ⟨x7_2, x164001_2, rfl, HA, HK2, BK162, BK163, HB⟩ := hrel
     cases gk with
     | zero => exact absurd HA.out (by simp [date_of.l1])
     | succ k2 =>
      have H := HA.out
      clear HA
      simp only [date_of.l1] at H
      replace H := Option.bind_eq_some_iff.mp H
      obtain ⟨t166, A130, H⟩ := H
      replace H : (if x7_2 ≥ t166 then ((date_length.f x164000_1 x164001_2).bind fun t167 => (date_of.l1 k2 (wrap64 (Int.tdiv a0 86400)) (wrap64 (x7_2 - t167)) x164000_1 (wrap64 (x164001_2 + 1)) 0 (wrap64 (Int.tdiv (Int.tmod a0 86400) 3600)) (Int.tmod (wrap64 (Int.tdiv (Int.tmod a0 86400) 60)) 60) (Int.tmod a0 60))) else ((date_weekday.f (wrap64 (Int.tdiv a0 86400))).bind fun t168 => (some (x164000_1, x164001_2, wrap64 (x7_2 + 1), (wrap64 (Int.tdiv (Int.tmod a0 86400) 3600)), (Int.tmod (wrap64 (Int.tdiv (Int.tmod a0 86400) 60)) 60), (Int.tmod a0 60), t168)))) = some (r1, r2, r3, r4, r5, r6, r7) := H
      have A13 := Aside0.mk A130
      clear A130
      by_cases c14 : x7_2 ≥ t166
      ·
       rw [if_pos c14] at H
       have c14b0 : decide (t166 ≤ x7_2) = true := decide_eq_true c14
       clear c14
       replace H := Option.bind_eq_some_iff.mp H
       obtain ⟨t167, A150, H⟩ := H
       replace H : (date_of.l1 k2 (wrap64 (Int.tdiv a0 86400)) (wrap64 (x7_2 - t167)) x164000_1 (wrap64 (x164001_2 + 1)) 0 (wrap64 (Int.tdiv (Int.tmod a0 86400) 3600)) (Int.tmod (wrap64 (Int.tdiv (Int.tmod a0 86400) 60)) 60) (Int.tmod a0 60)) = some (r1, r2, r3, r4, r5, r6, r7) := H
       have A15 := Aside0.mk A150
       clear A150
       have H' := Aside0.mk H
       clear H
       have hnb16 := NB163_162.out
       have hnc16 := NB162_163.out
       have hcz17_0 : wr.cell? ⟨gb163, 0, none⟩ = some (.int .i64 x164000_1) := (blk_cell BK163.out 0).trans rfl
       have hcz17_1 : wr.cell? ⟨gb163, 1, none⟩ = some (.int .i64 x164001_2) := (blk_cell BK163.out 1).trans rfl
       have hcz17_2 : wr.cell? ⟨gb163, 2, none⟩ = some (.int .i64 0) := (blk_cell BK163.out 2).trans rfl
       have hcz17_3 : wr.cell? ⟨gb163, 3, none⟩ = some (.int .i64 (wrap64 (Int.tdiv (Int.tmod a0 86400) 3600))) := (blk_cell BK163.out 3).trans rfl
       have hcz17_4 : wr.cell? ⟨gb163, 4, none⟩ = some (.int .i64 (Int.tmod (wrap64 (Int.tdiv (Int.tmod a0 86400) 60)) 60)) := (blk_cell BK163.out 4).trans rfl
       have hcz17_5 : wr.cell? ⟨gb163, 5, none⟩ = some (.int .i64 (Int.tmod a0 60)) := (blk_cell BK163.out 5).trans rfl
       have hfz17_0 := blk_frozen BK163.out 0
       have hfz17_1 := blk_frozen BK163.out 1
       have hfz17_2 := blk_frozen BK163.out 2
       have hfz17_3 := blk_frozen BK163.out 3
       have hfz17_4 := blk_frozen BK163.out 4
       have hfz17_5 := blk_frozen BK163.out 5
       go_wp2_with (first | ((with_reducible refine gate_callee (f := 62) rfl ?_); refine goesL_ (some 43) rfl rfl Tryd.func62 (by kernel_rfl) rfl #[.int .i64 x164000_1, .int .i64 x164001_2] rfl (by (try simp only [List.map_toArray, List.map_cons, List.map_nil]); first | done | rfl | (simp only [List.length_drop, List.length_take]; rfl)) ?_; (with_reducible refine (date_length.calls x164000_1 x164001_2 t166 _ A13.out).mono ?_); rintro e w' ⟨rfl, ⟨nd, rfl⟩⟩; refine ⟨_, rfl, ?_⟩; (try (rw [drewN_self wr]; generalize hq_ : World.drewN wr _ = wr; have n0_ : Aside0 (wr.heap[gb162]? = some (.cells #[.int .i64 0, .int .i64 0, .int .i64 0, .int .i64 0, .int .i64 0, .int .i64 0] 76 (0, 0))) := ⟨by rw [← hq_]; exact (by (with_reducible repeat (first | refine blk_drewN ?_ _ | refine blk_drew ?_ | refine blk_alloc ?_ _)); exact BK162.out)⟩; have n1_ : Aside0 (wr.heap[gb163]? = some (.cells #[.int .i64 x164000_1, .int .i64 x164001_2, .int .i64 0, .int .i64 (wrap64 (Int.tdiv (Int.tmod a0 86400) 3600)), .int .i64 (Int.tmod (wrap64 (Int.tdiv (Int.tmod a0 86400) 60)) 60), .int .i64 (Int.tmod a0 60)] 76 (0, 0))) := ⟨by rw [← hq_]; exact (by (with_reducible repeat (first | refine blk_drewN ?_ _ | refine blk_drew ?_ | refine blk_alloc ?_ _)); exact BK163.out)⟩; have n2_ : Aside0 (Below w.heap.size w wr) := ⟨by rw [← hq_]; exact (by repeat (first | (with_reducible first | exact HB.out | apply below_alloc | apply pw_below_drewN | apply below_drew1 | refine below_set ?_ GE162.out | refine below_set ?_ GE163.out) | exact HB.out))⟩; clear BK162 BK163 HB hq_; have BK162 := n0_; have BK163 := n1_; have HB := n2_; clear n0_ n1_ n2_)); (try have hcz17_0 : wr.cell? ⟨gb163, 0, none⟩ = some (.int .i64 x164000_1) := (blk_cell BK163.out 0).trans rfl); (try have hcz17_1 : wr.cell? ⟨gb163, 1, none⟩ = some (.int .i64 x164001_2) := (blk_cell BK163.out 1).trans rfl); (try have hcz17_2 : wr.cell? ⟨gb163, 2, none⟩ = some (.int .i64 0) := (blk_cell BK163.out 2).trans rfl); (try have hcz17_3 : wr.cell? ⟨gb163, 3, none⟩ = some (.int .i64 (wrap64 (Int.tdiv (Int.tmod a0 86400) 3600))) := (blk_cell BK163.out 3).trans rfl); (try have hcz17_4 : wr.cell? ⟨gb163, 4, none⟩ = some (.int .i64 (Int.tmod (wrap64 (Int.tdiv (Int.tmod a0 86400) 60)) 60)) := (blk_cell BK163.out 4).trans rfl); (try have hcz17_5 : wr.cell? ⟨gb163, 5, none⟩ = some (.int .i64 (Int.tmod a0 60)) := (blk_cell BK163.out 5).trans rfl); (try have hfz17_0 := blk_frozen BK163.out 0); (try have hfz17_1 := blk_frozen BK163.out 1); (try have hfz17_2 := blk_frozen BK163.out 2); (try have hfz17_3 := blk_frozen BK163.out 3); (try have hfz17_4 := blk_frozen BK163.out 4); (try have hfz17_5 := blk_frozen BK163.out 5)) | ((with_reducible refine gate_callee (f := 62) rfl ?_); refine goesL_ (some 50) rfl rfl Tryd.func62 (by kernel_rfl) rfl #[.int .i64 x164000_1, .int .i64 x164001_2] rfl (by (try simp only [List.map_toArray, List.map_cons, List.map_nil]); first | done | rfl | (simp only [List.length_drop, List.length_take]; rfl)) ?_; (with_reducible refine (date_length.calls x164000_1 x164001_2 t167 _ A15.out).mono ?_); rintro e w' ⟨rfl, ⟨nd, rfl⟩⟩; refine ⟨_, rfl, ?_⟩; (try (rw [drewN_self wr]; generalize hq_ : World.drewN wr _ = wr; have n0_ : Aside0 (wr.heap[gb162]? = some (.cells #[.int .i64 0, .int .i64 0, .int .i64 0, .int .i64 0, .int .i64 0, .int .i64 0] 76 (0, 0))) := ⟨by rw [← hq_]; exact (by (with_reducible repeat (first | refine blk_drewN ?_ _ | refine blk_drew ?_ | refine blk_alloc ?_ _)); exact BK162.out)⟩; have n1_ : Aside0 (wr.heap[gb163]? = some (.cells #[.int .i64 x164000_1, .int .i64 x164001_2, .int .i64 0, .int .i64 (wrap64 (Int.tdiv (Int.tmod a0 86400) 3600)), .int .i64 (Int.tmod (wrap64 (Int.tdiv (Int.tmod a0 86400) 60)) 60), .int .i64 (Int.tmod a0 60)] 76 (0, 0))) := ⟨by rw [← hq_]; exact (by (with_reducible repeat (first | refine blk_drewN ?_ _ | refine blk_drew ?_ | refine blk_alloc ?_ _)); exact BK163.out)⟩; have n2_ : Aside0 (Below w.heap.size w wr) := ⟨by rw [← hq_]; exact (by repeat (first | (with_reducible first | exact HB.out | apply below_alloc | apply pw_below_drewN | apply below_drew1 | refine below_set ?_ GE162.out | refine below_set ?_ GE163.out) | exact HB.out))⟩; clear BK162 BK163 HB hq_; have BK162 := n0_; have BK163 := n1_; have HB := n2_; clear n0_ n1_ n2_)); (try have hcz17_0 : wr.cell? ⟨gb163, 0, none⟩ = some (.int .i64 x164000_1) := (blk_cell BK163.out 0).trans rfl); (try have hcz17_1 : wr.cell? ⟨gb163, 1, none⟩ = some (.int .i64 x164001_2) := (blk_cell BK163.out 1).trans rfl); (try have hcz17_2 : wr.cell? ⟨gb163, 2, none⟩ = some (.int .i64 0) := (blk_cell BK163.out 2).trans rfl); (try have hcz17_3 : wr.cell? ⟨gb163, 3, none⟩ = some (.int .i64 (wrap64 (Int.tdiv (Int.tmod a0 86400) 3600))) := (blk_cell BK163.out 3).trans rfl); (try have hcz17_4 : wr.cell? ⟨gb163, 4, none⟩ = some (.int .i64 (Int.tmod (wrap64 (Int.tdiv (Int.tmod a0 86400) 60)) 60)) := (blk_cell BK163.out 4).trans rfl); (try have hcz17_5 : wr.cell? ⟨gb163, 5, none⟩ = some (.int .i64 (Int.tmod a0 60)) := (blk_cell BK163.out 5).trans rfl); (try have hfz17_0 := blk_frozen BK163.out 0); (try have hfz17_1 := blk_frozen BK163.out 1); (try have hfz17_2 := blk_frozen BK163.out 2); (try have hfz17_3 := blk_frozen BK163.out 3); (try have hfz17_4 := blk_frozen BK163.out 4); (try have hfz17_5 := blk_frozen BK163.out 5)))
       go_roundg k2
       case measure => have := HK1.out; have := HK2.out; omega
       case rel => exact ⟨(wrap64 (x7_2 - t167)), (wrap64 (x164001_2 + 1)), (by first | rfl | (simp; done) | (simp [*]; done)), H', ⟨by have := HK1.out; have := HK2.out; omega⟩, ⟨by (with_reducible repeat (first | refine blk_drewN ?_ _ | refine blk_drew ?_ | refine blk_alloc ?_ _)); refine blk_far ?_ NB162_163.out _; (with_reducible repeat (first | refine blk_drewN ?_ _ | refine blk_drew ?_ | refine blk_alloc ?_ _)); exact BK162.out⟩, ⟨by (with_reducible repeat (first | refine blk_drewN ?_ _ | refine blk_drew ?_ | refine blk_alloc ?_ _)); refine blk_put (cs := #[.int .i64 x164000_1, .int .i64 x164001_2, .int .i64 0, .int .i64 (wrap64 (Int.tdiv (Int.tmod a0 86400) 3600)), .int .i64 (Int.tmod (wrap64 (Int.tdiv (Int.tmod a0 86400) 60)) 60), .int .i64 (Int.tmod a0 60)]) ?_ 1 _ rfl; (with_reducible repeat (first | refine blk_drewN ?_ _ | refine blk_drew ?_ | refine blk_alloc ?_ _)); exact BK163.out⟩, ⟨by repeat (first | (with_reducible first | exact HB.out | apply below_alloc | apply pw_below_drewN | apply below_drew1 | refine below_set ?_ GE162.out | refine below_set ?_ GE163.out) | exact HB.out)⟩⟩
      ·
       rw [if_neg c14] at H
       have c14b0 : decide (t166 ≤ x7_2) = false := decide_eq_false c14
       clear c14
       replace H := Option.bind_eq_some_iff.mp H
       obtain ⟨t168, A180, H⟩ := H
       replace H : (some (x164000_1, x164001_2, wrap64 (x7_2 + 1), (wrap64 (Int.tdiv (Int.tmod a0 86400) 3600)), (Int.tmod (wrap64 (Int.tdiv (Int.tmod a0 86400) 60)) 60), (Int.tmod a0 60), t168)) = some (r1, r2, r3, r4, r5, r6, r7) := H
       have A18 := Aside0.mk A180
       clear A180
       simp only [Option.some.injEq, Prod.mk.injEq] at H
       obtain ⟨rfl, rfl, rfl, rfl, rfl, rfl, rfl⟩ := H
       have hnb19 := NB163_162.out
       have hnc19 := NB162_163.out
       have hcz20_0 : wr.cell? ⟨gb163, 0, none⟩ = some (.int .i64 x164000_1) := (blk_cell BK163.out 0).trans rfl
       have hcz20_1 : wr.cell? ⟨gb163, 1, none⟩ = some (.int .i64 x164001_2) := (blk_cell BK163.out 1).trans rfl
       have hcz20_2 : wr.cell? ⟨gb163, 2, none⟩ = some (.int .i64 0) := (blk_cell BK163.out 2).trans rfl
       have hcz20_3 : wr.cell? ⟨gb163, 3, none⟩ = some (.int .i64 (wrap64 (Int.tdiv (Int.tmod a0 86400) 3600))) := (blk_cell BK163.out 3).trans rfl
       have hcz20_4 : wr.cell? ⟨gb163, 4, none⟩ = some (.int .i64 (Int.tmod (wrap64 (Int.tdiv (Int.tmod a0 86400) 60)) 60)) := (blk_cell BK163.out 4).trans rfl
       have hcz20_5 : wr.cell? ⟨gb163, 5, none⟩ = some (.int .i64 (Int.tmod a0 60)) := (blk_cell BK163.out 5).trans rfl
       have hfz20_0 := blk_frozen BK163.out 0
       have hfz20_1 := blk_frozen BK163.out 1
       have hfz20_2 := blk_frozen BK163.out 2
       have hfz20_3 := blk_frozen BK163.out 3
       have hfz20_4 := blk_frozen BK163.out 4
       have hfz20_5 := blk_frozen BK163.out 5
       try go_wp2_with (first | ((with_reducible refine gate_callee (f := 62) rfl ?_); refine goesL_ (some 43) rfl rfl Tryd.func62 (by kernel_rfl) rfl #[.int .i64 x164000_1, .int .i64 x164001_2] rfl (by (try simp only [List.map_toArray, List.map_cons, List.map_nil]); first | done | rfl | (simp only [List.length_drop, List.length_take]; rfl)) ?_; (with_reducible refine (date_length.calls x164000_1 x164001_2 t166 _ A13.out).mono ?_); rintro e w' ⟨rfl, ⟨nd, rfl⟩⟩; refine ⟨_, rfl, ?_⟩; (try (rw [drewN_self wr]; generalize hq_ : World.drewN wr _ = wr; have n0_ : Aside0 (wr.heap[gb162]? = some (.cells #[.int .i64 0, .int .i64 0, .int .i64 0, .int .i64 0, .int .i64 0, .int .i64 0] 76 (0, 0))) := ⟨by rw [← hq_]; exact (by (with_reducible repeat (first | refine blk_drewN ?_ _ | refine blk_drew ?_ | refine blk_alloc ?_ _)); exact BK162.out)⟩; have n1_ : Aside0 (wr.heap[gb163]? = some (.cells #[.int .i64 x164000_1, .int .i64 x164001_2, .int .i64 0, .int .i64 (wrap64 (Int.tdiv (Int.tmod a0 86400) 3600)), .int .i64 (Int.tmod (wrap64 (Int.tdiv (Int.tmod a0 86400) 60)) 60), .int .i64 (Int.tmod a0 60)] 76 (0, 0))) := ⟨by rw [← hq_]; exact (by (with_reducible repeat (first | refine blk_drewN ?_ _ | refine blk_drew ?_ | refine blk_alloc ?_ _)); exact BK163.out)⟩; have n2_ : Aside0 (Below w.heap.size w wr) := ⟨by rw [← hq_]; exact (by repeat (first | (with_reducible first | exact HB.out | apply below_alloc | apply pw_below_drewN | apply below_drew1 | refine below_set ?_ GE162.out | refine below_set ?_ GE163.out) | exact HB.out))⟩; clear BK162 BK163 HB hq_; have BK162 := n0_; have BK163 := n1_; have HB := n2_; clear n0_ n1_ n2_)); (try have hcz20_0 : wr.cell? ⟨gb163, 0, none⟩ = some (.int .i64 x164000_1) := (blk_cell BK163.out 0).trans rfl); (try have hcz20_1 : wr.cell? ⟨gb163, 1, none⟩ = some (.int .i64 x164001_2) := (blk_cell BK163.out 1).trans rfl); (try have hcz20_2 : wr.cell? ⟨gb163, 2, none⟩ = some (.int .i64 0) := (blk_cell BK163.out 2).trans rfl); (try have hcz20_3 : wr.cell? ⟨gb163, 3, none⟩ = some (.int .i64 (wrap64 (Int.tdiv (Int.tmod a0 86400) 3600))) := (blk_cell BK163.out 3).trans rfl); (try have hcz20_4 : wr.cell? ⟨gb163, 4, none⟩ = some (.int .i64 (Int.tmod (wrap64 (Int.tdiv (Int.tmod a0 86400) 60)) 60)) := (blk_cell BK163.out 4).trans rfl); (try have hcz20_5 : wr.cell? ⟨gb163, 5, none⟩ = some (.int .i64 (Int.tmod a0 60)) := (blk_cell BK163.out 5).trans rfl); (try have hfz20_0 := blk_frozen BK163.out 0); (try have hfz20_1 := blk_frozen BK163.out 1); (try have hfz20_2 := blk_frozen BK163.out 2); (try have hfz20_3 := blk_frozen BK163.out 3); (try have hfz20_4 := blk_frozen BK163.out 4); (try have hfz20_5 := blk_frozen BK163.out 5)))
       have n0_ : Aside0 ((wr.setCell ⟨gb163, 2, none⟩ (.int .i64 (wrap64 (x7_2 + 1)))).heap[gb162]? = some (.cells #[.int .i64 0, .int .i64 0, .int .i64 0, .int .i64 0, .int .i64 0, .int .i64 0] 76 (0, 0))) := ⟨by (with_reducible repeat (first | refine blk_drewN ?_ _ | refine blk_drew ?_ | refine blk_alloc ?_ _)); refine blk_far ?_ NB162_163.out _; (with_reducible repeat (first | refine blk_drewN ?_ _ | refine blk_drew ?_ | refine blk_alloc ?_ _)); exact BK162.out⟩
       have n1_ : Aside0 ((wr.setCell ⟨gb163, 2, none⟩ (.int .i64 (wrap64 (x7_2 + 1)))).heap[gb163]? = some (.cells #[.int .i64 x164000_1, .int .i64 x164001_2, .int .i64 (wrap64 (x7_2 + 1)), .int .i64 (wrap64 (Int.tdiv (Int.tmod a0 86400) 3600)), .int .i64 (Int.tmod (wrap64 (Int.tdiv (Int.tmod a0 86400) 60)) 60), .int .i64 (Int.tmod a0 60)] 76 (0, 0))) := ⟨by (with_reducible repeat (first | refine blk_drewN ?_ _ | refine blk_drew ?_ | refine blk_alloc ?_ _)); refine blk_put (cs := #[.int .i64 x164000_1, .int .i64 x164001_2, .int .i64 0, .int .i64 (wrap64 (Int.tdiv (Int.tmod a0 86400) 3600)), .int .i64 (Int.tmod (wrap64 (Int.tdiv (Int.tmod a0 86400) 60)) 60), .int .i64 (Int.tmod a0 60)]) ?_ 2 _ rfl; (with_reducible repeat (first | refine blk_drewN ?_ _ | refine blk_drew ?_ | refine blk_alloc ?_ _)); exact BK163.out⟩
       have n2_ : Aside0 (Below w.heap.size w (wr.setCell ⟨gb163, 2, none⟩ (.int .i64 (wrap64 (x7_2 + 1))))) := ⟨by repeat (first | (with_reducible first | exact HB.out | apply below_alloc | apply pw_below_drewN | apply below_drew1 | refine below_set ?_ GE162.out | refine below_set ?_ GE163.out) | exact HB.out)⟩
       (try clear BK162)
       (try clear BK163)
       (try clear HB)
       generalize (wr.setCell ⟨gb163, 2, none⟩ (.int .i64 (wrap64 (x7_2 + 1)))) = w21 at n0_ n1_ n2_ ⊢
       have BK162 := n0_
       have BK163 := n1_
       have HB := n2_
       clear n0_ n1_ n2_
       have n0_ := Aside0.mk (blk_drew BK162.out)
       have n1_ := Aside0.mk (blk_drew BK163.out)
       have n2_ := Aside0.mk (below_drew1 HB.out)
       clear BK162
       clear BK163
       clear HB
       have BK162 := n0_
       have BK163 := n1_
       have HB := n2_
       clear n0_ n1_ n2_
       refine start_ (n := 5) (S := fun w' => w'.cell? ⟨gb163, 0, none⟩ = some (.int .i64 x164000_1) ∧ w'.cell? ⟨gb163, 1, none⟩ = some (.int .i64 x164001_2) ∧ w'.cell? ⟨gb163, 2, none⟩ = some (.int .i64 (wrap64 (x7_2 + 1))) ∧ w'.cell? ⟨gb163, 3, none⟩ = some (.int .i64 (wrap64 (Int.tdiv (Int.tmod a0 86400) 3600))) ∧ w'.cell? ⟨gb163, 4, none⟩ = some (.int .i64 (Int.tmod (wrap64 (Int.tdiv (Int.tmod a0 86400) 60)) 60)) ∧ w'.cell? ⟨gb163, 5, none⟩ = some (.int .i64 (Int.tmod a0 60))) (ds := []) #[O,O,O,O,O] (by kernel_rfl) rfl rfl ⟨(blk_cell BK163.out 0).trans rfl, (blk_cell BK163.out 1).trans rfl, (blk_cell BK163.out 2).trans rfl, (blk_cell BK163.out 3).trans rfl, (blk_cell BK163.out 4).trans rfl, (blk_cell BK163.out 5).trans rfl⟩ (fun hHeld => ?_)
       generalize w21.drew = w22 at BK162 BK163 HB hHeld ⊢
       refine pure_ (i := 1) (N := some 60) (v := ?_) (a' := ?_) #[O,I,O,O,O] rfl rfl (by kernel_rfl) (fun _ _ _ h => h) (Or.inl ⟨by rfl, ?_⟩) ?_ ?_
       rotate_left
       ·
        intro w'
        go_simp
        with_reducible rfl
       rotate_left
       ·
        simp only [Act.put, List.setIfInBounds_toArray, List.set_cons_zero, List.set_cons_succ, i64_w, i32_w]
        rfl
       refine take_ (i := 0) (N := some 59) (v := ?_) (a' := ?_) #[I,I,O,O,O] rfl rfl (by kernel_rfl) (fun _ _ _ h => h) (Or.inl ⟨by rfl, ?_⟩) hHeld ?_ ?_
       rotate_left
       ·
        rintro w' ⟨s0, s1, s2, s3, s4, s5⟩
        go_simp
        with_reducible rfl
       rotate_left
       ·
        simp only [Act.put, List.setIfInBounds_toArray, List.set_cons_zero, List.set_cons_succ, i64_w, i32_w]
        rfl
       refine one_ (i := 2) (N := some 61) #[I,I,I,O,O] rfl rfl (by kernel_rfl) (by decide) (fun K hK => ?_)
       refine goes_ Tryd.func63 (by kernel_rfl) rfl #[.int .i64 (wrap64 (Int.tdiv a0 86400))] (by rfl) rfl rfl (by (try simp only [List.map_toArray, List.map_cons, List.map_nil]); first | done | rfl | (simp only [List.length_drop, List.length_take]; rfl)) ?_
       with_reducible refine (date_weekday.calls (wrap64 (Int.tdiv a0 86400)) t168 _ A18.out).mono ?_
       rintro e w' ⟨rfl, ⟨nd, rfl⟩⟩
       refine ⟨_, rfl, ?_⟩
       refine hK.out _ _ ⟨(blk_cell BK163.out 0).trans rfl, (blk_cell BK163.out 1).trans rfl, (blk_cell BK163.out 2).trans rfl, (blk_cell BK163.out 3).trans rfl, (blk_cell BK163.out 4).trans rfl, (blk_cell BK163.out 5).trans rfl⟩ (fun hHeld => ?_)
       clear hK K
       refine norm_ (a' := ?_) ?_ ?_
       rotate_left
       ·
        show Act.put _ (some 61) _ = _
        simp only [Act.put, List.setIfInBounds_toArray, List.set_cons_zero, List.set_cons_succ, i64_w, i32_w]
        rfl
       refine one_ (i := 3) (N := none) #[I,I,I,I,O] rfl rfl (by kernel_rfl) (by decide) (fun K hK => ?_)
       have hs23 : w22.cell? ⟨gb162, 0, none⟩ = some (.int .i64 0) := (blk_cell BK162.out 0).trans rfl
       have hfs23 := blk_frozen BK162.out 0
       have hns23_1 := NB163_162.out
       have hms23_1 := NB162_163.out
       have hs24 : w22.cell? ⟨gb162, 1, none⟩ = some (.int .i64 0) := (blk_cell BK162.out 1).trans rfl
       have hfs24 := blk_frozen BK162.out 1
       have hns24_1 := NB163_162.out
       have hms24_1 := NB162_163.out
       have hs25 : w22.cell? ⟨gb162, 2, none⟩ = some (.int .i64 0) := (blk_cell BK162.out 2).trans rfl
       have hfs25 := blk_frozen BK162.out 2
       have hns25_1 := NB163_162.out
       have hms25_1 := NB162_163.out
       have hs26 : w22.cell? ⟨gb162, 3, none⟩ = some (.int .i64 0) := (blk_cell BK162.out 3).trans rfl
       have hfs26 := blk_frozen BK162.out 3
       have hns26_1 := NB163_162.out
       have hms26_1 := NB162_163.out
       have hs27 : w22.cell? ⟨gb162, 4, none⟩ = some (.int .i64 0) := (blk_cell BK162.out 4).trans rfl
       have hfs27 := blk_frozen BK162.out 4
       have hns27_1 := NB163_162.out
       have hms27_1 := NB162_163.out
       have hs28 : w22.cell? ⟨gb162, 5, none⟩ = some (.int .i64 0) := (blk_cell BK162.out 5).trans rfl
       have hfs28 := blk_frozen BK162.out 5
       have hns28_1 := NB163_162.out
       have hms28_1 := NB162_163.out
       refine skip_ (w1 := ?_) (by rfl) rfl ?_ ?_
       rotate_left
       ·
        go_simp
        rfl
       refine hK.out _ _ ⟨((cell_far (p := ⟨gb162, _, none⟩) NB163_162.out _).trans (((cell_far (p := ⟨gb162, _, none⟩) NB163_162.out _).trans (((cell_far (p := ⟨gb162, _, none⟩) NB163_162.out _).trans (((cell_far (p := ⟨gb162, _, none⟩) NB163_162.out _).trans (((cell_far (p := ⟨gb162, _, none⟩) NB163_162.out _).trans (((cell_far (p := ⟨gb162, _, none⟩) NB163_162.out _).trans (hHeld.1)))))))))))), ((cell_far (p := ⟨gb162, _, none⟩) NB163_162.out _).trans (((cell_far (p := ⟨gb162, _, none⟩) NB163_162.out _).trans (((cell_far (p := ⟨gb162, _, none⟩) NB163_162.out _).trans (((cell_far (p := ⟨gb162, _, none⟩) NB163_162.out _).trans (((cell_far (p := ⟨gb162, _, none⟩) NB163_162.out _).trans (((cell_far (p := ⟨gb162, _, none⟩) NB163_162.out _).trans (hHeld.2.1)))))))))))), ((cell_far (p := ⟨gb162, _, none⟩) NB163_162.out _).trans (((cell_far (p := ⟨gb162, _, none⟩) NB163_162.out _).trans (((cell_far (p := ⟨gb162, _, none⟩) NB163_162.out _).trans (((cell_far (p := ⟨gb162, _, none⟩) NB163_162.out _).trans (((cell_far (p := ⟨gb162, _, none⟩) NB163_162.out _).trans (((cell_far (p := ⟨gb162, _, none⟩) NB163_162.out _).trans (hHeld.2.2.1)))))))))))), ((cell_far (p := ⟨gb162, _, none⟩) NB163_162.out _).trans (((cell_far (p := ⟨gb162, _, none⟩) NB163_162.out _).trans (((cell_far (p := ⟨gb162, _, none⟩) NB163_162.out _).trans (((cell_far (p := ⟨gb162, _, none⟩) NB163_162.out _).trans (((cell_far (p := ⟨gb162, _, none⟩) NB163_162.out _).trans (((cell_far (p := ⟨gb162, _, none⟩) NB163_162.out _).trans (hHeld.2.2.2.1)))))))))))), ((cell_far (p := ⟨gb162, _, none⟩) NB163_162.out _).trans (((cell_far (p := ⟨gb162, _, none⟩) NB163_162.out _).trans (((cell_far (p := ⟨gb162, _, none⟩) NB163_162.out _).trans (((cell_far (p := ⟨gb162, _, none⟩) NB163_162.out _).trans (((cell_far (p := ⟨gb162, _, none⟩) NB163_162.out _).trans (((cell_far (p := ⟨gb162, _, none⟩) NB163_162.out _).trans (hHeld.2.2.2.2.1)))))))))))), ((cell_far (p := ⟨gb162, _, none⟩) NB163_162.out _).trans (((cell_far (p := ⟨gb162, _, none⟩) NB163_162.out _).trans (((cell_far (p := ⟨gb162, _, none⟩) NB163_162.out _).trans (((cell_far (p := ⟨gb162, _, none⟩) NB163_162.out _).trans (((cell_far (p := ⟨gb162, _, none⟩) NB163_162.out _).trans (((cell_far (p := ⟨gb162, _, none⟩) NB163_162.out _).trans (hHeld.2.2.2.2.2))))))))))))⟩ (fun hHeld => ?_)
       clear hK K
       refine pure_ (i := 4) (N := some 3) (v := ?_) (a' := ?_) #[I,I,I,I,I] rfl rfl (by kernel_rfl) (fun _ _ _ h => h) (Or.inl ⟨by rfl, ?_⟩) ?_ ?_
       rotate_left
       ·
        intro w'
        go_simp
        with_reducible rfl
       rotate_left
       ·
        simp only [Act.put, List.setIfInBounds_toArray, List.set_cons_zero, List.set_cons_succ, i64_w, i32_w]
        rfl
       refine done_ (by kernel_rfl) ?_
       try go_wp2
       refine bodyPost_ret (results_ct rfl _ _ gb162 76 #[.int .i64 x164000_1, .int .i64 x164001_2, .int .i64 (wrap64 (x7_2 + 1)), .int .i64 (wrap64 (Int.tdiv (Int.tmod a0 86400) 3600)), .int .i64 (Int.tmod (wrap64 (Int.tdiv (Int.tmod a0 86400) 60)) 60), .int .i64 (Int.tmod a0 60)] (0, 0) _ rfl (by (with_reducible repeat (first | refine blk_drewN ?_ _ | refine blk_drew ?_ | refine blk_alloc ?_ _)); refine blk_put (cs := #[.int .i64 x164000_1, .int .i64 x164001_2, .int .i64 (wrap64 (x7_2 + 1)), .int .i64 (wrap64 (Int.tdiv (Int.tmod a0 86400) 3600)), .int .i64 (Int.tmod (wrap64 (Int.tdiv (Int.tmod a0 86400) 60)) 60), .int .i64 0]) ?_ 5 _ rfl; (with_reducible repeat (first | refine blk_drewN ?_ _ | refine blk_drew ?_ | refine blk_alloc ?_ _)); refine blk_put (cs := #[.int .i64 x164000_1, .int .i64 x164001_2, .int .i64 (wrap64 (x7_2 + 1)), .int .i64 (wrap64 (Int.tdiv (Int.tmod a0 86400) 3600)), .int .i64 0, .int .i64 0]) ?_ 4 _ rfl; (with_reducible repeat (first | refine blk_drewN ?_ _ | refine blk_drew ?_ | refine blk_alloc ?_ _)); refine blk_put (cs := #[.int .i64 x164000_1, .int .i64 x164001_2, .int .i64 (wrap64 (x7_2 + 1)), .int .i64 0, .int .i64 0, .int .i64 0]) ?_ 3 _ rfl; (with_reducible repeat (first | refine blk_drewN ?_ _ | refine blk_drew ?_ | refine blk_alloc ?_ _)); refine blk_put (cs := #[.int .i64 x164000_1, .int .i64 x164001_2, .int .i64 0, .int .i64 0, .int .i64 0, .int .i64 0]) ?_ 2 _ rfl; (with_reducible repeat (first | refine blk_drewN ?_ _ | refine blk_drew ?_ | refine blk_alloc ?_ _)); refine blk_put (cs := #[.int .i64 x164000_1, .int .i64 0, .int .i64 0, .int .i64 0, .int .i64 0, .int .i64 0]) ?_ 1 _ rfl; (with_reducible repeat (first | refine blk_drewN ?_ _ | refine blk_drew ?_ | refine blk_alloc ?_ _)); refine blk_put (cs := #[.int .i64 0, .int .i64 0, .int .i64 0, .int .i64 0, .int .i64 0, .int .i64 0]) ?_ 0 _ rfl; (with_reducible repeat (first | refine blk_drewN ?_ _ | refine blk_drew ?_ | refine blk_alloc ?_ _)); exact BK162.out) Tryd.underlying76 rfl (by kernel_rfl)) rfl ?_
       exact ⟨by first | rfl | (simp [errW_none, errW_some] <;> rfl) | (simp [*, errW_none, errW_some] <;> rfl), by repeat (first | (with_reducible first | exact HB.out | apply below_alloc | apply pw_below_drewN | apply below_drew1 | refine below_set ?_ GE162.out | refine below_set ?_ GE163.out) | exact HB.out)⟩

end Go.Proofs.YtcdbnphhoihldaaDoor.X
/- The library's functions that the printed texts call: strconv.Itoa below 100, strings.IndexByte, by the shelf's contracts. -/
namespace Go.Proofs.YtcdbnphhoihldaaDoor.X
open Go.RowKit Go.Proofs.YtcdbnphhoihldaaDoorW.PrintWords Go.Proofs.YtcdbnphhoihldaaDoorW.PrintLast Go.Proofs.YtcdbnphhoihldaaDoorW.PrintMore

def strconv_Itoa.f (a0 : Int) : Option ByteArray := if 0 ≤ a0 ∧ a0 < 100 then some ⟨(Lib.decDigits a0.toNat).toArray⟩ else none
theorem strconv_Itoa.calls (a0 : Int) (r : ByteArray) (w : World) (h : strconv_Itoa.f a0 = some r) :
    Calls Tryd.prog 22 #[.int .i64 a0] w fun e w' => e = .returned (.string r) ∧ Drawn0 w w' := by
  unfold strconv_Itoa.f at h
  split at h
  · rename_i hc
    obtain ⟨n, rfl⟩ := Int.eq_ofNat_of_zero_le hc.1
    refine (Tryd.strconv_Itoa_small n (by omega) w).mono ?_
    rintro e w' ⟨rfl, rfl⟩
    obtain rfl := Option.some.inj h
    exact ⟨rfl, Drawn0.refl _⟩
  · cases h

def strings_IndexByte.f (a0 : ByteArray) (a1 : Int) : Option Int := some (Lib.indexByte a0.data.toList a1.toNat.toUInt8)
theorem strings_IndexByte.calls (a0 : ByteArray) (a1 : Int) (r : Int) (w : World) (h : strings_IndexByte.f a0 a1 = some r) :
    Calls Tryd.prog 67 #[.string a0, .int .u8 a1] w fun e w' => e = .returned (.int .i64 r) ∧ Drawn0 w w' := by
  refine (Tryd.strings_IndexByte a0 a1 w).mono ?_
  rintro e w' ⟨rfl, rfl⟩
  obtain rfl := Option.some.inj h
  exact ⟨rfl, Drawn0.refl _⟩
end Go.Proofs.YtcdbnphhoihldaaDoor.X
-- printed by a program (xp.py, over the kit's print); Lean checks it
namespace Go.Proofs.YtcdbnphhoihldaaDoor.X
open Go.RowKit Go.Proofs.YtcdbnphhoihldaaDoorW.PrintWords Go.Proofs.YtcdbnphhoihldaaDoorW.PrintLast Go.Proofs.YtcdbnphhoihldaaDoorW.PrintMore
attribute [local go_sem] max2_int min2_int max_two min_two max_three min_three max_four min_four   -- for this text's walks alone
set_option linter.unusedVariables false
set_option linter.unusedSimpArgs false

/-! ### date_two: function 42 -/
def date_two.f (a0 : Int) : Option (ByteArray) := (strconv_Itoa.f (Int.tmod (wrap64 (Int.tdiv a0 10)) 10)).bind fun t169 => ((strconv_Itoa.f (Int.tmod a0 10)).bind fun t170 => (if t169.size + t170.size ≤ 9223372036854775807 then (some (t169 ++ t170)) else (none)))
set_option maxHeartbeats 8000000 in
set_option maxRecDepth 100000 in
theorem date_two.calls (a0 : Int) (r : ByteArray) (w : World) (h : date_two.f a0 = some r) :
    Calls Tryd.prog 42 #[.int .i64 a0] w fun e w' => e = .returned (.string r) ∧ Drawn0 w w' := by
  have H : ((strconv_Itoa.f (Int.tmod (wrap64 (Int.tdiv a0 10)) 10)).bind fun t169 => ((strconv_Itoa.f (Int.tmod a0 10)).bind fun t170 => (if t169.size + t170.size ≤ 9223372036854775807 then (some (t169 ++ t170)) else (none)))) = some r := h
  clear h
  replace H := Option.bind_eq_some_iff.mp H
  obtain ⟨t169, A20, H⟩ := H
  replace H : ((strconv_Itoa.f (Int.tmod a0 10)).bind fun t170 => (if t169.size + t170.size ≤ 9223372036854775807 then (some (t169 ++ t170)) else (none))) = some r := H
  have A2 := Aside0.mk A20
  clear A20
  replace H := Option.bind_eq_some_iff.mp H
  obtain ⟨t170, A30, H⟩ := H
  replace H : (if t169.size + t170.size ≤ 9223372036854775807 then (some (t169 ++ t170)) else (none)) = some r := H
  have A3 := Aside0.mk A30
  clear A30
  by_cases c4 : t169.size + t170.size ≤ 9223372036854775807
  · rw [if_pos c4] at H
    have c4b0 := eq_true c4
    have c4b1 : decide (t169.size + t170.size ≤ 9223372036854775807) = true := decide_eq_true c4
    try have c4b2 : (9223372036854775807 < t169.size + t170.size) = False := eq_false (Nat.not_lt.2 c4)
    obtain rfl := Option.some.inj H
    go_enter Tryd.func42, Tryd.ntmps42
    go_wp2_with (first | ((with_reducible refine gate_callee (f := 22) rfl ?_); refine goesL_ (some 6) rfl rfl Tryd.func22 (by kernel_rfl) rfl #[.int .i64 (Int.tmod (wrap64 (Int.tdiv a0 10)) 10)] rfl (by (try simp only [List.map_toArray, List.map_cons, List.map_nil]); first | done | rfl | (simp only [List.length_drop, List.length_take]; rfl)) ?_; (with_reducible refine (strconv_Itoa.calls (Int.tmod (wrap64 (Int.tdiv a0 10)) 10) t169 _ A2.out).mono ?_); rintro e w' ⟨rfl, ⟨nd, rfl⟩⟩; refine ⟨_, rfl, ?_⟩) | ((with_reducible refine gate_callee (f := 22) rfl ?_); refine goesL_ (some 9) rfl rfl Tryd.func22 (by kernel_rfl) rfl #[.int .i64 (Int.tmod a0 10)] rfl (by (try simp only [List.map_toArray, List.map_cons, List.map_nil]); first | done | rfl | (simp only [List.length_drop, List.length_take]; rfl)) ?_; (with_reducible refine (strconv_Itoa.calls (Int.tmod a0 10) t170 _ A3.out).mono ?_); rintro e w' ⟨rfl, ⟨nd, rfl⟩⟩; refine ⟨_, rfl, ?_⟩))
    go_ret
    exact ⟨by first | rfl | (simp; done) | (simp [*]; done), by repeat (first | exact Drawn0.refl _ | apply Drawn0.step)⟩
  · rw [if_neg c4] at H
    exact absurd H (by simp)

end Go.Proofs.YtcdbnphhoihldaaDoor.X
-- printed by a program (xp.py, over the kit's print); Lean checks it
namespace Go.Proofs.YtcdbnphhoihldaaDoor.X
open Go.RowKit Go.Proofs.YtcdbnphhoihldaaDoorW.PrintWords Go.Proofs.YtcdbnphhoihldaaDoorW.PrintLast Go.Proofs.YtcdbnphhoihldaaDoorW.PrintMore
attribute [local go_sem] max2_int min2_int max_two min_two max_three min_three max_four min_four   -- for this text's walks alone
set_option linter.unusedVariables false
set_option linter.unusedSimpArgs false

/-! ### date_moment_clock: function 43 -/
def date_moment_clock.f (a0_0 : Int) (a0_1 : Int) (a0_2 : Int) (a0_3 : Int) (a0_4 : Int) (a0_5 : Int) : Option (ByteArray) := (date_two.f a0_3).bind fun t172 => (if t172.size + 1 ≤ 9223372036854775807 then ((date_two.f a0_4).bind fun t173 => (if (t172 ++ (⟨#[58]⟩ : ByteArray)).size + t173.size ≤ 9223372036854775807 then (if ((t172 ++ (⟨#[58]⟩ : ByteArray)) ++ t173).size + 1 ≤ 9223372036854775807 then ((date_two.f a0_5).bind fun t174 => (if (((t172 ++ (⟨#[58]⟩ : ByteArray)) ++ t173) ++ (⟨#[58]⟩ : ByteArray)).size + t174.size ≤ 9223372036854775807 then (some ((((t172 ++ (⟨#[58]⟩ : ByteArray)) ++ t173) ++ (⟨#[58]⟩ : ByteArray)) ++ t174)) else (none))) else (none)) else (none))) else (none))
set_option maxHeartbeats 8000000 in
set_option maxRecDepth 100000 in
theorem date_moment_clock.calls (a0_0 : Int) (a0_1 : Int) (a0_2 : Int) (a0_3 : Int) (a0_4 : Int) (a0_5 : Int) (r : ByteArray) (w : World) (h : date_moment_clock.f a0_0 a0_1 a0_2 a0_3 a0_4 a0_5 = some r) :
  Calls Tryd.prog 43 #[.agg #[.int .i64 a0_0, .int .i64 a0_1, .int .i64 a0_2, .int .i64 a0_3, .int .i64 a0_4, .int .i64 a0_5]] w fun e w' => e = .returned (.string r) ∧ Below w.heap.size w w' := by
 have hu76 := Tryd.underlying76
 have HB := Aside0.mk (Below.refl w.heap.size w)
 have H : ((date_two.f a0_3).bind fun t172 => (if t172.size + 1 ≤ 9223372036854775807 then ((date_two.f a0_4).bind fun t173 => (if (t172 ++ (⟨#[58]⟩ : ByteArray)).size + t173.size ≤ 9223372036854775807 then (if ((t172 ++ (⟨#[58]⟩ : ByteArray)) ++ t173).size + 1 ≤ 9223372036854775807 then ((date_two.f a0_5).bind fun t174 => (if (((t172 ++ (⟨#[58]⟩ : ByteArray)) ++ t173) ++ (⟨#[58]⟩ : ByteArray)).size + t174.size ≤ 9223372036854775807 then (some ((((t172 ++ (⟨#[58]⟩ : ByteArray)) ++ t173) ++ (⟨#[58]⟩ : ByteArray)) ++ t174)) else (none))) else (none)) else (none))) else (none))) = some r := h
 clear h
 replace H := Option.bind_eq_some_iff.mp H
 obtain ⟨t172, A20, H⟩ := H
 replace H : (if t172.size + 1 ≤ 9223372036854775807 then ((date_two.f a0_4).bind fun t173 => (if (t172 ++ (⟨#[58]⟩ : ByteArray)).size + t173.size ≤ 9223372036854775807 then (if ((t172 ++ (⟨#[58]⟩ : ByteArray)) ++ t173).size + 1 ≤ 9223372036854775807 then ((date_two.f a0_5).bind fun t174 => (if (((t172 ++ (⟨#[58]⟩ : ByteArray)) ++ t173) ++ (⟨#[58]⟩ : ByteArray)).size + t174.size ≤ 9223372036854775807 then (some ((((t172 ++ (⟨#[58]⟩ : ByteArray)) ++ t173) ++ (⟨#[58]⟩ : ByteArray)) ++ t174)) else (none))) else (none)) else (none))) else (none)) = some r := H
 have A2 := Aside0.mk A20
 clear A20
 by_cases c3 : t172.size + 1 ≤ 9223372036854775807
 ·
  rw [if_pos c3] at H
  have c3b0 := eq_true c3
  have c3b1 : decide (t172.size + 1 ≤ 9223372036854775807) = true := decide_eq_true c3
  try have c3b2 : (9223372036854775807 < t172.size + 1) = False := eq_false (Nat.not_lt.2 c3)
  replace H := Option.bind_eq_some_iff.mp H
  obtain ⟨t173, A40, H⟩ := H
  replace H : (if (t172 ++ (⟨#[58]⟩ : ByteArray)).size + t173.size ≤ 9223372036854775807 then (if ((t172 ++ (⟨#[58]⟩ : ByteArray)) ++ t173).size + 1 ≤ 9223372036854775807 then ((date_two.f a0_5).bind fun t174 => (if (((t172 ++ (⟨#[58]⟩ : ByteArray)) ++ t173) ++ (⟨#[58]⟩ : ByteArray)).size + t174.size ≤ 9223372036854775807 then (some ((((t172 ++ (⟨#[58]⟩ : ByteArray)) ++ t173) ++ (⟨#[58]⟩ : ByteArray)) ++ t174)) else (none))) else (none)) else (none)) = some r := H
  have A4 := Aside0.mk A40
  clear A40
  by_cases c5 : (t172 ++ (⟨#[58]⟩ : ByteArray)).size + t173.size ≤ 9223372036854775807
  ·
   rw [if_pos c5] at H
   have c5b0 := eq_true c5
   have c5b1 : decide ((t172 ++ (⟨#[58]⟩ : ByteArray)).size + t173.size ≤ 9223372036854775807) = true := decide_eq_true c5
   try have c5b2 : (9223372036854775807 < (t172 ++ (⟨#[58]⟩ : ByteArray)).size + t173.size) = False := eq_false (Nat.not_lt.2 c5)
   try (have c5b3 := c5b2; simp only [ByteArray.size_append, ba_size, List.length_cons, List.length_nil, Nat.zero_add, Nat.reduceAdd] at c5b3)
   by_cases c6 : ((t172 ++ (⟨#[58]⟩ : ByteArray)) ++ t173).size + 1 ≤ 9223372036854775807
   ·
    rw [if_pos c6] at H
    have c6b0 := eq_true c6
    have c6b1 : decide (((t172 ++ (⟨#[58]⟩ : ByteArray)) ++ t173).size + 1 ≤ 9223372036854775807) = true := decide_eq_true c6
    try have c6b2 : (9223372036854775807 < ((t172 ++ (⟨#[58]⟩ : ByteArray)) ++ t173).size + 1) = False := eq_false (Nat.not_lt.2 c6)
    try (have c6b3 := c6b2; simp only [ByteArray.size_append, ba_size, List.length_cons, List.length_nil, Nat.zero_add, Nat.reduceAdd] at c6b3)
    replace H := Option.bind_eq_some_iff.mp H
    obtain ⟨t174, A70, H⟩ := H
    replace H : (if (((t172 ++ (⟨#[58]⟩ : ByteArray)) ++ t173) ++ (⟨#[58]⟩ : ByteArray)).size + t174.size ≤ 9223372036854775807 then (some ((((t172 ++ (⟨#[58]⟩ : ByteArray)) ++ t173) ++ (⟨#[58]⟩ : ByteArray)) ++ t174)) else (none)) = some r := H
    have A7 := Aside0.mk A70
    clear A70
    by_cases c8 : (((t172 ++ (⟨#[58]⟩ : ByteArray)) ++ t173) ++ (⟨#[58]⟩ : ByteArray)).size + t174.size ≤ 9223372036854775807
    ·
     rw [if_pos c8] at H
     have c8b0 := eq_true c8
     have c8b1 : decide ((((t172 ++ (⟨#[58]⟩ : ByteArray)) ++ t173) ++ (⟨#[58]⟩ : ByteArray)).size + t174.size ≤ 9223372036854775807) = true := decide_eq_true c8
     try have c8b2 : (9223372036854775807 < (((t172 ++ (⟨#[58]⟩ : ByteArray)) ++ t173) ++ (⟨#[58]⟩ : ByteArray)).size + t174.size) = False := eq_false (Nat.not_lt.2 c8)
     try (have c8b3 := c8b2; simp only [ByteArray.size_append, ba_size, List.length_cons, List.length_nil, Nat.zero_add, Nat.reduceAdd] at c8b3)
     obtain rfl := Option.some.inj H
     go_enter Tryd.func43, Tryd.ntmps43
     go_wp2_with (first | ((with_reducible refine gate_dst (N := 1) rfl ?_); refine box_event ?hg (N := 1) ?hd (cs := #[.int .i64 a0_0, .int .i64 a0_1, .int .i64 a0_2, .int .i64 a0_3, .int .i64 a0_4, .int .i64 a0_5]) (t := 76) ?hr ?_; (case hd => rfl); (case hg => rfl); (case hr => first | (go_simp; done) | (go_simp; rfl)); intro gb171 hg w9 hbox hb; have n0_ := Aside0.mk (below_step (by repeat (first | (with_reducible first | exact HB.out | apply below_alloc | apply pw_below_drewN | apply below_drew1) | exact HB.out)) hb); have n1_ := Aside0.mk (hbox); have n2_ := Aside0.mk ((by rw [hg]; exact (below_size (by repeat (first | (with_reducible first | exact HB.out | apply below_alloc | apply pw_below_drewN | apply below_drew1) | exact HB.out))) : w.heap.size ≤ gb171)); have n3_ := Aside0.mk ((by rw [hg]; exact (below_size (by repeat (first | (with_reducible first | exact HB.out | apply below_alloc | apply pw_below_drewN | apply below_drew1) | exact HB.out))) : w.heap.size ≤ gb171)); clear HB; have HB := n0_; have BK171 := n1_; have GW171 := n2_; have GE171 := n3_; clear n0_ n1_ n2_ n3_; clear hb hbox hg; have hcz10_0 : w9.cell? ⟨gb171, 0, none⟩ = some (.int .i64 a0_0) := (blk_cell BK171.out 0).trans rfl; have hcz10_1 : w9.cell? ⟨gb171, 1, none⟩ = some (.int .i64 a0_1) := (blk_cell BK171.out 1).trans rfl; have hcz10_2 : w9.cell? ⟨gb171, 2, none⟩ = some (.int .i64 a0_2) := (blk_cell BK171.out 2).trans rfl; have hcz10_3 : w9.cell? ⟨gb171, 3, none⟩ = some (.int .i64 a0_3) := (blk_cell BK171.out 3).trans rfl; have hcz10_4 : w9.cell? ⟨gb171, 4, none⟩ = some (.int .i64 a0_4) := (blk_cell BK171.out 4).trans rfl; have hcz10_5 : w9.cell? ⟨gb171, 5, none⟩ = some (.int .i64 a0_5) := (blk_cell BK171.out 5).trans rfl; have hfz10_0 := blk_frozen BK171.out 0; have hfz10_1 := blk_frozen BK171.out 1; have hfz10_2 := blk_frozen BK171.out 2; have hfz10_3 := blk_frozen BK171.out 3; have hfz10_4 := blk_frozen BK171.out 4; have hfz10_5 := blk_frozen BK171.out 5) | (go_at_call 42; (with_reducible refine (date_two.calls a0_3 t172 _ A2.out).mono ?_); rintro e w' ⟨rfl, ⟨nd, rfl⟩⟩; (try first | exact ⟨rfl, _, World.drewN_drewN _ _ _⟩ | exact ⟨rfl, _, Eq.trans (World.drewN_drewN _ _ _) (congrArg (World.drewN _) (Nat.add_assoc _ _ _))⟩)) | (go_at_call 42; (with_reducible refine (date_two.calls a0_4 t173 _ A4.out).mono ?_); rintro e w' ⟨rfl, ⟨nd, rfl⟩⟩; (try first | exact ⟨rfl, _, World.drewN_drewN _ _ _⟩ | exact ⟨rfl, _, Eq.trans (World.drewN_drewN _ _ _) (congrArg (World.drewN _) (Nat.add_assoc _ _ _))⟩)) | (go_at_call 42; (with_reducible refine (date_two.calls a0_5 t174 _ A7.out).mono ?_); rintro e w' ⟨rfl, ⟨nd, rfl⟩⟩; (try first | exact ⟨rfl, _, World.drewN_drewN _ _ _⟩ | exact ⟨rfl, _, Eq.trans (World.drewN_drewN _ _ _) (congrArg (World.drewN _) (Nat.add_assoc _ _ _))⟩)))
     repeat (go_quiet (first | ((with_reducible refine gate_dst (N := 1) rfl ?_); refine box_event ?hg (N := 1) ?hd (cs := #[.int .i64 a0_0, .int .i64 a0_1, .int .i64 a0_2, .int .i64 a0_3, .int .i64 a0_4, .int .i64 a0_5]) (t := 76) ?hr ?_; (case hd => rfl); (case hg => rfl); (case hr => first | (go_simp; done) | (go_simp; rfl)); intro gb171 hg w9 hbox hb; have n0_ := Aside0.mk (below_step (by repeat (first | (with_reducible first | exact HB.out | apply below_alloc | apply pw_below_drewN | apply below_drew1) | exact HB.out)) hb); have n1_ := Aside0.mk (hbox); have n2_ := Aside0.mk ((by rw [hg]; exact (below_size (by repeat (first | (with_reducible first | exact HB.out | apply below_alloc | apply pw_below_drewN | apply below_drew1) | exact HB.out))) : w.heap.size ≤ gb171)); have n3_ := Aside0.mk ((by rw [hg]; exact (below_size (by repeat (first | (with_reducible first | exact HB.out | apply below_alloc | apply pw_below_drewN | apply below_drew1) | exact HB.out))) : w.heap.size ≤ gb171)); clear HB; have HB := n0_; have BK171 := n1_; have GW171 := n2_; have GE171 := n3_; clear n0_ n1_ n2_ n3_; clear hb hbox hg; have hcz10_0 : w9.cell? ⟨gb171, 0, none⟩ = some (.int .i64 a0_0) := (blk_cell BK171.out 0).trans rfl; have hcz10_1 : w9.cell? ⟨gb171, 1, none⟩ = some (.int .i64 a0_1) := (blk_cell BK171.out 1).trans rfl; have hcz10_2 : w9.cell? ⟨gb171, 2, none⟩ = some (.int .i64 a0_2) := (blk_cell BK171.out 2).trans rfl; have hcz10_3 : w9.cell? ⟨gb171, 3, none⟩ = some (.int .i64 a0_3) := (blk_cell BK171.out 3).trans rfl; have hcz10_4 : w9.cell? ⟨gb171, 4, none⟩ = some (.int .i64 a0_4) := (blk_cell BK171.out 4).trans rfl; have hcz10_5 : w9.cell? ⟨gb171, 5, none⟩ = some (.int .i64 a0_5) := (blk_cell BK171.out 5).trans rfl; have hfz10_0 := blk_frozen BK171.out 0; have hfz10_1 := blk_frozen BK171.out 1; have hfz10_2 := blk_frozen BK171.out 2; have hfz10_3 := blk_frozen BK171.out 3; have hfz10_4 := blk_frozen BK171.out 4; have hfz10_5 := blk_frozen BK171.out 5) | (go_at_call 42; (with_reducible refine (date_two.calls a0_3 t172 _ A2.out).mono ?_); rintro e w' ⟨rfl, ⟨nd, rfl⟩⟩; (try first | exact ⟨rfl, _, World.drewN_drewN _ _ _⟩ | exact ⟨rfl, _, Eq.trans (World.drewN_drewN _ _ _) (congrArg (World.drewN _) (Nat.add_assoc _ _ _))⟩)) | (go_at_call 42; (with_reducible refine (date_two.calls a0_4 t173 _ A4.out).mono ?_); rintro e w' ⟨rfl, ⟨nd, rfl⟩⟩; (try first | exact ⟨rfl, _, World.drewN_drewN _ _ _⟩ | exact ⟨rfl, _, Eq.trans (World.drewN_drewN _ _ _) (congrArg (World.drewN _) (Nat.add_assoc _ _ _))⟩)) | (go_at_call 42; (with_reducible refine (date_two.calls a0_5 t174 _ A7.out).mono ?_); rintro e w' ⟨rfl, ⟨nd, rfl⟩⟩; (try first | exact ⟨rfl, _, World.drewN_drewN _ _ _⟩ | exact ⟨rfl, _, Eq.trans (World.drewN_drewN _ _ _) (congrArg (World.drewN _) (Nat.add_assoc _ _ _))⟩))); try go_wp2_with (first | ((with_reducible refine gate_dst (N := 1) rfl ?_); refine box_event ?hg (N := 1) ?hd (cs := #[.int .i64 a0_0, .int .i64 a0_1, .int .i64 a0_2, .int .i64 a0_3, .int .i64 a0_4, .int .i64 a0_5]) (t := 76) ?hr ?_; (case hd => rfl); (case hg => rfl); (case hr => first | (go_simp; done) | (go_simp; rfl)); intro gb171 hg w9 hbox hb; have n0_ := Aside0.mk (below_step (by repeat (first | (with_reducible first | exact HB.out | apply below_alloc | apply pw_below_drewN | apply below_drew1) | exact HB.out)) hb); have n1_ := Aside0.mk (hbox); have n2_ := Aside0.mk ((by rw [hg]; exact (below_size (by repeat (first | (with_reducible first | exact HB.out | apply below_alloc | apply pw_below_drewN | apply below_drew1) | exact HB.out))) : w.heap.size ≤ gb171)); have n3_ := Aside0.mk ((by rw [hg]; exact (below_size (by repeat (first | (with_reducible first | exact HB.out | apply below_alloc | apply pw_below_drewN | apply below_drew1) | exact HB.out))) : w.heap.size ≤ gb171)); clear HB; have HB := n0_; have BK171 := n1_; have GW171 := n2_; have GE171 := n3_; clear n0_ n1_ n2_ n3_; clear hb hbox hg; have hcz10_0 : w9.cell? ⟨gb171, 0, none⟩ = some (.int .i64 a0_0) := (blk_cell BK171.out 0).trans rfl; have hcz10_1 : w9.cell? ⟨gb171, 1, none⟩ = some (.int .i64 a0_1) := (blk_cell BK171.out 1).trans rfl; have hcz10_2 : w9.cell? ⟨gb171, 2, none⟩ = some (.int .i64 a0_2) := (blk_cell BK171.out 2).trans rfl; have hcz10_3 : w9.cell? ⟨gb171, 3, none⟩ = some (.int .i64 a0_3) := (blk_cell BK171.out 3).trans rfl; have hcz10_4 : w9.cell? ⟨gb171, 4, none⟩ = some (.int .i64 a0_4) := (blk_cell BK171.out 4).trans rfl; have hcz10_5 : w9.cell? ⟨gb171, 5, none⟩ = some (.int .i64 a0_5) := (blk_cell BK171.out 5).trans rfl; have hfz10_0 := blk_frozen BK171.out 0; have hfz10_1 := blk_frozen BK171.out 1; have hfz10_2 := blk_frozen BK171.out 2; have hfz10_3 := blk_frozen BK171.out 3; have hfz10_4 := blk_frozen BK171.out 4; have hfz10_5 := blk_frozen BK171.out 5) | (go_at_call 42; (with_reducible refine (date_two.calls a0_3 t172 _ A2.out).mono ?_); rintro e w' ⟨rfl, ⟨nd, rfl⟩⟩; (try first | exact ⟨rfl, _, World.drewN_drewN _ _ _⟩ | exact ⟨rfl, _, Eq.trans (World.drewN_drewN _ _ _) (congrArg (World.drewN _) (Nat.add_assoc _ _ _))⟩)) | (go_at_call 42; (with_reducible refine (date_two.calls a0_4 t173 _ A4.out).mono ?_); rintro e w' ⟨rfl, ⟨nd, rfl⟩⟩; (try first | exact ⟨rfl, _, World.drewN_drewN _ _ _⟩ | exact ⟨rfl, _, Eq.trans (World.drewN_drewN _ _ _) (congrArg (World.drewN _) (Nat.add_assoc _ _ _))⟩)) | (go_at_call 42; (with_reducible refine (date_two.calls a0_5 t174 _ A7.out).mono ?_); rintro e w' ⟨rfl, ⟨nd, rfl⟩⟩; (try first | exact ⟨rfl, _, World.drewN_drewN _ _ _⟩ | exact ⟨rfl, _, Eq.trans (World.drewN_drewN _ _ _) (congrArg (World.drewN _) (Nat.add_assoc _ _ _))⟩))))
     go_ret
     exact ⟨by first | rfl | (simp [errW_none, errW_some] <;> rfl) | (simp [*, errW_none, errW_some] <;> rfl), by repeat (first | (with_reducible first | exact HB.out | apply below_alloc | apply pw_below_drewN | apply below_drew1 | refine below_set ?_ GE171.out) | exact HB.out)⟩
    ·
     rw [if_neg c8] at H
     exact absurd H (by simp)
   ·
    rw [if_neg c6] at H
    exact absurd H (by simp)
  ·
   rw [if_neg c5] at H
   exact absurd H (by simp)
 ·
  rw [if_neg c3] at H
  exact absurd H (by simp)

end Go.Proofs.YtcdbnphhoihldaaDoor.X
/- The dates' functions that the printer does not take: told, short, Text, late, plain, month; strconv.Itoa below 100, strings.IndexByte. The laid table: strings.asciiSpace. -/
namespace Go.Proofs.YtcdbnphhoihldaaDoor.X
open Go.RowKit Go.Proofs.YtcdbnphhoihldaaDoorW.PrintWords Go.Proofs.YtcdbnphhoihldaaDoorW.PrintLast Go.Proofs.YtcdbnphhoihldaaDoorW.PrintMore
attribute [local go_sem] max2_int min2_int max_two min_two max_three min_three max_four min_four
set_option linter.unusedVariables false
set_option linter.unusedSimpArgs false

/-- What the laid variables hold. -/
def GL (w : World) : Prop := Lib.TabIs Tryd.prog w "strings.asciiSpace" .u8 Lib.asciiSpaceTab ∧ Lib.TabIs Tryd.prog w "internal/strconv.uint64pow10" .u64 Lib.pow10Tab ∧ ∃ m, w.cell? ⟨1, 0, none⟩ = some (.int .i64 m)
theorem GL.sp {w : World} (h : GL w) : Lib.TabIs Tryd.prog w "strings.asciiSpace" .u8 Lib.asciiSpaceTab := h.1
theorem GL.p10 {w : World} (h : GL w) : Lib.TabIs Tryd.prog w "internal/strconv.uint64pow10" .u64 Lib.pow10Tab := h.2.1
theorem GL.most {w : World} (h : GL w) : ∃ m, w.cell? ⟨1, 0, none⟩ = some (.int .i64 m) := h.2.2

def bytes (l : List UInt8) : ByteArray := ⟨l.toArray⟩
def longDays : List ByteArray := [bytes [83, 117, 110, 100, 97, 121], bytes [77, 111, 110, 100, 97, 121], bytes [84, 117, 101, 115, 100, 97, 121], bytes [87, 101, 100, 110, 101, 115, 100, 97, 121], bytes [84, 104, 117, 114, 115, 100, 97, 121], bytes [70, 114, 105, 100, 97, 121], bytes [83, 97, 116, 117, 114, 100, 97, 121]]
def shortMonths : List ByteArray := [bytes [74, 97, 110], bytes [70, 101, 98], bytes [77, 97, 114], bytes [65, 112, 114], bytes [77, 97, 121], bytes [74, 117, 110], bytes [74, 117, 108], bytes [65, 117, 103], bytes [83, 101, 112], bytes [79, 99, 116], bytes [78, 111, 118], bytes [68, 101, 99]]
/-- The blocks that 'told' makes. -/
def daysObj : Obj := .cells (longDays.map Value.string).toArray 9
def monthsObj : Obj := .cells (shortMonths.map Value.string).toArray 9
def namesObj (n : Nat) : Obj := .cells #[.slice (some ⟨n, 0, none⟩) 7 7, .slice (some ⟨n + 1, 0, none⟩) 12 12] 82
def toldWorld (w : World) : World := ((w.alloc daysObj).alloc monthsObj).alloc (namesObj w.heap.size)

def daysText : List UInt8 := [83, 117, 110, 100, 97, 121, 32, 77, 111, 110, 100, 97, 121, 32, 84, 117, 101, 115, 100, 97, 121, 32, 87, 101, 100, 110, 101, 115, 100, 97, 121, 32, 84, 104, 117, 114, 115, 100, 97, 121, 32, 70, 114, 105, 100, 97, 121, 32, 83, 97, 116, 117, 114, 100, 97, 121]
def monthsText : List UInt8 := [74, 97, 110, 32, 70, 101, 98, 32, 77, 97, 114, 32, 65, 112, 114, 32, 77, 97, 121, 32, 74, 117, 110, 32, 74, 117, 108, 32, 65, 117, 103, 32, 83, 101, 112, 32, 79, 99, 116, 32, 78, 111, 118, 32, 68, 101, 99]
theorem fields_days (w : World) (hG : GL w) : Calls Tryd.prog 64 #[.string ⟨daysText.toArray⟩] w fun e w' => e = .returned (.slice (some ⟨w.heap.size, 0, none⟩) 7 7) ∧ w.alloc daysObj = w' := by
 refine (Tryd.strings_Fields ⟨daysText.toArray⟩ w (by decide) ?_ hG.sp).mono ?_
 ·
  have h : ∀ b ∈ daysText, b.toNat < 128 := by decide
  intro j b hb
  exact h b (List.mem_of_getElem? hb)
 ·
  rintro e w' ⟨rfl, rfl⟩
  exact ⟨rfl, rfl⟩
theorem fields_months (w : World) (hG : GL w) : Calls Tryd.prog 64 #[.string ⟨monthsText.toArray⟩] w fun e w' => e = .returned (.slice (some ⟨w.heap.size, 0, none⟩) 12 12) ∧ w.alloc monthsObj = w' := by
 refine (Tryd.strings_Fields ⟨monthsText.toArray⟩ w (by decide) ?_ hG.sp).mono ?_
 ·
  have h : ∀ b ∈ monthsText, b.toNat < 128 := by decide
  intro j b hb
  exact h b (List.mem_of_getElem? hb)
 ·
  rintro e w' ⟨rfl, rfl⟩
  exact ⟨rfl, rfl⟩
theorem GL.below {w w' : World} (h : GL w) (hb : Below w.heap.size w w') : GL w' := ⟨Lib.tabBelow_of_tabIs h.sp w' hb, Lib.tabBelow_of_tabIs h.p10 w' hb, h.most.imp fun m hm => pw_cell_below hb hm⟩
theorem GL.alloc {w : World} (h : GL w) (o : Obj) : GL (w.alloc o) := h.below ((Below.refl _ _).alloc (Nat.le_refl _) _)
set_option maxHeartbeats 1000000 in
theorem told_any (w : World) (hG : GL w) : Calls Tryd.prog 40 #[] w fun e w' => e = .returned (.pointer (some ⟨w.heap.size + 1 + 1, 0, none⟩)) ∧ toldWorld w = w' := by
 have HG := Lib.hid hG
 clear hG
 have c1 := Lib.hid (fields_days w HG.out)
 have c2 := Lib.hid (fields_months (w.alloc daysObj) (HG.out.alloc _))
 go_enter Tryd.func40, Tryd.ntmps40
 go_wp2_with fail
 refine c1.out.mono ?_
 rintro e w' ⟨rfl, rfl⟩
 go_wp2_with fail
 refine c2.out.mono ?_
 rintro e w' ⟨rfl, rfl⟩
 go_wp2_with fail
 go_ret
 exact ⟨rfl, rfl⟩
theorem short_any (g b : Nat) (d : Int) (s : ByteArray) (w : World) (h0 : 0 ≤ d) (h7 : d < 7) (hc : w.cell? ⟨g, 0, none⟩ = some (.slice (some ⟨b, 0, none⟩) 7 7)) (he : w.cell? ⟨b, d.toNat, none⟩ = some (.string s)) (hs : 3 ≤ s.size) :
  Calls Tryd.prog 41 #[.pointer (some ⟨g, 0, none⟩), .int .i64 d] w fun e w' => e = .returned (.string (s.extract 0 3)) ∧ w' = w := by
 go_enter Tryd.func41, Tryd.ntmps41
 go_wp2
 go_ret
 exact ⟨rfl, rfl⟩

def longDay (d : Int) : ByteArray := longDays.getD d.toNat ByteArray.empty
def shortMonth (m : Int) : ByteArray := shortMonths.getD m.toNat ByteArray.empty
theorem longDay_size {d : Int} (h0 : 0 ≤ d) (h7 : d < 7) : 3 ≤ (longDay d).size := by
 obtain ⟨n, rfl⟩ := Int.eq_ofNat_of_zero_le h0
 match n, h7 with
 | 0, _ | 1, _ | 2, _ | 3, _ | 4, _ | 5, _ | 6, _ => decide
 | n + 7, h => omega
theorem longDay_most {d : Int} (h0 : 0 ≤ d) (h7 : d < 7) : (longDay d).size ≤ 9 := by
 obtain ⟨n, rfl⟩ := Int.eq_ofNat_of_zero_le h0
 match n, h7 with
 | 0, _ | 1, _ | 2, _ | 3, _ | 4, _ | 5, _ | 6, _ => decide
 | n + 7, h => omega
theorem shortMonth_size {m : Int} (h0 : 0 ≤ m) (h12 : m < 12) : (shortMonth m).size = 3 := by
 obtain ⟨n, rfl⟩ := Int.eq_ofNat_of_zero_le h0
 match n, h12 with
 | 0, _ | 1, _ | 2, _ | 3, _ | 4, _ | 5, _ | 6, _ | 7, _ | 8, _ | 9, _ | 10, _ | 11, _ => rfl
 | n + 12, h => omega
theorem itoa_size {a : Int} {r : ByteArray} (ha : a < 10) (h : strconv_Itoa.f a = some r) : r.size = 1 := by
 unfold strconv_Itoa.f at h
 split at h
 ·
  rename_i hc
  obtain rfl := Option.some.inj h
  show (Lib.decDigits a.toNat).length = 1
  unfold Lib.decDigits
  rw [dif_pos (by omega)]
  rfl
 ·
  cases h
theorem tmod10 (a : Int) : Int.tmod a 10 < 10 := Int.tmod_lt_of_pos a (by decide)
theorem two_size {a : Int} {r : ByteArray} (h : date_two.f a = some r) : r.size = 2 := by
 unfold date_two.f at h
 obtain ⟨x, hx, h⟩ := Option.bind_eq_some_iff.mp h
 obtain ⟨y, hy, h⟩ := Option.bind_eq_some_iff.mp h
 split at h
 ·
  obtain rfl := Option.some.inj h
  rw [ByteArray.size_append, itoa_size (tmod10 _) hx, itoa_size (tmod10 _) hy]
 ·
  cases h
theorem clock_size {a b c d e f : Int} {r : ByteArray} (h : date_moment_clock.f a b c d e f = some r) : r.size = 8 := by
 unfold date_moment_clock.f at h
 obtain ⟨x, hx, h⟩ := Option.bind_eq_some_iff.mp h
 split at h
 case isFalse => cases h
 obtain ⟨y, hy, h⟩ := Option.bind_eq_some_iff.mp h
 split at h
 case isFalse => cases h
 split at h
 case isFalse => cases h
 obtain ⟨z, hz, h⟩ := Option.bind_eq_some_iff.mp h
 split at h
 case isFalse => cases h
 obtain rfl := Option.some.inj h
 simp only [ByteArray.size_append, ba_size, two_size hx, two_size hy, two_size hz, List.length_cons, List.length_nil]

/-- A time's first form, out of its parts. -/
def text1 (y mo d h mi s wd : Int) : Option ByteArray :=
 if 0 ≤ wd ∧ wd < 7 ∧ 0 ≤ mo ∧ mo < 12 then
  (date_two.f d).bind fun a => (date_two.f (wrap64 (Int.tdiv y 100))).bind fun b => (date_two.f y).bind fun c => (date_moment_clock.f y mo d h mi s).bind fun e =>
   some ((longDay wd).extract 0 3 ++ bytes [44, 32] ++ a ++ bytes [32] ++ shortMonth mo ++ bytes [32] ++ b ++ c ++ bytes [32] ++ e ++ bytes [32, 71, 77, 84])
 else none
def date_Text.f (k : Nat) (a0 : Int) : Option ByteArray := (date_of.f k (mn (mx a0 0) 253402300799)).bind fun t => text1 t.1 t.2.1 t.2.2.1 t.2.2.2.1 t.2.2.2.2.1 t.2.2.2.2.2.1 t.2.2.2.2.2.2
theorem date_Text.mono : ∀ a0 k, LeO (date_Text.f k a0) (date_Text.f (k + 1) a0) := fun a0 k => LeO.bind (date_of.mono _ _) (fun _ => LeO.refl _)

theorem told_days (W : World) {d : Int} (h0 : 0 ≤ d) (h7 : d < 7) : (toldWorld W).cell? ⟨W.heap.size, d.toNat, none⟩ = some (.string (longDay d)) := by
 unfold toldWorld
 rw [World.cell?_alloc_old _ _ _ (by simp; omega), World.cell?_alloc_old _ _ _ (by simp)]
 unfold daysObj
 rw [World.cell?_alloc_new]
 obtain ⟨n, rfl⟩ := Int.eq_ofNat_of_zero_le h0
 match n, h7 with
 | 0, _ | 1, _ | 2, _ | 3, _ | 4, _ | 5, _ | 6, _ => rfl
 | n + 7, h => omega
theorem told_months (W : World) {d : Int} (h0 : 0 ≤ d) (h7 : d < 12) : (toldWorld W).cell? ⟨W.heap.size + 1, d.toNat, none⟩ = some (.string (shortMonth d)) := by
 unfold toldWorld
 rw [World.cell?_alloc_old _ _ _ (by simp)]
 unfold monthsObj
 have e : W.heap.size + 1 = (W.alloc daysObj).heap.size := by simp
 rw [e, World.cell?_alloc_new]
 obtain ⟨n, rfl⟩ := Int.eq_ofNat_of_zero_le h0
 match n, h7 with
 | 0, _ | 1, _ | 2, _ | 3, _ | 4, _ | 5, _ | 6, _ | 7, _ | 8, _ | 9, _ | 10, _ | 11, _ => rfl
 | n + 12, h => omega
theorem told_names (W : World) : (toldWorld W).cell? ⟨W.heap.size + 1 + 1, 0, none⟩ = some (.slice (some ⟨W.heap.size, 0, none⟩) 7 7) ∧ (toldWorld W).cell? ⟨W.heap.size + 1 + 1, 1, none⟩ = some (.slice (some ⟨W.heap.size + 1, 0, none⟩) 12 12) := by
 unfold toldWorld namesObj
 have e : W.heap.size + 1 + 1 = ((W.alloc daysObj).alloc monthsObj).heap.size := by simp
 rw [e, World.cell?_alloc_new, World.cell?_alloc_new]
 exact ⟨rfl, rfl⟩
theorem told_below (W : World) : Below W.heap.size W (toldWorld W) := (((Below.refl _ _).alloc (Nat.le_refl _) _).alloc (by simp) _).alloc (by simp; omega) _
theorem below_then {w w1 w2 : World} (h : Below w.heap.size w w1) (k : Below w1.heap.size w1 w2) : Below w.heap.size w w2 :=
 h.trans ⟨k.os, k.tape, k.output, k.size, fun i hi => k.block i (Nat.lt_of_lt_of_le hi h.size)⟩

set_option maxHeartbeats 1000000 in
set_option maxRecDepth 100000 in
theorem date_Text.calls (k : Nat) (a0 : Int) (r : ByteArray) (w : World) (hG : GL w) (h : date_Text.f k a0 = some r) :
  Calls Tryd.prog 20 #[.int .i64 a0] w fun e w' => e = .returned (.string r) ∧ Below w.heap.size w w' := by
 obtain ⟨⟨y, mo, d, ho, mi, s, wd⟩, ht, h⟩ := Option.bind_eq_some_iff.mp h
 simp only [text1] at h
 split at h
 case isFalse => cases h
 rename_i hc
 obtain ⟨hw0, hw7, hm0, hm12⟩ := hc
 obtain ⟨a, ha, h⟩ := Option.bind_eq_some_iff.mp h
 obtain ⟨b, hb, h⟩ := Option.bind_eq_some_iff.mp h
 obtain ⟨c, hc, h⟩ := Option.bind_eq_some_iff.mp h
 obtain ⟨cl, hcl, h⟩ := Option.bind_eq_some_iff.mp h
 have Hr := Lib.hid (Option.some.inj h)
 clear h
 have HG := Lib.hid hG
 clear hG
 have Cof := Lib.hid (fun W => date_of.calls k _ y mo d ho mi s wd W ht)
 clear ht
 have C1 := Lib.hid (fun W => date_two.calls d a W ha)
 have C2 := Lib.hid (fun W => date_two.calls _ b W hb)
 have C3 := Lib.hid (fun W => date_two.calls y c W hc)
 have C4 := Lib.hid (fun W => date_moment_clock.calls y mo d ho mi s cl W hcl)
 have sa := two_size ha
 have sb := two_size hb
 have sc := two_size hc
 have scl := clock_size hcl
 clear ha hb hc hcl
 have sd := longDay_size hw0 hw7
 have sm := shortMonth_size hm0 hm12
 obtain ⟨m1, hm1⟩ : ∃ m : Int, mx a0 0 = m := ⟨_, rfl⟩
 rw [hm1] at Cof
 have hm1_ : (if a0 < 0 then 0 else a0) = m1 := hm1
 clear hm1
 obtain ⟨m2, hm2⟩ : ∃ m : Int, mn m1 253402300799 = m := ⟨_, rfl⟩
 rw [hm2] at Cof
 have hm2_ : (if 253402300799 < m1 then 253402300799 else m1) = m2 := hm2
 clear hm2
 go_enter Tryd.func20, Tryd.ntmps20
 go_wp2_with fail
 with_reducible refine (Cof.out _).mono ?_
 rintro e w1 ⟨rfl, hb1⟩
 have HB := Lib.hid hb1
 have HG1 := Lib.hid (GL.alloc (HG.out.below hb1) (.cells #[.int .i64 y, .int .i64 mo, .int .i64 d, .int .i64 ho, .int .i64 mi, .int .i64 s] 76))
 clear hb1
 go_wp2_with fail
 refine (told_any _ HG1.out).mono ?_
 rintro e w2 ⟨rfl, hw2⟩
 have hd := told_days (w1.alloc (.cells #[.int .i64 y, .int .i64 mo, .int .i64 d, .int .i64 ho, .int .i64 mi, .int .i64 s] 76)) hw0 hw7
 have hmn := told_months (w1.alloc (.cells #[.int .i64 y, .int .i64 mo, .int .i64 d, .int .i64 ho, .int .i64 mi, .int .i64 s] 76)) hm0 hm12
 obtain ⟨hn0, hn1⟩ := told_names (w1.alloc (.cells #[.int .i64 y, .int .i64 mo, .int .i64 d, .int .i64 ho, .int .i64 mi, .int .i64 s] 76))
 have htb := told_below (w1.alloc (.cells #[.int .i64 y, .int .i64 mo, .int .i64 d, .int .i64 ho, .int .i64 mi, .int .i64 s] 76))
 rw [hw2] at hd hmn hn0 hn1 htb
 simp only [World.size_alloc] at hd hmn hn0 hn1
 have q0 : w2.cell? ⟨w1.heap.size, 0, none⟩ = some (.int .i64 y) := (htb.cell (by simp)).trans (World.cell?_alloc_new ..)
 have q1 : w2.cell? ⟨w1.heap.size, 1, none⟩ = some (.int .i64 mo) := (htb.cell (by simp)).trans (World.cell?_alloc_new ..)
 have q2 : w2.cell? ⟨w1.heap.size, 2, none⟩ = some (.int .i64 d) := (htb.cell (by simp)).trans (World.cell?_alloc_new ..)
 have q3 : w2.cell? ⟨w1.heap.size, 3, none⟩ = some (.int .i64 ho) := (htb.cell (by simp)).trans (World.cell?_alloc_new ..)
 have q4 : w2.cell? ⟨w1.heap.size, 4, none⟩ = some (.int .i64 mi) := (htb.cell (by simp)).trans (World.cell?_alloc_new ..)
 have q5 : w2.cell? ⟨w1.heap.size, 5, none⟩ = some (.int .i64 s) := (htb.cell (by simp)).trans (World.cell?_alloc_new ..)
 have HB2 : Below w.heap.size w w2 := (HB.out.alloc HB.out.size _).trans ⟨htb.os, htb.tape, htb.output, htb.size, fun k hk => htb.block k (by have := HB.out.size; simp; omega)⟩
 have HB3 := Lib.hid HB2
 have Cs := Lib.hid (fun n => short_any _ _ wd _ (w2.drewN n) hw0 hw7 (by simpa using hn0) (by simpa using hd) sd)
 clear htb HB2 HG1 hw2
 have hn0s : (toldWorld w).heap.size = (toldWorld w).heap.size := rfl
 clear hn0s
 go_wp2_with fail
 refine start_ (n := 34) (S := fun w' => w'.cell? ⟨w1.heap.size, 0, none⟩ = some (.int .i64 y) ∧ w'.cell? ⟨w1.heap.size, 1, none⟩ = some (.int .i64 mo) ∧ w'.cell? ⟨w1.heap.size, 2, none⟩ = some (.int .i64 d) ∧ w'.cell? ⟨w1.heap.size, 3, none⟩ = some (.int .i64 ho) ∧ w'.cell? ⟨w1.heap.size, 4, none⟩ = some (.int .i64 mi) ∧ w'.cell? ⟨w1.heap.size, 5, none⟩ = some (.int .i64 s) ∧ w'.cell? ⟨w1.heap.size + 1 + 1 + 1, 0, none⟩ = some (.slice (some ⟨w1.heap.size + 1, 0, none⟩) 7 7) ∧ w'.cell? ⟨w1.heap.size + 1 + 1 + 1, 1, none⟩ = some (.slice (some ⟨w1.heap.size + 1 + 1, 0, none⟩) 12 12) ∧ w'.cell? ⟨w1.heap.size + 1, wd.toNat, none⟩ = some (.string (longDay wd)) ∧ w'.cell? ⟨w1.heap.size + 1 + 1, mo.toNat, none⟩ = some (.string (shortMonth mo))) (ds := []) #[O,O,O,O,O,O,O,O,O,O,O,O,O,O,O,O,O,O,O,O,O,O,O,O,O,O,O,O,O,O,O,O,O,O] (by kernel_rfl) rfl rfl ⟨q0, q1, q2, q3, q4, q5, hn0, hn1, hd, hmn⟩ (fun hHeld => ?_)
 refine pure_ (i := 0) (N := some 14) (v := ?_) (a' := ?_) #[I,O,O,O,O,O,O,O,O,O,O,O,O,O,O,O,O,O,O,O,O,O,O,O,O,O,O,O,O,O,O,O,O,O] rfl rfl (by kernel_rfl) (fun _ _ _ h => h) (Or.inl ⟨by rfl, ?_⟩) ?_ ?_
 rotate_left
 ·
  intro w'
  go_simp
  with_reducible rfl
 rotate_left
 ·
  simp only [Act.put, List.setIfInBounds_toArray, List.set_cons_zero, List.set_cons_succ, i64_w, i32_w]
  rfl
 refine pure_ (i := 1) (N := some 15) (v := ?_) (a' := ?_) #[I,I,O,O,O,O,O,O,O,O,O,O,O,O,O,O,O,O,O,O,O,O,O,O,O,O,O,O,O,O,O,O,O,O] rfl rfl (by kernel_rfl) (fun _ _ _ h => h) (Or.inl ⟨by rfl, ?_⟩) ?_ ?_
 rotate_left
 ·
  intro w'
  go_simp
  with_reducible rfl
 rotate_left
 ·
  simp only [Act.put, List.setIfInBounds_toArray, List.set_cons_zero, List.set_cons_succ, i64_w, i32_w]
  rfl
 refine pure_ (i := 4) (N := some 18) (v := ?_) (a' := ?_) #[I,I,O,O,I,O,O,O,O,O,O,O,O,O,O,O,O,O,O,O,O,O,O,O,O,O,O,O,O,O,O,O,O,O] rfl rfl (by kernel_rfl) (fun _ _ _ h => h) (Or.inl ⟨by rfl, ?_⟩) ?_ ?_
 rotate_left
 ·
  intro w'
  go_simp
  with_reducible rfl
 rotate_left
 ·
  simp only [Act.put, List.setIfInBounds_toArray, List.set_cons_zero, List.set_cons_succ, i64_w, i32_w]
  rfl
 refine pure_ (i := 9) (N := some 23) (v := ?_) (a' := ?_) #[I,I,O,O,I,O,O,O,O,I,O,O,O,O,O,O,O,O,O,O,O,O,O,O,O,O,O,O,O,O,O,O,O,O] rfl rfl (by kernel_rfl) (fun _ _ _ h => h) (Or.inl ⟨by rfl, ?_⟩) ?_ ?_
 rotate_left
 ·
  intro w'
  go_simp
  with_reducible rfl
 rotate_left
 ·
  simp only [Act.put, List.setIfInBounds_toArray, List.set_cons_zero, List.set_cons_succ, i64_w, i32_w]
  rfl
 refine pure_ (i := 10) (N := some 24) (v := ?_) (a' := ?_) #[I,I,O,O,I,O,O,O,O,I,I,O,O,O,O,O,O,O,O,O,O,O,O,O,O,O,O,O,O,O,O,O,O,O] rfl rfl (by kernel_rfl) (fun _ _ _ h => h) (Or.inl ⟨by rfl, ?_⟩) ?_ ?_
 rotate_left
 ·
  intro w'
  go_simp
  with_reducible rfl
 rotate_left
 ·
  simp only [Act.put, List.setIfInBounds_toArray, List.set_cons_zero, List.set_cons_succ, i64_w, i32_w]
  rfl
 refine pure_ (i := 11) (N := some 25) (v := ?_) (a' := ?_) #[I,I,O,O,I,O,O,O,O,I,I,I,O,O,O,O,O,O,O,O,O,O,O,O,O,O,O,O,O,O,O,O,O,O] rfl rfl (by kernel_rfl) (fun _ _ _ h => h) (Or.inl ⟨by rfl, ?_⟩) ?_ ?_
 rotate_left
 ·
  intro w'
  go_simp
  with_reducible rfl
 rotate_left
 ·
  simp only [Act.put, List.setIfInBounds_toArray, List.set_cons_zero, List.set_cons_succ, i64_w, i32_w]
  rfl
 refine pure_ (i := 13) (N := some 27) (v := ?_) (a' := ?_) #[I,I,O,O,I,O,O,O,O,I,I,I,O,I,O,O,O,O,O,O,O,O,O,O,O,O,O,O,O,O,O,O,O,O] rfl rfl (by kernel_rfl) (fun _ _ _ h => h) (Or.inl ⟨by rfl, ?_⟩) ?_ ?_
 rotate_left
 ·
  intro w'
  go_simp
  with_reducible rfl
 rotate_left
 ·
  simp only [Act.put, List.setIfInBounds_toArray, List.set_cons_zero, List.set_cons_succ, i64_w, i32_w]
  rfl
 refine pure_ (i := 19) (N := some 33) (v := ?_) (a' := ?_) #[I,I,O,O,I,O,O,O,O,I,I,I,O,I,O,O,O,O,O,I,O,O,O,O,O,O,O,O,O,O,O,O,O,O] rfl rfl (by kernel_rfl) (fun _ _ _ h => h) (Or.inl ⟨by rfl, ?_⟩) ?_ ?_
 rotate_left
 ·
  intro w'
  go_simp
  with_reducible rfl
 rotate_left
 ·
  simp only [Act.put, List.setIfInBounds_toArray, List.set_cons_zero, List.set_cons_succ, i64_w, i32_w]
  rfl
 refine pure_ (i := 24) (N := some 38) (v := ?_) (a' := ?_) #[I,I,O,O,I,O,O,O,O,I,I,I,O,I,O,O,O,O,O,I,O,O,O,O,I,O,O,O,O,O,O,O,O,O] rfl rfl (by kernel_rfl) (fun _ _ _ h => h) (Or.inl ⟨by rfl, ?_⟩) ?_ ?_
 rotate_left
 ·
  intro w'
  go_simp
  with_reducible rfl
 rotate_left
 ·
  simp only [Act.put, List.setIfInBounds_toArray, List.set_cons_zero, List.set_cons_succ, i64_w, i32_w]
  rfl
 refine take_ (i := 5) (N := some 19) (v := ?_) (a' := ?_) #[I,I,O,O,I,I,O,O,O,I,I,I,O,I,O,O,O,O,O,I,O,O,O,O,I,O,O,O,O,O,O,O,O,O] rfl rfl (by kernel_rfl) (fun _ _ _ h => h) (Or.inl ⟨by rfl, ?_⟩) hHeld ?_ ?_
 rotate_left
 ·
  rintro w' ⟨s0, s1, s2, s3, s4, s5, s6, s7, s8, s9⟩
  go_simp
  with_reducible rfl
 rotate_left
 ·
  simp only [Act.put, List.setIfInBounds_toArray, List.set_cons_zero, List.set_cons_succ, i64_w, i32_w]
  rfl
 refine take_ (i := 12) (N := some 26) (v := ?_) (a' := ?_) #[I,I,O,O,I,I,O,O,O,I,I,I,I,I,O,O,O,O,O,I,O,O,O,O,I,O,O,O,O,O,O,O,O,O] rfl rfl (by kernel_rfl) (fun _ _ _ h => h) (Or.inl ⟨by rfl, ?_⟩) hHeld ?_ ?_
 rotate_left
 ·
  rintro w' ⟨s0, s1, s2, s3, s4, s5, s6, s7, s8, s9⟩
  go_simp
  with_reducible rfl
 rotate_left
 ·
  simp only [Act.put, List.setIfInBounds_toArray, List.set_cons_zero, List.set_cons_succ, i64_w, i32_w]
  rfl
 refine take_ (i := 14) (N := some 28) (v := ?_) (a' := ?_) #[I,I,O,O,I,I,O,O,O,I,I,I,I,I,I,O,O,O,O,I,O,O,O,O,I,O,O,O,O,O,O,O,O,O] rfl rfl (by kernel_rfl) (fun _ _ _ h => h) (Or.inl ⟨by rfl, ?_⟩) hHeld ?_ ?_
 rotate_left
 ·
  rintro w' ⟨s0, s1, s2, s3, s4, s5, s6, s7, s8, s9⟩
  go_simp
  with_reducible rfl
 rotate_left
 ·
  simp only [Act.put, List.setIfInBounds_toArray, List.set_cons_zero, List.set_cons_succ, i64_w, i32_w]
  rfl
 refine pure_ (i := 15) (N := some 29) (v := ?_) (a' := ?_) #[I,I,O,O,I,I,O,O,O,I,I,I,I,I,I,I,O,O,O,I,O,O,O,O,I,O,O,O,O,O,O,O,O,O] rfl rfl (by kernel_rfl) (fun _ _ _ h => h) (Or.inl ⟨by rfl, ?_⟩) ?_ ?_
 rotate_left
 ·
  intro w'
  go_simp
  with_reducible rfl
 rotate_left
 ·
  simp only [Act.put, List.setIfInBounds_toArray, List.set_cons_zero, List.set_cons_succ, i64_w, i32_w]
  rfl
 refine take_ (i := 16) (N := some 30) (v := ?_) (a' := ?_) #[I,I,O,O,I,I,O,O,O,I,I,I,I,I,I,I,I,O,O,I,O,O,O,O,I,O,O,O,O,O,O,O,O,O] rfl rfl (by kernel_rfl) (fun _ _ _ h => h) (Or.inl ⟨by rfl, ?_⟩) hHeld ?_ ?_
 rotate_left
 ·
  rintro w' ⟨s0, s1, s2, s3, s4, s5, s6, s7, s8, s9⟩
  go_simp
  with_reducible rfl
 rotate_left
 ·
  simp only [Act.put, List.setIfInBounds_toArray, List.set_cons_zero, List.set_cons_succ, i64_w, i32_w]
  rfl
 refine take_ (i := 20) (N := some 34) (v := ?_) (a' := ?_) #[I,I,O,O,I,I,O,O,O,I,I,I,I,I,I,I,I,O,O,I,I,O,O,O,I,O,O,O,O,O,O,O,O,O] rfl rfl (by kernel_rfl) (fun _ _ _ h => h) (Or.inl ⟨by rfl, ?_⟩) hHeld ?_ ?_
 rotate_left
 ·
  rintro w' ⟨s0, s1, s2, s3, s4, s5, s6, s7, s8, s9⟩
  go_simp
  with_reducible rfl
 rotate_left
 ·
  simp only [Act.put, List.setIfInBounds_toArray, List.set_cons_zero, List.set_cons_succ, i64_w, i32_w]
  rfl
 refine pure_ (i := 21) (N := some 35) (v := ?_) (a' := ?_) #[I,I,O,O,I,I,O,O,O,I,I,I,I,I,I,I,I,O,O,I,I,I,O,O,I,O,O,O,O,O,O,O,O,O] rfl rfl (by kernel_rfl) (fun _ _ _ h => h) (Or.inl ⟨by rfl, ?_⟩) ?_ ?_
 rotate_left
 ·
  intro w'
  go_simp
  with_reducible rfl
 rotate_left
 ·
  simp only [Act.put, List.setIfInBounds_toArray, List.set_cons_zero, List.set_cons_succ, i64_w, i32_w]
  rfl
 refine take_ (i := 25) (N := some 39) (v := ?_) (a' := ?_) #[I,I,O,O,I,I,O,O,O,I,I,I,I,I,I,I,I,O,O,I,I,I,O,O,I,I,O,O,O,O,O,O,O,O] rfl rfl (by kernel_rfl) (fun _ _ _ h => h) (Or.inl ⟨by rfl, ?_⟩) hHeld ?_ ?_
 rotate_left
 ·
  rintro w' ⟨s0, s1, s2, s3, s4, s5, s6, s7, s8, s9⟩
  go_simp
  with_reducible rfl
 rotate_left
 ·
  simp only [Act.put, List.setIfInBounds_toArray, List.set_cons_zero, List.set_cons_succ, i64_w, i32_w]
  rfl
 refine take_ (i := 29) (N := some 43) (v := ?_) (a' := ?_) #[I,I,O,O,I,I,O,O,O,I,I,I,I,I,I,I,I,O,O,I,I,I,O,O,I,I,O,O,O,I,O,O,O,O] rfl rfl (by kernel_rfl) (fun _ _ _ h => h) (Or.inl ⟨by rfl, ?_⟩) hHeld ?_ ?_
 rotate_left
 ·
  rintro w' ⟨s0, s1, s2, s3, s4, s5, s6, s7, s8, s9⟩
  go_simp
  with_reducible rfl
 rotate_left
 ·
  simp only [Act.put, List.setIfInBounds_toArray, List.set_cons_zero, List.set_cons_succ, i64_w, i32_w]
  rfl
 refine one_ (i := 2) (N := some 16) #[I,I,I,O,I,I,O,O,O,I,I,I,I,I,I,I,I,O,O,I,I,I,O,O,I,I,O,O,O,I,O,O,O,O] rfl rfl (by kernel_rfl) (by decide) (fun K hK => ?_)
 refine goes_ Tryd.func41 (by kernel_rfl) rfl #[.pointer (some ⟨w1.heap.size + 1 + 1 + 1, 0, none⟩), .int .i64 wd] (by rfl) rfl rfl (by (try simp only [List.map_toArray, List.map_cons, List.map_nil]); first | done | rfl) ?_
 with_reducible refine (short_any _ _ wd _ _ hw0 hw7 hHeld.2.2.2.2.2.2.1 hHeld.2.2.2.2.2.2.2.2.1 sd).mono ?_
 rintro e w' ⟨rfl, rfl⟩
 refine ⟨_, rfl, ?_⟩
 refine hK.out _ _ ⟨hHeld.1, hHeld.2.1, hHeld.2.2.1, hHeld.2.2.2.1, hHeld.2.2.2.2.1, hHeld.2.2.2.2.2.1, hHeld.2.2.2.2.2.2.1, hHeld.2.2.2.2.2.2.2.1, hHeld.2.2.2.2.2.2.2.2.1, hHeld.2.2.2.2.2.2.2.2.2⟩ (fun hHeld => ?_)
 clear hK K
 refine norm_ (a' := ?_) ?_ ?_
 rotate_left
 ·
  show Act.put _ (some 16) _ = _
  simp only [Act.put, List.setIfInBounds_toArray, List.set_cons_zero, List.set_cons_succ, i64_w, i32_w]
  rfl
 refine pure_ (i := 3) (N := some 17) (v := ?_) (a' := ?_) #[I,I,I,I,I,I,O,O,O,I,I,I,I,I,I,I,I,O,O,I,I,I,O,O,I,I,O,O,O,I,O,O,O,O] rfl rfl (by kernel_rfl) (fun _ _ _ h => h) (Or.inl ⟨by rfl, ?_⟩) ?_ ?_
 rotate_left
 ·
  intro w'
  go_simp
  with_reducible rfl
 rotate_left
 ·
  simp only [Act.put, List.setIfInBounds_toArray, List.set_cons_zero, List.set_cons_succ, i64_w, i32_w]
  rfl
 refine one_ (i := 6) (N := some 20) #[I,I,I,I,I,I,I,O,O,I,I,I,I,I,I,I,I,O,O,I,I,I,O,O,I,I,O,O,O,I,O,O,O,O] rfl rfl (by kernel_rfl) (by decide) (fun K hK => ?_)
 refine goes_ Tryd.func42 (by kernel_rfl) rfl #[.int .i64 d] (by rfl) rfl rfl (by (try simp only [List.map_toArray, List.map_cons, List.map_nil]); first | done | rfl) ?_
 with_reducible refine (C1.out _).mono ?_
 rintro e w' ⟨rfl, ⟨nd, rfl⟩⟩
 refine ⟨_, rfl, ?_⟩
 refine hK.out _ _ ⟨hHeld.1, hHeld.2.1, hHeld.2.2.1, hHeld.2.2.2.1, hHeld.2.2.2.2.1, hHeld.2.2.2.2.2.1, hHeld.2.2.2.2.2.2.1, hHeld.2.2.2.2.2.2.2.1, hHeld.2.2.2.2.2.2.2.2.1, hHeld.2.2.2.2.2.2.2.2.2⟩ (fun hHeld => ?_)
 clear hK K
 refine norm_ (a' := ?_) ?_ ?_
 rotate_left
 ·
  show Act.put _ (some 20) _ = _
  simp only [Act.put, List.setIfInBounds_toArray, List.set_cons_zero, List.set_cons_succ, i64_w, i32_w]
  rfl
 refine pure_ (i := 7) (N := some 21) (v := ?_) (a' := ?_) #[I,I,I,I,I,I,I,I,O,I,I,I,I,I,I,I,I,O,O,I,I,I,O,O,I,I,O,O,O,I,O,O,O,O] rfl rfl (by kernel_rfl) (fun _ _ _ h => h) (Or.inl ⟨by rfl, ?_⟩) ?_ ?_
 rotate_left
 ·
  intro w'
  go_simp
  with_reducible rfl
 rotate_left
 ·
  simp only [Act.put, List.setIfInBounds_toArray, List.set_cons_zero, List.set_cons_succ, i64_w, i32_w]
  rfl
 refine pure_ (i := 8) (N := some 22) (v := ?_) (a' := ?_) #[I,I,I,I,I,I,I,I,I,I,I,I,I,I,I,I,I,O,O,I,I,I,O,O,I,I,O,O,O,I,O,O,O,O] rfl rfl (by kernel_rfl) (fun _ _ _ h => h) (Or.inl ⟨by rfl, ?_⟩) ?_ ?_
 rotate_left
 ·
  intro w'
  go_simp
  with_reducible rfl
 rotate_left
 ·
  simp only [Act.put, List.setIfInBounds_toArray, List.set_cons_zero, List.set_cons_succ, i64_w, i32_w]
  rfl
 refine pure_ (i := 17) (N := some 31) (v := ?_) (a' := ?_) #[I,I,I,I,I,I,I,I,I,I,I,I,I,I,I,I,I,I,O,I,I,I,O,O,I,I,O,O,O,I,O,O,O,O] rfl rfl (by kernel_rfl) (fun _ _ _ h => h) (Or.inl ⟨by rfl, ?_⟩) ?_ ?_
 rotate_left
 ·
  intro w'
  go_simp
  with_reducible rfl
 rotate_left
 ·
  simp only [Act.put, List.setIfInBounds_toArray, List.set_cons_zero, List.set_cons_succ, i64_w, i32_w]
  rfl
 refine pure_ (i := 18) (N := some 32) (v := ?_) (a' := ?_) #[I,I,I,I,I,I,I,I,I,I,I,I,I,I,I,I,I,I,I,I,I,I,O,O,I,I,O,O,O,I,O,O,O,O] rfl rfl (by kernel_rfl) (fun _ _ _ h => h) (Or.inl ⟨by rfl, ?_⟩) ?_ ?_
 rotate_left
 ·
  intro w'
  go_simp
  with_reducible rfl
 rotate_left
 ·
  simp only [Act.put, List.setIfInBounds_toArray, List.set_cons_zero, List.set_cons_succ, i64_w, i32_w]
  rfl
 refine one_ (i := 22) (N := some 36) #[I,I,I,I,I,I,I,I,I,I,I,I,I,I,I,I,I,I,I,I,I,I,I,O,I,I,O,O,O,I,O,O,O,O] rfl rfl (by kernel_rfl) (by decide) (fun K hK => ?_)
 refine goes_ Tryd.func42 (by kernel_rfl) rfl #[.int .i64 (wrap64 (y.tdiv 100))] (by rfl) rfl rfl (by (try simp only [List.map_toArray, List.map_cons, List.map_nil]); first | done | rfl) ?_
 with_reducible refine (C2.out _).mono ?_
 rintro e w' ⟨rfl, ⟨nd, rfl⟩⟩
 refine ⟨_, rfl, ?_⟩
 refine hK.out _ _ ⟨hHeld.1, hHeld.2.1, hHeld.2.2.1, hHeld.2.2.2.1, hHeld.2.2.2.2.1, hHeld.2.2.2.2.2.1, hHeld.2.2.2.2.2.2.1, hHeld.2.2.2.2.2.2.2.1, hHeld.2.2.2.2.2.2.2.2.1, hHeld.2.2.2.2.2.2.2.2.2⟩ (fun hHeld => ?_)
 clear hK K
 refine norm_ (a' := ?_) ?_ ?_
 rotate_left
 ·
  show Act.put _ (some 36) _ = _
  simp only [Act.put, List.setIfInBounds_toArray, List.set_cons_zero, List.set_cons_succ, i64_w, i32_w]
  rfl
 refine pure_ (i := 23) (N := some 37) (v := ?_) (a' := ?_) #[I,I,I,I,I,I,I,I,I,I,I,I,I,I,I,I,I,I,I,I,I,I,I,I,I,I,O,O,O,I,O,O,O,O] rfl rfl (by kernel_rfl) (fun _ _ _ h => h) (Or.inl ⟨by rfl, ?_⟩) ?_ ?_
 rotate_left
 ·
  intro w'
  go_simp
  with_reducible rfl
 rotate_left
 ·
  simp only [Act.put, List.setIfInBounds_toArray, List.set_cons_zero, List.set_cons_succ, i64_w, i32_w]
  rfl
 refine one_ (i := 26) (N := some 40) #[I,I,I,I,I,I,I,I,I,I,I,I,I,I,I,I,I,I,I,I,I,I,I,I,I,I,I,O,O,I,O,O,O,O] rfl rfl (by kernel_rfl) (by decide) (fun K hK => ?_)
 refine goes_ Tryd.func42 (by kernel_rfl) rfl #[.int .i64 y] (by rfl) rfl rfl (by (try simp only [List.map_toArray, List.map_cons, List.map_nil]); first | done | rfl) ?_
 with_reducible refine (C3.out _).mono ?_
 rintro e w' ⟨rfl, ⟨nd, rfl⟩⟩
 refine ⟨_, rfl, ?_⟩
 refine hK.out _ _ ⟨hHeld.1, hHeld.2.1, hHeld.2.2.1, hHeld.2.2.2.1, hHeld.2.2.2.2.1, hHeld.2.2.2.2.2.1, hHeld.2.2.2.2.2.2.1, hHeld.2.2.2.2.2.2.2.1, hHeld.2.2.2.2.2.2.2.2.1, hHeld.2.2.2.2.2.2.2.2.2⟩ (fun hHeld => ?_)
 clear hK K
 refine norm_ (a' := ?_) ?_ ?_
 rotate_left
 ·
  show Act.put _ (some 40) _ = _
  simp only [Act.put, List.setIfInBounds_toArray, List.set_cons_zero, List.set_cons_succ, i64_w, i32_w]
  rfl
 refine pure_ (i := 27) (N := some 41) (v := ?_) (a' := ?_) #[I,I,I,I,I,I,I,I,I,I,I,I,I,I,I,I,I,I,I,I,I,I,I,I,I,I,I,I,O,I,O,O,O,O] rfl rfl (by kernel_rfl) (fun _ _ _ h => h) (Or.inl ⟨by rfl, ?_⟩) ?_ ?_
 rotate_left
 ·
  intro w'
  go_simp
  with_reducible rfl
 rotate_left
 ·
  simp only [Act.put, List.setIfInBounds_toArray, List.set_cons_zero, List.set_cons_succ, i64_w, i32_w]
  rfl
 refine pure_ (i := 28) (N := some 42) (v := ?_) (a' := ?_) #[I,I,I,I,I,I,I,I,I,I,I,I,I,I,I,I,I,I,I,I,I,I,I,I,I,I,I,I,I,I,O,O,O,O] rfl rfl (by kernel_rfl) (fun _ _ _ h => h) (Or.inl ⟨by rfl, ?_⟩) ?_ ?_
 rotate_left
 ·
  intro w'
  go_simp
  with_reducible rfl
 rotate_left
 ·
  simp only [Act.put, List.setIfInBounds_toArray, List.set_cons_zero, List.set_cons_succ, i64_w, i32_w]
  rfl
 refine one_ (i := 30) (N := some 44) #[I,I,I,I,I,I,I,I,I,I,I,I,I,I,I,I,I,I,I,I,I,I,I,I,I,I,I,I,I,I,I,O,O,O] rfl rfl (by kernel_rfl) (by decide) (fun K hK => ?_)
 refine goes_ Tryd.func43 (by kernel_rfl) rfl #[.agg #[.int .i64 y, .int .i64 mo, .int .i64 d, .int .i64 ho, .int .i64 mi, .int .i64 s]] (by rfl) rfl rfl (by (try simp only [List.map_toArray, List.map_cons, List.map_nil]); first | done | rfl) ?_
 with_reducible refine (C4.out _).mono ?_
 rintro e w4 ⟨rfl, hb⟩
 refine ⟨_, rfl, ?_⟩
 refine hK.out _ _ ⟨((hb.cell (World.block_lt_of_cell? _ _ (hHeld.1))).trans (hHeld.1)), ((hb.cell (World.block_lt_of_cell? _ _ (hHeld.2.1))).trans (hHeld.2.1)), ((hb.cell (World.block_lt_of_cell? _ _ (hHeld.2.2.1))).trans (hHeld.2.2.1)), ((hb.cell (World.block_lt_of_cell? _ _ (hHeld.2.2.2.1))).trans (hHeld.2.2.2.1)), ((hb.cell (World.block_lt_of_cell? _ _ (hHeld.2.2.2.2.1))).trans (hHeld.2.2.2.2.1)), ((hb.cell (World.block_lt_of_cell? _ _ (hHeld.2.2.2.2.2.1))).trans (hHeld.2.2.2.2.2.1)), ((hb.cell (World.block_lt_of_cell? _ _ (hHeld.2.2.2.2.2.2.1))).trans (hHeld.2.2.2.2.2.2.1)), ((hb.cell (World.block_lt_of_cell? _ _ (hHeld.2.2.2.2.2.2.2.1))).trans (hHeld.2.2.2.2.2.2.2.1)), ((hb.cell (World.block_lt_of_cell? _ _ (hHeld.2.2.2.2.2.2.2.2.1))).trans (hHeld.2.2.2.2.2.2.2.2.1)), ((hb.cell (World.block_lt_of_cell? _ _ (hHeld.2.2.2.2.2.2.2.2.2))).trans (hHeld.2.2.2.2.2.2.2.2.2))⟩ (fun hHeld => ?_)
 clear hK K
 refine norm_ (a' := ?_) ?_ ?_
 rotate_left
 ·
  show Act.put _ (some 44) _ = _
  simp only [Act.put, List.setIfInBounds_toArray, List.set_cons_zero, List.set_cons_succ, i64_w, i32_w]
  rfl
 refine pure_ (i := 31) (N := some 45) (v := ?_) (a' := ?_) #[I,I,I,I,I,I,I,I,I,I,I,I,I,I,I,I,I,I,I,I,I,I,I,I,I,I,I,I,I,I,I,I,O,O] rfl rfl (by kernel_rfl) (fun _ _ _ h => h) (Or.inl ⟨by rfl, ?_⟩) ?_ ?_
 rotate_left
 ·
  intro w'
  go_simp
  with_reducible rfl
 rotate_left
 ·
  simp only [Act.put, List.setIfInBounds_toArray, List.set_cons_zero, List.set_cons_succ, i64_w, i32_w]
  rfl
 refine pure_ (i := 32) (N := some 46) (v := ?_) (a' := ?_) #[I,I,I,I,I,I,I,I,I,I,I,I,I,I,I,I,I,I,I,I,I,I,I,I,I,I,I,I,I,I,I,I,I,O] rfl rfl (by kernel_rfl) (fun _ _ _ h => h) (Or.inl ⟨by rfl, ?_⟩) ?_ ?_
 rotate_left
 ·
  intro w'
  go_simp
  with_reducible rfl
 rotate_left
 ·
  simp only [Act.put, List.setIfInBounds_toArray, List.set_cons_zero, List.set_cons_succ, i64_w, i32_w]
  rfl
 refine pure_ (i := 33) (N := some 2) (v := ?_) (a' := ?_) #[I,I,I,I,I,I,I,I,I,I,I,I,I,I,I,I,I,I,I,I,I,I,I,I,I,I,I,I,I,I,I,I,I,I] rfl rfl (by kernel_rfl) (fun _ _ _ h => h) (Or.inl ⟨by rfl, ?_⟩) ?_ ?_
 rotate_left
 ·
  intro w'
  go_simp
  with_reducible rfl
 rotate_left
 ·
  simp only [Act.put, List.setIfInBounds_toArray, List.set_cons_zero, List.set_cons_succ, i64_w, i32_w]
  rfl
 refine done_ (by kernel_rfl) ?_
 go_wp2
 go_ret
 exact ⟨by rw [← Hr.out]; rfl, below_then HB3.out ⟨hb.os, hb.tape, hb.output, hb.size, hb.block⟩⟩
end Go.Proofs.YtcdbnphhoihldaaDoor.X
