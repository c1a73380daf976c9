/- Words and walks, joined by a program. -/
import Derived.Test.YtcdbnphhoihldaaDoorG22
import Derived.Test.YtcdbnphhoihldaaDoorG25
import Derived.Test.YtcdbnphhoihldaaDoorG27
import Derived.Test.YtcdbnphhoihldaaDoorG28
import Derived.Test.YtcdbnphhoihldaaDoorG23
import Derived.Test.YtcdbnphhoihldaaDoorG24
import Derived.LoopN
import Derived.Test.YtcdbnphhoihldaaDoorG26
/- Lines: Itoa of any int, Join of seven, how, Text. -/
namespace Go.Proofs.YtcdbnphhoihldaaDoor.Line
open Go.Sort (grow heap_grow_old)
open Go.RowKit Go.Proofs.YtcdbnphhoihldaaDoor.X Go.Proofs.YtcdbnphhoihldaaDoor.Cal Go.Proofs.YtcdbnphhoihldaaDoor.Pure Go.Proofs.YtcdbnphhoihldaaDoor.Quo Go.Proofs.YtcdbnphhoihldaaDoorW.PrintWords Go.Proofs.YtcdbnphhoihldaaDoorW.PrintLast Go.Proofs.YtcdbnphhoihldaaDoorW.PrintMore
attribute [local go_sem] max2_int min2_int max_two min_two max_three min_three max_four min_four
set_option linter.unusedVariables false
set_option linter.unusedSimpArgs false

theorem below_grow {w : World} (k : Nat) (os : Array Obj) : Below w.heap.size w (grow (w.drewN k) os) :=
  ⟨rfl, rfl, rfl, by simp [grow], fun i hi => heap_grow_old (w.drewN k) os hi⟩
theorem itoa_any (n : Int) (h0 : -9223372036854775808 ≤ n) (h1 : n ≤ 9223372036854775807) (w : World) (hG : GL w) :
    Calls Tryd.prog 22 #[.int .i64 n] w fun e w' => e = .returned (.string (X.bytes (Lib.itoa n))) ∧ Below w.heap.size w w' := by
  refine (Tryd.strconv_Itoa n h0 h1 w hG.p10).mono ?_
  rintro e w' ⟨rfl, k, os, rfl⟩
  exact ⟨rfl, below_grow k os⟩
def seven (a b c d e f g : ByteArray) : List ByteArray := [a, b, c, d, e, f, g]
theorem join7 (a b c d e f g : ByteArray) (w : World) (hlen : (Lib.join ((seven a b c d e f g).map (·.data.toList)) [32]).length ≤ 140737488355328) :
    Calls Tryd.prog 19 #[.slice (some ⟨w.heap.size, 0, none⟩) 7 7, .string ⟨#[32]⟩] (w.alloc (.cells #[.string a, .string b, .string c, .string d, .string e, .string f, .string g] 9)) fun e' w' =>
      e' = .returned (.string (X.bytes (Lib.join ((seven a b c d e f g).map (·.data.toList)) [32]))) ∧ Below w.heap.size w w' := by
  refine (Tryd.strings_Join w.heap.size 0 7 (seven a b c d e f g) ⟨#[32]⟩ (w.alloc (.cells #[.string a, .string b, .string c, .string d, .string e, .string f, .string g] 9)) ?_ (by simp) (by simp [seven]) (by simp [seven]) hlen).mono ?_
  · intro j x hx
    rw [Nat.zero_add, World.cell?_alloc_new]
    unfold seven at hx
    match j, hx with
    | 0, h | 1, h | 2, h | 3, h | 4, h | 5, h | 6, h => obtain rfl := Option.some.inj h; rfl
    | j + 7, h => simp at h
  · rintro e' w' ⟨rfl, hb⟩
    exact ⟨rfl, ((Below.refl w.heap.size w).alloc (Nat.le_refl _) _).trans ⟨hb.os, hb.tape, hb.output, hb.size, fun k hk => hb.block k (by simp; omega)⟩⟩

def words : List (List UInt8) := [[104, 105, 116], [109, 105, 115, 115], [99, 104, 101, 99, 107], [100, 101, 110, 121], [101, 114, 114, 111, 114], [99, 111, 110, 115, 111, 108, 101]]
def wordsObj : Obj := .cells #[.string (X.bytes [104, 105, 116]), .string (X.bytes [109, 105, 115, 115]), .string (X.bytes [99, 104, 101, 99, 107]), .string (X.bytes [100, 101, 110, 121]), .string (X.bytes [101, 114, 114, 111, 114]), .string (X.bytes [99, 111, 110, 115, 111, 108, 101])] 9
theorem words_any (w : World) : Calls Tryd.prog 29 #[] w fun e w' => e = .returned (.slice (some ⟨w.heap.size, 0, none⟩) 6 6) ∧ w' = w.alloc wordsObj := by
  go_enter Tryd.func29, Tryd.ntmps29
  go_wp2_with fail
  go_ret
  exact ⟨rfl, rfl⟩
/-- How a request was answered, told. -/
def hw (n : Int) : List UInt8 := if 0 ≤ n ∧ n < 6 then words.getD n.toNat [] else Lib.itoa (if n < 0 then 0 else n)
theorem words_at {w : World} {n : Int} (h : 0 ≤ n ∧ n < 6) : (w.alloc wordsObj).cell? ⟨w.heap.size, n.toNat, none⟩ = some (.string (X.bytes (words.getD n.toNat []))) := by
  unfold wordsObj
  rw [World.cell?_alloc_new]
  obtain ⟨k, rfl⟩ := Int.eq_ofNat_of_zero_le h.1
  match k, h.2 with
  | 0, _ | 1, _ | 2, _ | 3, _ | 4, _ | 5, _ => rfl
  | k + 6, h => omega
set_option maxHeartbeats 1000000 in
theorem how_any (n : Int) (h0 : -9223372036854775808 ≤ n) (h1 : n ≤ 9223372036854775807) (w : World) (hG : GL w) :
    Calls Tryd.prog 21 #[.int .i64 n] w fun e w' => e = .returned (.string (X.bytes (hw n))) ∧ Below w.heap.size w w' := by
  have HG := Lib.hid (hG.alloc wordsObj)
  clear hG
  have hb : Below w.heap.size w (w.alloc wordsObj) := (Below.refl w.heap.size w).alloc (Nat.le_refl _) _
  have Hb := Lib.hid hb
  clear hb
  by_cases h : 0 ≤ n ∧ n < 6
  · have hc := words_at (w := w) h
    obtain ⟨a, b⟩ := h
    have d1 : decide (n ≥ 0) = true := decide_eq_true a
    have d2 : decide (n < 6) = true := decide_eq_true b
    have e1 : hw n = words.getD n.toNat [] := if_pos ⟨a, b⟩
    rw [e1]
    clear e1
    go_enter Tryd.func21, Tryd.ntmps21
    go_wp2_with fail
    refine (words_any _).mono ?_
    rintro e w' ⟨rfl, rfl⟩
    go_wp2_with fail
    go_ret
    exact ⟨rfl, Hb.out⟩
  · have e1 : hw n = Lib.itoa (if n < 0 then 0 else n) := if_neg h
    rw [e1]
    clear e1
    obtain ⟨m, hm⟩ : ∃ m : Int, (if n < 0 then 0 else n) = m := ⟨_, rfl⟩
    have Ci := Lib.hid (itoa_any m (by split at hm <;> omega) (by split at hm <;> omega) _ HG.out)
    have hd : decide (n ≥ 0) = false ∨ decide (n ≥ 0) = true ∧ decide (n < 6) = false := by
      by_cases a : 0 ≤ n
      · exact .inr ⟨decide_eq_true a, decide_eq_false (fun b => h ⟨a, b⟩)⟩
      · exact .inl (decide_eq_false a)
    rw [hm]
    clear h h0 h1
    rcases hd with d1 | ⟨d1, d2⟩ <;>
    · go_enter Tryd.func21, Tryd.ntmps21
      go_wp2_with fail
      refine (words_any _).mono ?_
      rintro e w' ⟨rfl, rfl⟩
      go_wp2_with fail
      refine Ci.out.mono ?_
      rintro e w2 ⟨rfl, hb2⟩
      have HB := Lib.hid (below_then Hb.out hb2)
      clear hb2
      go_wp2_with fail
      go_ret
      exact ⟨rfl, HB.out⟩

theorem quote_len (s : List UInt8) : (quote s).length ≤ 4 * s.length + 2 := by
  have h : (s.flatMap enc).length ≤ 4 * s.length := by
    induction s with
    | nil => simp
    | cons c s ih =>
      rw [List.flatMap_cons, List.length_append, List.length_cons]
      have := enc_len c
      omega
  unfold quote
  simp only [List.length_cons, List.length_append, List.length_nil]
  omega
theorem quote_any (a : ByteArray) (hs : a.size ≤ 1000000) (w : World) :
    Calls Tryd.prog 15 #[.string a] w fun e w' => e = .returned (.string (X.bytes (quote a.data.toList))) ∧ Below w.heap.size w w' := by
  obtain ⟨k, hk⟩ := lineQuote_ev a.data.toList (by simpa using hs)
  have := hk k (Nat.le_refl _)
  rw [← eq_bytes] at this
  exact line_Quote.calls k a _ w this
theorem dateText_any (t : Int) (T : List UInt8) (hT : Ev (fun k => date_Text.f k t) (X.bytes T)) (w : World) (hG : GL w) :
    Calls Tryd.prog 20 #[.int .i64 t] w fun e w' => e = .returned (.string (X.bytes T)) ∧ Below w.heap.size w w' := by
  obtain ⟨k, hk⟩ := hT
  exact date_Text.calls k t _ w hG (hk k (Nat.le_refl _))
/-- A line's text. -/
def mx0 (n : Int) : Int := if n < 0 then 0 else n
def lineText (T : List UInt8) (l : Ln) : List UInt8 :=
  T ++ [32] ++ hw l.how ++ [32] ++ quote l.m.data.toList ++ [32] ++ quote l.h.data.toList ++ [32] ++ quote l.t.data.toList ++ [32] ++ Lib.itoa (mx0 l.status) ++ [32] ++ Lib.itoa (mx0 l.size)
theorem join_text (T : List UInt8) (l : Ln) : Lib.join ((seven (X.bytes T) (X.bytes (hw l.how)) (X.bytes (quote l.m.data.toList)) (X.bytes (quote l.h.data.toList)) (X.bytes (quote l.t.data.toList)) (X.bytes (Lib.itoa (mx0 l.status))) (X.bytes (Lib.itoa (mx0 l.size)))).map (·.data.toList)) [32] = lineText T l := by
  simp [seven, X.bytes, Lib.join, lineText, List.intercalate, List.intersperse]
theorem dd_len : ∀ (k u : Nat), u < 10 ^ (k + 1) → (Lib.decDigits u).length ≤ k + 1
  | 0, u, h => by rw [Lib.decDigits_one (by omega)]; simp
  | k + 1, u, h => by
    rw [Lib.decDigits]
    split
    · simp
    · rw [List.length_append]
      have := dd_len k (u / 10) (by rw [Nat.pow_succ] at h; omega)
      simp only [List.length_cons, List.length_nil]
      omega
theorem itoa_len (n : Int) (h0 : 0 ≤ n) (h1 : n ≤ 9223372036854775807) : (Lib.itoa n).length ≤ 19 := by
  unfold Lib.itoa
  rw [if_neg (by omega)]
  exact dd_len 18 _ (by omega)
structure Fit (l : Ln) : Prop where
  h0 : -9223372036854775808 ≤ l.how
  h1 : l.how ≤ 9223372036854775807
  s0 : -9223372036854775808 ≤ l.status
  s1 : l.status ≤ 9223372036854775807
  z0 : -9223372036854775808 ≤ l.size
  z1 : l.size ≤ 9223372036854775807
  m : l.m.size ≤ 1000000
  h : l.h.size ≤ 1000000
  t : l.t.size ≤ 1000000
theorem hw_len (n : Int) (h1 : n ≤ 9223372036854775807) : (hw n).length ≤ 19 := by
  unfold hw
  split
  · rename_i h
    have key : ∀ k : Fin 6, (words.getD k.val []).length ≤ 19 := by decide
    exact key ⟨n.toNat, by omega⟩
  · exact itoa_len _ (by split <;> omega) (by split <;> omega)
theorem text_len (T : List UInt8) (hT : T.length ≤ 1000) (l : Ln) (f : Fit l) : (lineText T l).length ≤ 13000000 := by
  have a := quote_len l.m.data.toList
  have b := quote_len l.h.data.toList
  have c := quote_len l.t.data.toList
  have d := hw_len l.how f.h1
  have e := itoa_len (mx0 l.status) (by unfold mx0; split <;> omega) (by have := f.s1; unfold mx0; split <;> omega)
  have g := itoa_len (mx0 l.size) (by unfold mx0; split <;> omega) (by have := f.z1; unfold mx0; split <;> omega)
  have m : l.m.data.size ≤ 1000000 := f.m
  have h : l.h.data.size ≤ 1000000 := f.h
  have t : l.t.data.size ≤ 1000000 := f.t
  simp only [Array.length_toList] at a b c
  unfold lineText
  simp only [List.length_append, List.length_cons, List.length_nil]
  omega
set_option maxRecDepth 100000 in
set_option maxHeartbeats 4000000 in
theorem Text_any (l : Ln) (f : Fit l) (T : List UInt8) (hT : Ev (fun k => date_Text.f k l.time) (X.bytes T)) (hl : T.length ≤ 1000) (w : World) (hG : GL w) :
    Calls Tryd.prog 8 #[.agg l.cells.toArray] w fun e w' => e = .returned (.string (X.bytes (lineText T l))) ∧ Below w.heap.size w w' := by
  obtain ⟨w1, hw1⟩ : ∃ w1, w.alloc (.cells #[.int .i64 l.time, .int .i64 l.how, .string l.m, .string l.h, .string l.t, .int .i64 l.status, .int .i64 l.size] 23) = w1 := ⟨_, rfl⟩
  have b0 : w1.cell? ⟨w.heap.size, 0, none⟩ = some (.int .i64 l.time) := by rw [← hw1]; exact World.cell?_alloc_new ..
  have b1 : w1.cell? ⟨w.heap.size, 1, none⟩ = some (.int .i64 l.how) := by rw [← hw1]; exact World.cell?_alloc_new ..
  have b2 : w1.cell? ⟨w.heap.size, 2, none⟩ = some (.string l.m) := by rw [← hw1]; exact World.cell?_alloc_new ..
  have b3 : w1.cell? ⟨w.heap.size, 3, none⟩ = some (.string l.h) := by rw [← hw1]; exact World.cell?_alloc_new ..
  have b4 : w1.cell? ⟨w.heap.size, 4, none⟩ = some (.string l.t) := by rw [← hw1]; exact World.cell?_alloc_new ..
  have b5 : w1.cell? ⟨w.heap.size, 5, none⟩ = some (.int .i64 l.status) := by rw [← hw1]; exact World.cell?_alloc_new ..
  have b6 : w1.cell? ⟨w.heap.size, 6, none⟩ = some (.int .i64 l.size) := by rw [← hw1]; exact World.cell?_alloc_new ..
  have HG : Hid (GL w1) := hw1 ▸ hG.alloc _
  have HB : Hid (Below w.heap.size w w1) := hw1 ▸ (Below.refl w.heap.size w).alloc (Nat.le_refl _) _
  have HL := Lib.hid (text_len T hl l f)
  have ht : T.length ≤ 1000 := hl
  have HF := Lib.hid f
  have HT := Lib.hid hT
  obtain ⟨n1, e1⟩ : ∃ n : Int, (if l.status < 0 then 0 else l.status) = n := ⟨_, rfl⟩
  obtain ⟨n2, e2⟩ : ∃ n : Int, (if l.size < 0 then 0 else l.size) = n := ⟨_, rfl⟩
  have Cd := Lib.hid (fun W hW => dateText_any l.time T hT W hW)
  have Ch := Lib.hid (fun W hW => how_any l.how f.h0 f.h1 W hW)
  have C1 := Lib.hid (fun W hW => itoa_any n1 (by have := f.s0; split at e1 <;> omega) (by have := f.s1; split at e1 <;> omega) W hW)
  have C2 := Lib.hid (fun W hW => itoa_any n2 (by have := f.z0; split at e2 <;> omega) (by have := f.z1; split at e2 <;> omega) W hW)
  have Cj := Lib.hid (fun W => join7 (X.bytes T) (X.bytes (hw l.how)) (X.bytes (quote l.m.data.toList)) (X.bytes (quote l.h.data.toList)) (X.bytes (quote l.t.data.toList)) (X.bytes (Lib.itoa (mx0 l.status))) (X.bytes (Lib.itoa (mx0 l.size))) W (by rw [join_text]; have := HL.out; omega))
  rw [join_text, show mx0 l.status = n1 from e1, show mx0 l.size = n2 from e2] at Cj
  clear hT f hG ht hl
  go_enter Tryd.func8, Tryd.ntmps8
  rw [show (l.cells.toArray : Array Value) = #[.int .i64 l.time, .int .i64 l.how, .string l.m, .string l.h, .string l.t, .int .i64 l.status, .int .i64 l.size] from rfl]
  go_wp2_with fail
  clear hw1
--REG 1
  refine start_ (n := 26) (S := fun w' => w'.cell? ⟨w.heap.size, 0, none⟩ = some (.int .i64 l.time) ∧ w'.cell? ⟨w.heap.size, 1, none⟩ = some (.int .i64 l.how) ∧ w'.cell? ⟨w.heap.size, 2, none⟩ = some (.string l.m) ∧ w'.cell? ⟨w.heap.size, 3, none⟩ = some (.string l.h) ∧ w'.cell? ⟨w.heap.size, 4, none⟩ = some (.string l.t) ∧ w'.cell? ⟨w.heap.size, 5, none⟩ = some (.int .i64 l.status) ∧ w'.cell? ⟨w.heap.size, 6, none⟩ = some (.int .i64 l.size) ∧ Hid (GL w') ∧ Hid (Below w.heap.size w w')) (ds := [23, 24]) #[O,O,O,O,O,O,O,O,O,O,O,O,O,O,O,O,O,O,O,O,O,O,O,O,O,O] (by kernel_rfl) rfl rfl ⟨by simpa using b0, by simpa using b1, by simpa using b2, by simpa using b3, by simpa using b4, by simpa using b5, by simpa using b6, HG, Lib.hid (X.below_drew HB.out)⟩ (fun hHeld => ?_)
  refine pure_ (i := 0) (N := some 3) (v := ?_) (a' := ?_) #[I,O,O,O,O,O,O,O,O,O,O,O,O,O,O,O,O,O,O,O,O,O,O,O,O,O] rfl rfl (by kernel_rfl) (fun _ _ _ h => h) (Or.inl ⟨by rfl, ?_⟩) ?_ ?_
  rotate_left
  · intro w'
    go_simp
    with_reducible rfl
  rotate_left
  · simp only [Act.put, List.setIfInBounds_toArray, List.set_cons_zero, List.set_cons_succ, i64_w, i32_w]
    rfl
  refine pure_ (i := 3) (N := some 6) (v := ?_) (a' := ?_) #[I,O,O,I,O,O,O,O,O,O,O,O,O,O,O,O,O,O,O,O,O,O,O,O,O,O] rfl rfl (by kernel_rfl) (fun _ _ _ h => h) (Or.inl ⟨by rfl, ?_⟩) ?_ ?_
  rotate_left
  · intro w'
    go_simp
    with_reducible rfl
  rotate_left
  · simp only [Act.put, List.setIfInBounds_toArray, List.set_cons_zero, List.set_cons_succ, i64_w, i32_w]
    rfl
  refine pure_ (i := 6) (N := some 9) (v := ?_) (a' := ?_) #[I,O,O,I,O,O,I,O,O,O,O,O,O,O,O,O,O,O,O,O,O,O,O,O,O,O] rfl rfl (by kernel_rfl) (fun _ _ _ h => h) (Or.inl ⟨by rfl, ?_⟩) ?_ ?_
  rotate_left
  · intro w'
    go_simp
    with_reducible rfl
  rotate_left
  · simp only [Act.put, List.setIfInBounds_toArray, List.set_cons_zero, List.set_cons_succ, i64_w, i32_w]
    rfl
  refine pure_ (i := 9) (N := some 12) (v := ?_) (a' := ?_) #[I,O,O,I,O,O,I,O,O,I,O,O,O,O,O,O,O,O,O,O,O,O,O,O,O,O] rfl rfl (by kernel_rfl) (fun _ _ _ h => h) (Or.inl ⟨by rfl, ?_⟩) ?_ ?_
  rotate_left
  · intro w'
    go_simp
    with_reducible rfl
  rotate_left
  · simp only [Act.put, List.setIfInBounds_toArray, List.set_cons_zero, List.set_cons_succ, i64_w, i32_w]
    rfl
  refine pure_ (i := 12) (N := some 15) (v := ?_) (a' := ?_) #[I,O,O,I,O,O,I,O,O,I,O,O,I,O,O,O,O,O,O,O,O,O,O,O,O,O] rfl rfl (by kernel_rfl) (fun _ _ _ h => h) (Or.inl ⟨by rfl, ?_⟩) ?_ ?_
  rotate_left
  · intro w'
    go_simp
    with_reducible rfl
  rotate_left
  · simp only [Act.put, List.setIfInBounds_toArray, List.set_cons_zero, List.set_cons_succ, i64_w, i32_w]
    rfl
  refine pure_ (i := 15) (N := some 18) (v := ?_) (a' := ?_) #[I,O,O,I,O,O,I,O,O,I,O,O,I,O,O,I,O,O,O,O,O,O,O,O,O,O] rfl rfl (by kernel_rfl) (fun _ _ _ h => h) (Or.inl ⟨by rfl, ?_⟩) ?_ ?_
  rotate_left
  · intro w'
    go_simp
    with_reducible rfl
  rotate_left
  · simp only [Act.put, List.setIfInBounds_toArray, List.set_cons_zero, List.set_cons_succ, i64_w, i32_w]
    rfl
  refine pure_ (i := 19) (N := some 22) (v := ?_) (a' := ?_) #[I,O,O,I,O,O,I,O,O,I,O,O,I,O,O,I,O,O,O,I,O,O,O,O,O,O] rfl rfl (by kernel_rfl) (fun _ _ _ h => h) (Or.inl ⟨by rfl, ?_⟩) ?_ ?_
  rotate_left
  · intro w'
    go_simp
    with_reducible rfl
  rotate_left
  · simp only [Act.put, List.setIfInBounds_toArray, List.set_cons_zero, List.set_cons_succ, i64_w, i32_w]
    rfl
  refine take_ (i := 1) (N := some 4) (v := ?_) (a' := ?_) #[I,I,O,I,O,O,I,O,O,I,O,O,I,O,O,I,O,O,O,I,O,O,O,O,O,O] rfl rfl (by kernel_rfl) (fun _ _ _ h => h) (Or.inl ⟨by rfl, ?_⟩) hHeld ?_ ?_
  rotate_left
  · rintro w' ⟨s0, s1, s2, s3, s4, s5, s6, s7, s8⟩
    go_simp
    with_reducible rfl
  rotate_left
  · simp only [Act.put, List.setIfInBounds_toArray, List.set_cons_zero, List.set_cons_succ, i64_w, i32_w]
    rfl
  refine take_ (i := 4) (N := some 7) (v := ?_) (a' := ?_) #[I,I,O,I,I,O,I,O,O,I,O,O,I,O,O,I,O,O,O,I,O,O,O,O,O,O] rfl rfl (by kernel_rfl) (fun _ _ _ h => h) (Or.inl ⟨by rfl, ?_⟩) hHeld ?_ ?_
  rotate_left
  · rintro w' ⟨s0, s1, s2, s3, s4, s5, s6, s7, s8⟩
    go_simp
    with_reducible rfl
  rotate_left
  · simp only [Act.put, List.setIfInBounds_toArray, List.set_cons_zero, List.set_cons_succ, i64_w, i32_w]
    rfl
  refine take_ (i := 7) (N := some 10) (v := ?_) (a' := ?_) #[I,I,O,I,I,O,I,I,O,I,O,O,I,O,O,I,O,O,O,I,O,O,O,O,O,O] rfl rfl (by kernel_rfl) (fun _ _ _ h => h) (Or.inl ⟨by rfl, ?_⟩) hHeld ?_ ?_
  rotate_left
  · rintro w' ⟨s0, s1, s2, s3, s4, s5, s6, s7, s8⟩
    go_simp
    with_reducible rfl
  rotate_left
  · simp only [Act.put, List.setIfInBounds_toArray, List.set_cons_zero, List.set_cons_succ, i64_w, i32_w]
    rfl
  refine take_ (i := 10) (N := some 13) (v := ?_) (a' := ?_) #[I,I,O,I,I,O,I,I,O,I,I,O,I,O,O,I,O,O,O,I,O,O,O,O,O,O] rfl rfl (by kernel_rfl) (fun _ _ _ h => h) (Or.inl ⟨by rfl, ?_⟩) hHeld ?_ ?_
  rotate_left
  · rintro w' ⟨s0, s1, s2, s3, s4, s5, s6, s7, s8⟩
    go_simp
    with_reducible rfl
  rotate_left
  · simp only [Act.put, List.setIfInBounds_toArray, List.set_cons_zero, List.set_cons_succ, i64_w, i32_w]
    rfl
  refine take_ (i := 13) (N := some 16) (v := ?_) (a' := ?_) #[I,I,O,I,I,O,I,I,O,I,I,O,I,I,O,I,O,O,O,I,O,O,O,O,O,O] rfl rfl (by kernel_rfl) (fun _ _ _ h => h) (Or.inl ⟨by rfl, ?_⟩) hHeld ?_ ?_
  rotate_left
  · rintro w' ⟨s0, s1, s2, s3, s4, s5, s6, s7, s8⟩
    go_simp
    with_reducible rfl
  rotate_left
  · simp only [Act.put, List.setIfInBounds_toArray, List.set_cons_zero, List.set_cons_succ, i64_w, i32_w]
    rfl
  refine take_ (i := 16) (N := some 19) (v := ?_) (a' := ?_) #[I,I,O,I,I,O,I,I,O,I,I,O,I,I,O,I,I,O,O,I,O,O,O,O,O,O] rfl rfl (by kernel_rfl) (fun _ _ _ h => h) (Or.inl ⟨by rfl, ?_⟩) hHeld ?_ ?_
  rotate_left
  · rintro w' ⟨s0, s1, s2, s3, s4, s5, s6, s7, s8⟩
    go_simp
    with_reducible rfl
  rotate_left
  · simp only [Act.put, List.setIfInBounds_toArray, List.set_cons_zero, List.set_cons_succ, i64_w, i32_w]
    rfl
  refine pure_ (i := 17) (N := some 20) (v := ?_) (a' := ?_) #[I,I,O,I,I,O,I,I,O,I,I,O,I,I,O,I,I,I,O,I,O,O,O,O,O,O] rfl rfl (by kernel_rfl) (fun _ _ _ h => h) (Or.inl ⟨by rfl, ?_⟩) ?_ ?_
  rotate_left
  · intro w'
    go_simp
    with_reducible rfl
  rotate_left
  · simp only [Act.put, List.setIfInBounds_toArray, List.set_cons_zero, List.set_cons_succ, i64_w, i32_w]
    rfl
  refine take_ (i := 20) (N := some 23) (v := ?_) (a' := ?_) #[I,I,O,I,I,O,I,I,O,I,I,O,I,I,O,I,I,I,O,I,I,O,O,O,O,O] rfl rfl (by kernel_rfl) (fun _ _ _ h => h) (Or.inl ⟨by rfl, ?_⟩) hHeld ?_ ?_
  rotate_left
  · rintro w' ⟨s0, s1, s2, s3, s4, s5, s6, s7, s8⟩
    go_simp
    with_reducible rfl
  rotate_left
  · simp only [Act.put, List.setIfInBounds_toArray, List.set_cons_zero, List.set_cons_succ, i64_w, i32_w]
    rfl
  refine pure_ (i := 21) (N := some 24) (v := ?_) (a' := ?_) #[I,I,O,I,I,O,I,I,O,I,I,O,I,I,O,I,I,I,O,I,I,I,O,O,O,O] rfl rfl (by kernel_rfl) (fun _ _ _ h => h) (Or.inl ⟨by rfl, ?_⟩) ?_ ?_
  rotate_left
  · intro w'
    go_simp
    with_reducible rfl
  rotate_left
  · simp only [Act.put, List.setIfInBounds_toArray, List.set_cons_zero, List.set_cons_succ, i64_w, i32_w]
    rfl
  refine one_ (i := 2) (N := some 5) #[I,I,I,I,I,O,I,I,O,I,I,O,I,I,O,I,I,I,O,I,I,I,O,O,O,O] rfl rfl (by kernel_rfl) (by decide) (fun K hK => ?_)
  refine goes_ Tryd.func20 (by kernel_rfl) rfl #[.int .i64 l.time] (by rfl) rfl rfl (by (try simp only [List.map_toArray, List.map_cons, List.map_nil]); first | done | rfl) ?_
  with_reducible refine (Cd.out _ (hHeld.2.2.2.2.2.2.2.1).out).mono ?_
  rintro e w3 ⟨rfl, hb⟩
  refine ⟨_, rfl, ?_⟩
  refine hK.out _ _ ⟨((hb.cell (World.block_lt_of_cell? _ _ (hHeld.1))).trans (hHeld.1)), ((hb.cell (World.block_lt_of_cell? _ _ (hHeld.2.1))).trans (hHeld.2.1)), ((hb.cell (World.block_lt_of_cell? _ _ (hHeld.2.2.1))).trans (hHeld.2.2.1)), ((hb.cell (World.block_lt_of_cell? _ _ (hHeld.2.2.2.1))).trans (hHeld.2.2.2.1)), ((hb.cell (World.block_lt_of_cell? _ _ (hHeld.2.2.2.2.1))).trans (hHeld.2.2.2.2.1)), ((hb.cell (World.block_lt_of_cell? _ _ (hHeld.2.2.2.2.2.1))).trans (hHeld.2.2.2.2.2.1)), ((hb.cell (World.block_lt_of_cell? _ _ (hHeld.2.2.2.2.2.2.1))).trans (hHeld.2.2.2.2.2.2.1)), Lib.hid (GL.below (hHeld.2.2.2.2.2.2.2.1).out hb), Lib.hid (below_then (hHeld.2.2.2.2.2.2.2.2).out hb)⟩ (fun hHeld => ?_)
  clear hK K
  refine norm_ (a' := ?_) ?_ ?_
  rotate_left
  · show Act.put _ (some 5) _ = _
    simp only [Act.put, List.setIfInBounds_toArray, List.set_cons_zero, List.set_cons_succ, i64_w, i32_w]
    rfl
  refine one_ (i := 5) (N := some 8) #[I,I,I,I,I,I,I,I,O,I,I,O,I,I,O,I,I,I,O,I,I,I,O,O,O,O] rfl rfl (by kernel_rfl) (by decide) (fun K hK => ?_)
  refine goes_ Tryd.func21 (by kernel_rfl) rfl #[.int .i64 l.how] (by rfl) rfl rfl (by (try simp only [List.map_toArray, List.map_cons, List.map_nil]); first | done | rfl) ?_
  with_reducible refine (Ch.out _ (hHeld.2.2.2.2.2.2.2.1).out).mono ?_
  rintro e w3 ⟨rfl, hb⟩
  refine ⟨_, rfl, ?_⟩
  refine hK.out _ _ ⟨((hb.cell (World.block_lt_of_cell? _ _ (hHeld.1))).trans (hHeld.1)), ((hb.cell (World.block_lt_of_cell? _ _ (hHeld.2.1))).trans (hHeld.2.1)), ((hb.cell (World.block_lt_of_cell? _ _ (hHeld.2.2.1))).trans (hHeld.2.2.1)), ((hb.cell (World.block_lt_of_cell? _ _ (hHeld.2.2.2.1))).trans (hHeld.2.2.2.1)), ((hb.cell (World.block_lt_of_cell? _ _ (hHeld.2.2.2.2.1))).trans (hHeld.2.2.2.2.1)), ((hb.cell (World.block_lt_of_cell? _ _ (hHeld.2.2.2.2.2.1))).trans (hHeld.2.2.2.2.2.1)), ((hb.cell (World.block_lt_of_cell? _ _ (hHeld.2.2.2.2.2.2.1))).trans (hHeld.2.2.2.2.2.2.1)), Lib.hid (GL.below (hHeld.2.2.2.2.2.2.2.1).out hb), Lib.hid (below_then (hHeld.2.2.2.2.2.2.2.2).out hb)⟩ (fun hHeld => ?_)
  clear hK K
  refine norm_ (a' := ?_) ?_ ?_
  rotate_left
  · show Act.put _ (some 8) _ = _
    simp only [Act.put, List.setIfInBounds_toArray, List.set_cons_zero, List.set_cons_succ, i64_w, i32_w]
    rfl
  refine one_ (i := 8) (N := some 11) #[I,I,I,I,I,I,I,I,I,I,I,O,I,I,O,I,I,I,O,I,I,I,O,O,O,O] rfl rfl (by kernel_rfl) (by decide) (fun K hK => ?_)
  refine goes_ Tryd.func15 (by kernel_rfl) rfl #[.string l.m] (by rfl) rfl rfl (by (try simp only [List.map_toArray, List.map_cons, List.map_nil]); first | done | rfl) ?_
  with_reducible refine (quote_any l.m HF.out.m _).mono ?_
  rintro e w3 ⟨rfl, hb⟩
  refine ⟨_, rfl, ?_⟩
  refine hK.out _ _ ⟨((hb.cell (World.block_lt_of_cell? _ _ (hHeld.1))).trans (hHeld.1)), ((hb.cell (World.block_lt_of_cell? _ _ (hHeld.2.1))).trans (hHeld.2.1)), ((hb.cell (World.block_lt_of_cell? _ _ (hHeld.2.2.1))).trans (hHeld.2.2.1)), ((hb.cell (World.block_lt_of_cell? _ _ (hHeld.2.2.2.1))).trans (hHeld.2.2.2.1)), ((hb.cell (World.block_lt_of_cell? _ _ (hHeld.2.2.2.2.1))).trans (hHeld.2.2.2.2.1)), ((hb.cell (World.block_lt_of_cell? _ _ (hHeld.2.2.2.2.2.1))).trans (hHeld.2.2.2.2.2.1)), ((hb.cell (World.block_lt_of_cell? _ _ (hHeld.2.2.2.2.2.2.1))).trans (hHeld.2.2.2.2.2.2.1)), Lib.hid (GL.below (hHeld.2.2.2.2.2.2.2.1).out hb), Lib.hid (below_then (hHeld.2.2.2.2.2.2.2.2).out hb)⟩ (fun hHeld => ?_)
  clear hK K
  refine norm_ (a' := ?_) ?_ ?_
  rotate_left
  · show Act.put _ (some 11) _ = _
    simp only [Act.put, List.setIfInBounds_toArray, List.set_cons_zero, List.set_cons_succ, i64_w, i32_w]
    rfl
  refine one_ (i := 11) (N := some 14) #[I,I,I,I,I,I,I,I,I,I,I,I,I,I,O,I,I,I,O,I,I,I,O,O,O,O] rfl rfl (by kernel_rfl) (by decide) (fun K hK => ?_)
  refine goes_ Tryd.func15 (by kernel_rfl) rfl #[.string l.h] (by rfl) rfl rfl (by (try simp only [List.map_toArray, List.map_cons, List.map_nil]); first | done | rfl) ?_
  with_reducible refine (quote_any l.h HF.out.h _).mono ?_
  rintro e w3 ⟨rfl, hb⟩
  refine ⟨_, rfl, ?_⟩
  refine hK.out _ _ ⟨((hb.cell (World.block_lt_of_cell? _ _ (hHeld.1))).trans (hHeld.1)), ((hb.cell (World.block_lt_of_cell? _ _ (hHeld.2.1))).trans (hHeld.2.1)), ((hb.cell (World.block_lt_of_cell? _ _ (hHeld.2.2.1))).trans (hHeld.2.2.1)), ((hb.cell (World.block_lt_of_cell? _ _ (hHeld.2.2.2.1))).trans (hHeld.2.2.2.1)), ((hb.cell (World.block_lt_of_cell? _ _ (hHeld.2.2.2.2.1))).trans (hHeld.2.2.2.2.1)), ((hb.cell (World.block_lt_of_cell? _ _ (hHeld.2.2.2.2.2.1))).trans (hHeld.2.2.2.2.2.1)), ((hb.cell (World.block_lt_of_cell? _ _ (hHeld.2.2.2.2.2.2.1))).trans (hHeld.2.2.2.2.2.2.1)), Lib.hid (GL.below (hHeld.2.2.2.2.2.2.2.1).out hb), Lib.hid (below_then (hHeld.2.2.2.2.2.2.2.2).out hb)⟩ (fun hHeld => ?_)
  clear hK K
  refine norm_ (a' := ?_) ?_ ?_
  rotate_left
  · show Act.put _ (some 14) _ = _
    simp only [Act.put, List.setIfInBounds_toArray, List.set_cons_zero, List.set_cons_succ, i64_w, i32_w]
    rfl
  refine one_ (i := 14) (N := some 17) #[I,I,I,I,I,I,I,I,I,I,I,I,I,I,I,I,I,I,O,I,I,I,O,O,O,O] rfl rfl (by kernel_rfl) (by decide) (fun K hK => ?_)
  refine goes_ Tryd.func15 (by kernel_rfl) rfl #[.string l.t] (by rfl) rfl rfl (by (try simp only [List.map_toArray, List.map_cons, List.map_nil]); first | done | rfl) ?_
  with_reducible refine (quote_any l.t HF.out.t _).mono ?_
  rintro e w3 ⟨rfl, hb⟩
  refine ⟨_, rfl, ?_⟩
  refine hK.out _ _ ⟨((hb.cell (World.block_lt_of_cell? _ _ (hHeld.1))).trans (hHeld.1)), ((hb.cell (World.block_lt_of_cell? _ _ (hHeld.2.1))).trans (hHeld.2.1)), ((hb.cell (World.block_lt_of_cell? _ _ (hHeld.2.2.1))).trans (hHeld.2.2.1)), ((hb.cell (World.block_lt_of_cell? _ _ (hHeld.2.2.2.1))).trans (hHeld.2.2.2.1)), ((hb.cell (World.block_lt_of_cell? _ _ (hHeld.2.2.2.2.1))).trans (hHeld.2.2.2.2.1)), ((hb.cell (World.block_lt_of_cell? _ _ (hHeld.2.2.2.2.2.1))).trans (hHeld.2.2.2.2.2.1)), ((hb.cell (World.block_lt_of_cell? _ _ (hHeld.2.2.2.2.2.2.1))).trans (hHeld.2.2.2.2.2.2.1)), Lib.hid (GL.below (hHeld.2.2.2.2.2.2.2.1).out hb), Lib.hid (below_then (hHeld.2.2.2.2.2.2.2.2).out hb)⟩ (fun hHeld => ?_)
  clear hK K
  refine norm_ (a' := ?_) ?_ ?_
  rotate_left
  · show Act.put _ (some 17) _ = _
    simp only [Act.put, List.setIfInBounds_toArray, List.set_cons_zero, List.set_cons_succ, i64_w, i32_w]
    rfl
  refine one_ (i := 18) (N := some 21) #[I,I,I,I,I,I,I,I,I,I,I,I,I,I,I,I,I,I,I,I,I,I,O,O,O,O] rfl rfl (by kernel_rfl) (by decide) (fun K hK => ?_)
  refine goes_ Tryd.func22 (by kernel_rfl) rfl #[.int .i64 n1] (by rfl) rfl rfl (by (try simp only [List.map_toArray, List.map_cons, List.map_nil]); first | done | rfl) ?_
  with_reducible refine (C1.out _ (hHeld.2.2.2.2.2.2.2.1).out).mono ?_
  rintro e w3 ⟨rfl, hb⟩
  refine ⟨_, rfl, ?_⟩
  refine hK.out _ _ ⟨((hb.cell (World.block_lt_of_cell? _ _ (hHeld.1))).trans (hHeld.1)), ((hb.cell (World.block_lt_of_cell? _ _ (hHeld.2.1))).trans (hHeld.2.1)), ((hb.cell (World.block_lt_of_cell? _ _ (hHeld.2.2.1))).trans (hHeld.2.2.1)), ((hb.cell (World.block_lt_of_cell? _ _ (hHeld.2.2.2.1))).trans (hHeld.2.2.2.1)), ((hb.cell (World.block_lt_of_cell? _ _ (hHeld.2.2.2.2.1))).trans (hHeld.2.2.2.2.1)), ((hb.cell (World.block_lt_of_cell? _ _ (hHeld.2.2.2.2.2.1))).trans (hHeld.2.2.2.2.2.1)), ((hb.cell (World.block_lt_of_cell? _ _ (hHeld.2.2.2.2.2.2.1))).trans (hHeld.2.2.2.2.2.2.1)), Lib.hid (GL.below (hHeld.2.2.2.2.2.2.2.1).out hb), Lib.hid (below_then (hHeld.2.2.2.2.2.2.2.2).out hb)⟩ (fun hHeld => ?_)
  clear hK K
  refine norm_ (a' := ?_) ?_ ?_
  rotate_left
  · show Act.put _ (some 21) _ = _
    simp only [Act.put, List.setIfInBounds_toArray, List.set_cons_zero, List.set_cons_succ, i64_w, i32_w]
    rfl
  refine one_ (i := 22) (N := some 25) #[I,I,I,I,I,I,I,I,I,I,I,I,I,I,I,I,I,I,I,I,I,I,I,O,O,O] rfl rfl (by kernel_rfl) (by decide) (fun K hK => ?_)
  refine goes_ Tryd.func22 (by kernel_rfl) rfl #[.int .i64 n2] (by rfl) rfl rfl (by (try simp only [List.map_toArray, List.map_cons, List.map_nil]); first | done | rfl) ?_
  with_reducible refine (C2.out _ (hHeld.2.2.2.2.2.2.2.1).out).mono ?_
  rintro e w3 ⟨rfl, hb⟩
  refine ⟨_, rfl, ?_⟩
  refine hK.out _ _ ⟨((hb.cell (World.block_lt_of_cell? _ _ (hHeld.1))).trans (hHeld.1)), ((hb.cell (World.block_lt_of_cell? _ _ (hHeld.2.1))).trans (hHeld.2.1)), ((hb.cell (World.block_lt_of_cell? _ _ (hHeld.2.2.1))).trans (hHeld.2.2.1)), ((hb.cell (World.block_lt_of_cell? _ _ (hHeld.2.2.2.1))).trans (hHeld.2.2.2.1)), ((hb.cell (World.block_lt_of_cell? _ _ (hHeld.2.2.2.2.1))).trans (hHeld.2.2.2.2.1)), ((hb.cell (World.block_lt_of_cell? _ _ (hHeld.2.2.2.2.2.1))).trans (hHeld.2.2.2.2.2.1)), ((hb.cell (World.block_lt_of_cell? _ _ (hHeld.2.2.2.2.2.2.1))).trans (hHeld.2.2.2.2.2.2.1)), Lib.hid (GL.below (hHeld.2.2.2.2.2.2.2.1).out hb), Lib.hid (below_then (hHeld.2.2.2.2.2.2.2.2).out hb)⟩ (fun hHeld => ?_)
  clear hK K
  refine norm_ (a' := ?_) ?_ ?_
  rotate_left
  · show Act.put _ (some 25) _ = _
    simp only [Act.put, List.setIfInBounds_toArray, List.set_cons_zero, List.set_cons_succ, i64_w, i32_w]
    rfl
  refine last_ (i := 23) (N := some 26) #[I,I,I,I,I,I,I,I,I,I,I,I,I,I,I,I,I,I,I,I,I,I,I,I,O,O] rfl rfl (by kernel_rfl) (by decide) (fun K hK => ?_)
  have hBT1 := (hHeld.2.2.2.2.2.2.2.2).out
  refine value_ (w1 := ?_) (v := ?_) (by rfl) rfl ?_ ?_
  rotate_left 2
  · go_simp
    constructor
    · rfl
    · rfl
  refine hK.out _ _ ?_
  clear hK K
  refine norm_ (a' := ?_) ?_ ?_
  rotate_left
  · show Act.put _ (some 26) _ = _
    simp only [Act.put, List.setIfInBounds_toArray, List.set_cons_zero, List.set_cons_succ, i64_w, i32_w]
    rfl
  refine last_ (i := 24) (N := some 27) #[I,I,I,I,I,I,I,I,I,I,I,I,I,I,I,I,I,I,I,I,I,I,I,I,I,O] rfl rfl (by kernel_rfl) (by decide) (fun K hK => ?_)
  refine goes_ Tryd.func19 (by kernel_rfl) rfl #[.slice (some ⟨w3.heap.size, 0, none⟩) 7 7, .string ⟨#[32]⟩] (by rfl) rfl rfl (by (try simp only [List.map_toArray, List.map_cons, List.map_nil]); first | done | rfl) ?_
  with_reducible refine (Cj.out w3).mono ?_
  rintro e w4 ⟨rfl, hb4⟩
  refine ⟨_, rfl, ?_⟩
  have hBT := below_then hBT1 hb4
  refine hK.out _ _ ?_
  clear hK K
  refine norm_ (a' := ?_) ?_ ?_
  rotate_left
  · show Act.put _ (some 27) _ = _
    simp only [Act.put, List.setIfInBounds_toArray, List.set_cons_zero, List.set_cons_succ, i64_w, i32_w]
    rfl
  refine pure_ (i := 25) (N := some 2) (v := ?_) (a' := ?_) #[I,I,I,I,I,I,I,I,I,I,I,I,I,I,I,I,I,I,I,I,I,I,I,I,I,I] rfl rfl (by kernel_rfl) (fun _ _ _ h => h) (Or.inl ⟨by rfl, ?_⟩) ?_ ?_
  rotate_left
  · intro w'
    go_simp
    with_reducible rfl
  rotate_left
  · simp only [Act.put, List.setIfInBounds_toArray, List.set_cons_zero, List.set_cons_succ, i64_w, i32_w]
    rfl
  refine done_ (by kernel_rfl) ?_
--END
  clear hHeld
  go_wp2_with fail
  go_ret
  exact ⟨rfl, hBT⟩
end Go.Proofs.YtcdbnphhoihldaaDoor.Line
/- The dates' reader: Parse. -/
namespace Go.Proofs.YtcdbnphhoihldaaDoor.X
open Go.RowKit Go.Proofs.YtcdbnphhoihldaaDoorW.PrintWords Go.Proofs.YtcdbnphhoihldaaDoorW.PrintLast Go.Proofs.YtcdbnphhoihldaaDoorW.PrintMore
set_option linter.unusedVariables false
set_option maxRecDepth 100000
set_option linter.unusedSimpArgs false

/-- One moment, held against a text. -/
def parseOne (k : Nat) (a0 : ByteArray) (y mo d ho mi s : Int) : Option (Int × Int) :=
  (date_moment_right.f y mo d ho mi s).bind fun b => if b = true then
    (date_moment_seconds.f k y mo d ho mi s).bind fun t => (date_of.f k t).bind fun z => (date_Text.f k t).bind fun a =>
      if a0 = a then some (t, 0) else (date_late.f y mo d ho mi s z.2.2.2.2.2.2).bind fun b => (date_plain.f y mo d ho mi s z.2.2.2.2.2.2).bind fun c =>
        if (a0 = b ∧ 1970 ≤ y ∧ y < 2070) ∨ a0 = c then some (t, 0) else some (0, 80)
  else some (0, 80)
def date_Parse.f (k : Nat) (a0 : ByteArray) : Option (Int × Int) := (date_candidates.f k a0).bind fun l => match l with
  | [m] => parseOne k a0 m.f0 m.f1 m.f2 m.f3 m.f4 m.f5
  | _ => none
theorem parseOne.mono : ∀ a0 y mo d ho mi s k, LeO (parseOne k a0 y mo d ho mi s) (parseOne (k + 1) a0 y mo d ho mi s) := fun a0 y mo d ho mi s k =>
  LeO.bind (LeO.refl _) fun b => LeO.ite (LeO.bind (date_moment_seconds.mono _ _ _ _ _ _ _) fun t => LeO.bind (date_of.mono _ _) fun z => LeO.bind (date_Text.mono _ _) fun a => LeO.refl _) (LeO.refl _)
theorem date_Parse.mono : ∀ a0 k, LeO (date_Parse.f k a0) (date_Parse.f (k + 1) a0) := fun a0 k => LeO.bind (date_candidates.mono _ _) fun l => by
  split
  · exact parseOne.mono _ _ _ _ _ _ _ _
  · exact LeO.refl _

/-- A moment's six cells. -/
def Six (w : World) (g : Nat) (y mo d ho mi s : Int) : Prop := w.cell? ⟨g, 0, none⟩ = some (.int .i64 y) ∧ w.cell? ⟨g, 1, none⟩ = some (.int .i64 mo) ∧ w.cell? ⟨g, 2, none⟩ = some (.int .i64 d) ∧ w.cell? ⟨g, 3, none⟩ = some (.int .i64 ho) ∧ w.cell? ⟨g, 4, none⟩ = some (.int .i64 mi) ∧ w.cell? ⟨g, 5, none⟩ = some (.int .i64 s)
theorem Six.below {w w' : World} {g : Nat} {y mo d ho mi s : Int} (h : Six w g y mo d ho mi s) (hb : Below w.heap.size w w') : Six w' g y mo d ho mi s :=
  ⟨pw_cell_below hb h.1, pw_cell_below hb h.2.1, pw_cell_below hb h.2.2.1, pw_cell_below hb h.2.2.2.1, pw_cell_below hb h.2.2.2.2.1, pw_cell_below hb h.2.2.2.2.2⟩
theorem Six.new (w : World) (y mo d ho mi s : Int) (t : Nat) : Six (w.alloc (.cells #[.int .i64 y, .int .i64 mo, .int .i64 d, .int .i64 ho, .int .i64 mi, .int .i64 s] t)) w.heap.size y mo d ho mi s :=
  ⟨World.cell?_alloc_new .., World.cell?_alloc_new .., World.cell?_alloc_new .., World.cell?_alloc_new .., World.cell?_alloc_new .., World.cell?_alloc_new ..⟩
theorem one_cells {w : World} {base : Nat} {ok : Nat → Prop} {v : Value} {m : S76} (h : Kd.R k76 76 w base ok v [m]) :
    ∃ g c, v = .slice (some ⟨g, 0, none⟩) 1 c ∧ Six w g m.f0 m.f1 m.f2 m.f3 m.f4 m.f5 := by
  obtain ⟨inner, ho⟩ := Kd.R_own h
  obtain ⟨g, c, hv, _⟩ := ho.form (by simp)
  refine ⟨g, c, hv, ?_⟩
  rw [hv] at h
  obtain ⟨ad, ea, h0, h1, h2, h3, h4, h5⟩ := at_T76 (Kd.R_reads' h).2.2 0 (by decide) (by simp)
  obtain rfl := Option.some.inj ea
  exact ⟨h0, h1, h2, h3, h4, h5⟩
theorem below_of {w w1 : World} (h : Below w.heap.size w w1) (o : Obj) : Below w.heap.size w (w1.alloc o) := h.alloc h.size o

set_option maxHeartbeats 4000000 in
theorem date_Parse.calls (k : Nat) (a0 : ByteArray) (r1 r2 : Int) (w : World) (hG : GL w) (h : date_Parse.f k a0 = some (r1, r2)) :
    Calls Tryd.prog 26 #[.string a0] w fun e w' => e = .returned (.tuple #[.int .i64 r1, .int .i64 r2]) ∧ Below w.heap.size w w' := by
  have hu := Tryd.underlying76
  obtain ⟨l, hl, h⟩ := Option.bind_eq_some_iff.mp h
  split at h
  case h_2 => cases h
  rename_i m
  obtain ⟨y, mo, d, ho, mi, s⟩ := m
  simp only [parseOne] at h
  obtain ⟨b, hb, h⟩ := Option.bind_eq_some_iff.mp h
  have HG := Lib.hid hG
  clear hG
  have Cc := Lib.hid (fun W hW => date_candidates.calls k a0 _ W hW hl)
  have Cr := Lib.hid (fun W => date_moment_right.calls y mo d ho mi s b W hb)
  clear hl hb
  cases b with
  | false =>
    simp only [Bool.false_eq_true, if_false] at h
    obtain ⟨rfl, rfl⟩ := Prod.mk.inj (Option.some.inj h)
    clear h
    go_enter Tryd.func26, Tryd.ntmps26
    go_wp2_with fail
    refine (Cc.out _ HG.out).mono ?_
    rintro e w1 ⟨v, rfl, hR, hb1⟩
    obtain ⟨g, c, rfl, q0, q1, q2, q3, q4, q5⟩ := one_cells hR
    have HB1 := Lib.hid hb1
    clear hR hb1
    go_wp2_with fail
    refine wp_loop_rounds 2 ?_
    rw [rounds_succ]
    go_wp2_with fail
    with_reducible refine (Cr.out _).mono ?_
    rintro e w2 ⟨rfl, hb2⟩
    have HB2 := Lib.hid (below_then (below_of HB1.out _) hb2)
    clear hb2
    go_wp2_with fail
    rw [rounds_succ]
    go_wp2_with fail
    go_ret2
    exact ⟨rfl, HB2.out⟩
  | true =>
    simp only [if_true] at h
    obtain ⟨t, ht, h⟩ := Option.bind_eq_some_iff.mp h
    obtain ⟨⟨y2, mo2, d2, ho2, mi2, s2, wd⟩, hof, h⟩ := Option.bind_eq_some_iff.mp h
    obtain ⟨a, hta, h⟩ := Option.bind_eq_some_iff.mp h
    have Cs := Lib.hid (fun W => date_moment_seconds.calls k y mo d ho mi s t W ht)
    have Co := Lib.hid (fun W => date_of.calls k t y2 mo2 d2 ho2 mi2 s2 wd W hof)
    have Ct := Lib.hid (fun W hW => date_Text.calls k t a W hW hta)
    clear ht hof hta
    have hcase : (a0.toList == a.toList) = true ∧ r1 = t ∧ r2 = 0 ∨ (a0.toList == a.toList) = false ∧ ∃ b c, date_late.f y mo d ho mi s wd = some b ∧ date_plain.f y mo d ho mi s wd = some c ∧ (if (a0 = b ∧ 1970 ≤ y ∧ y < 2070) ∨ a0 = c then some (t, 0) else some (0, 80)) = some (r1, r2) := by
      split at h
      · rename_i e
        obtain ⟨rfl, rfl⟩ := Prod.mk.inj (Option.some.inj h)
        exact .inl ⟨by rw [e]; simp, rfl, rfl⟩
      · rename_i e
        obtain ⟨b, hb, h⟩ := Option.bind_eq_some_iff.mp h
        obtain ⟨c, hc, h⟩ := Option.bind_eq_some_iff.mp h
        exact .inr ⟨(Lib.bytes_beq_false_iff _ _).2 e, b, c, hb, hc, h⟩
    clear h
    rcases hcase with ⟨he, rfl, rfl⟩ | ⟨he, b, c, hb, hc, h⟩
    · go_enter Tryd.func26, Tryd.ntmps26
      go_wp2_with fail
      refine (Cc.out _ HG.out).mono ?_
      rintro e w1 ⟨v, rfl, hR, hb1⟩
      obtain ⟨g, c, rfl, q0, q1, q2, q3, q4, q5⟩ := one_cells hR
      have HB1 := Lib.hid hb1
      clear hR hb1
      go_wp2_with fail
      refine wp_loop_rounds 2 ?_
      rw [rounds_succ]
      go_wp2_with fail
      with_reducible refine (Cr.out _).mono ?_
      rintro e w2 ⟨rfl, hb2⟩
      have HB2 := Lib.hid (below_then (below_of HB1.out _) hb2)
      have S2 := Lib.hid ((Six.new w1 y mo d ho mi s 76).below hb2)
      clear hb2 q0 q1 q2 q3 q4 q5
      obtain ⟨q0, q1, q2, q3, q4, q5⟩ := S2.out
      go_wp2_with fail
      with_reducible refine (Cs.out _).mono ?_
      rintro e w3 ⟨rfl, hb3⟩
      have HB3 := Lib.hid (below_then HB2.out hb3)
      clear hb3 q0 q1 q2 q3 q4 q5
      go_wp2_with fail
      with_reducible refine (Co.out _).mono ?_
      rintro e w4 ⟨rfl, hb4⟩
      have HB4 := Lib.hid (below_then HB3.out hb4)
      clear hb4
      go_wp2_with fail
      refine (Ct.out _ (HG.out.below (below_of HB4.out _))).mono ?_
      rintro e w5 ⟨rfl, hb5⟩
      have HB5 := Lib.hid (below_then (below_of HB4.out _) hb5)
      clear hb5
      go_wp2_with fail
      go_ret2
      exact ⟨rfl, HB5.out⟩
    · have Cl := Lib.hid (fun W hW => date_late.calls y mo d ho mi s wd b W hW hb)
      have Cp := Lib.hid (fun W hW => date_plain.calls y mo d ho mi s wd c W hW hc)
      clear hb hc
      have hcase : (a0.toList == b.toList) = true ∧ decide (1970 ≤ y) = true ∧ decide (y < 2070) = true ∧ r1 = t ∧ r2 = 0 ∨
          ((a0.toList == b.toList) = false ∨ (a0.toList == b.toList) = true ∧ decide (1970 ≤ y) = false ∨ (a0.toList == b.toList) = true ∧ decide (1970 ≤ y) = true ∧ decide (y < 2070) = false) ∧
            ((a0.toList == c.toList) = true ∧ r1 = t ∧ r2 = 0 ∨ (a0.toList == c.toList) = false ∧ r1 = 0 ∧ r2 = 80) := by
        by_cases e1 : a0 = b
        · have z1 : (a0.toList == b.toList) = true := by rw [e1]; simp
          by_cases y0 : 1970 ≤ y
          · by_cases y1 : y < 2070
            · rw [if_pos (.inl ⟨e1, y0, y1⟩)] at h
              obtain ⟨rfl, rfl⟩ := Prod.mk.inj (Option.some.inj h)
              exact .inl ⟨z1, decide_eq_true y0, decide_eq_true y1, rfl, rfl⟩
            · refine .inr ⟨.inr (.inr ⟨z1, decide_eq_true y0, decide_eq_false y1⟩), ?_⟩
              by_cases e2 : a0 = c
              · rw [if_pos (.inr e2)] at h
                obtain ⟨rfl, rfl⟩ := Prod.mk.inj (Option.some.inj h)
                exact .inl ⟨by rw [e2]; simp, rfl, rfl⟩
              · rw [if_neg (fun z => z.elim (fun z => y1 z.2.2) e2)] at h
                obtain ⟨rfl, rfl⟩ := Prod.mk.inj (Option.some.inj h)
                exact .inr ⟨(Lib.bytes_beq_false_iff _ _).2 e2, rfl, rfl⟩
          · refine .inr ⟨.inr (.inl ⟨z1, decide_eq_false y0⟩), ?_⟩
            by_cases e2 : a0 = c
            · rw [if_pos (.inr e2)] at h
              obtain ⟨rfl, rfl⟩ := Prod.mk.inj (Option.some.inj h)
              exact .inl ⟨by rw [e2]; simp, rfl, rfl⟩
            · rw [if_neg (fun z => z.elim (fun z => y0 z.2.1) e2)] at h
              obtain ⟨rfl, rfl⟩ := Prod.mk.inj (Option.some.inj h)
              exact .inr ⟨(Lib.bytes_beq_false_iff _ _).2 e2, rfl, rfl⟩
        · refine .inr ⟨.inl ((Lib.bytes_beq_false_iff _ _).2 e1), ?_⟩
          by_cases e2 : a0 = c
          · rw [if_pos (.inr e2)] at h
            obtain ⟨rfl, rfl⟩ := Prod.mk.inj (Option.some.inj h)
            exact .inl ⟨by rw [e2]; simp, rfl, rfl⟩
          · rw [if_neg (fun z => z.elim (fun z => e1 z.1) e2)] at h
            obtain ⟨rfl, rfl⟩ := Prod.mk.inj (Option.some.inj h)
            exact .inr ⟨(Lib.bytes_beq_false_iff _ _).2 e2, rfl, rfl⟩
      clear h
      go_enter Tryd.func26, Tryd.ntmps26
      go_wp2_with fail
      refine (Cc.out _ HG.out).mono ?_
      rintro e w1 ⟨v, rfl, hR, hb1⟩
      obtain ⟨g, cc, rfl, q0, q1, q2, q3, q4, q5⟩ := one_cells hR
      have HB1 := Lib.hid hb1
      have HC := Lib.hid hcase
      clear hR hb1 hcase
      go_wp2_with fail
      refine wp_loop_rounds 2 ?_
      rw [rounds_succ]
      go_wp2_with fail
      with_reducible refine (Cr.out _).mono ?_
      rintro e w2 ⟨rfl, hb2⟩
      have HB2 := Lib.hid (below_then (below_of HB1.out _) hb2)
      have S2 := Lib.hid ((Six.new w1 y mo d ho mi s 76).below hb2)
      clear hb2 q0 q1 q2 q3 q4 q5
      obtain ⟨q0, q1, q2, q3, q4, q5⟩ := S2.out
      go_wp2_with fail
      with_reducible refine (Cs.out _).mono ?_
      rintro e w3 ⟨rfl, hb3⟩
      have HB3 := Lib.hid (below_then HB2.out hb3)
      have S3 := Lib.hid (S2.out.below hb3)
      clear hb3 q0 q1 q2 q3 q4 q5
      go_wp2_with fail
      with_reducible refine (Co.out _).mono ?_
      rintro e w4 ⟨rfl, hb4⟩
      have HB4 := Lib.hid (below_then HB3.out hb4)
      have S4 := Lib.hid (S3.out.below hb4)
      clear hb4
      go_wp2_with fail
      refine (Ct.out _ (HG.out.below (below_of HB4.out _))).mono ?_
      rintro e w5 ⟨rfl, hb5⟩
      have HB5 := Lib.hid (below_then (below_of HB4.out _) hb5)
      have S5 := Lib.hid ((S4.out.below ((Below.refl _ _).alloc (Nat.le_refl _) _)).below hb5)
      clear hb5
      obtain ⟨q0, q1, q2, q3, q4, q5⟩ := S5.out
      go_wp2_with fail
      refine (Cl.out _ (HG.out.below HB5.out)).mono ?_
      rintro e w6 ⟨rfl, hb6⟩
      have HB6 := Lib.hid (below_then HB5.out hb6)
      have S6 := Lib.hid (S5.out.below hb6)
      clear hb6 q0 q1 q2 q3 q4 q5
      obtain ⟨q0, q1, q2, q3, q4, q5⟩ := S6.out
      rcases HC.out with ⟨z1, z2, z3, rfl, rfl⟩ | ⟨hz, hc⟩
      · go_wp2_with fail
        go_ret2
        exact ⟨rfl, HB6.out⟩
      · rcases hz with z1 | ⟨z1, z2⟩ | ⟨z1, z2, z3⟩
        all_goals
          go_wp2_with fail
          refine (Cp.out _ (HG.out.below HB6.out)).mono ?_
          rintro e w7 ⟨rfl, hb7⟩
          have HB7 := Lib.hid (below_then HB6.out hb7)
          clear hb7
          rcases hc with ⟨x1, rfl, rfl⟩ | ⟨x1, rfl, rfl⟩
          · go_wp2_with fail
            go_ret2
            exact ⟨rfl, HB7.out⟩
          · go_wp2_with fail
            rw [rounds_succ]
            go_wp2_with fail
            go_ret2
            exact ⟨rfl, HB7.out⟩
end Go.Proofs.YtcdbnphhoihldaaDoor.X
/- Plain Lean: what the printed functions of dates read. -/
namespace Go.Proofs.YtcdbnphhoihldaaDoor.Pure
open Go.RowKit Go.Proofs.YtcdbnphhoihldaaDoor.X Go.Proofs.YtcdbnphhoihldaaDoor.Cal Go.Proofs.YtcdbnphhoihldaaDoorW.PrintWords Go.Proofs.YtcdbnphhoihldaaDoorW.PrintLast Go.Proofs.YtcdbnphhoihldaaDoorW.PrintMore
set_option linter.unusedVariables false
set_option linter.unusedSimpArgs false

/-! ### number -/
/-- One byte more. -/
def stepD (n : Int) (b : UInt8) : Int := if 48 ≤ (b.toNat : Int) ∧ (b.toNat : Int) ≤ 57 then 10 * n + ((b.toNat : Int) - 48) else n
def numS (l : List UInt8) (at_ size : Nat) : Int := ((l.drop at_).take size).foldl stepD 0
def bnd : Nat → Int
  | 0 => 100000000
  | c + 1 => bnd c / 10
theorem bnd_le : ∀ c, bnd c ≤ 100000000
  | 0 => by decide
  | c + 1 => by have := bnd_le c; simp only [bnd]; omega
theorem bt_getD (s : ByteArray) (i : Int) (h0 : 0 ≤ i) (h1 : i < s.size) : ∃ b, s.data.toList[i.toNat]? = some b ∧ bt s i = (b.toNat : Int) := by
  have h : i.toNat < s.size := by omega
  refine ⟨s[i.toNat], Lib.data_getElem? s _ h, (bt_at s i h).symm⟩
theorem num_l0 (s : ByteArray) (x1 x2 : Int) (h1 : 0 ≤ x1) (h2 : x1 ≤ 1000000000000) (h3 : 0 ≤ x2) (h4 : x2 ≤ 4) (c : Nat) : ∀ (n i : Int), (c : Int) = x1 + x2 - i → x1 ≤ i → 0 ≤ n → n + 1 ≤ bnd c →
    Ev (fun k => date_reader_number.l0 k x1 x2 n i s) (((s.data.toList.drop i.toNat).take c).foldl stepD n) ∧ 0 ≤ ((s.data.toList.drop i.toNat).take c).foldl stepD n ∧ ((s.data.toList.drop i.toNat).take c).foldl stepD n + 1 ≤ bnd 0 := by
  induction c with
  | zero =>
    intro n i hc hi hn hb
    refine ⟨?_, by simpa using hn, by simpa using hb⟩
    refine Ev.step (f := fun k => date_reader_number.j1 k x1 x2 n i false s) (fun k => ?_) (Ev.step (f := fun _ => some _) (fun k => ?_) (Ev.now _))
    · simp only [date_reader_number.l0]
      rw [w64 (x := x1 + x2) (by omega) (by omega), if_neg (by omega)]
    · simp only [date_reader_number.j1]
      simp
  | succ c ih =>
    intro n i hc hi hn hb
    have hlt : i < x1 + x2 := by omega
    have hbc := bnd_le c
    have hb2 : 10 * n + 10 ≤ bnd c := by simp only [bnd] at hb; omega
    have e1 : (i + 1).toNat = i.toNat + 1 := by omega
    by_cases hs : i < s.size
    · obtain ⟨b, hbl, hbt⟩ := bt_getD s i (by omega) hs
      have hbb := b.toNat_lt
      have hd : (s.data.toList.drop i.toNat).take (c + 1) = b :: (s.data.toList.drop (i + 1).toNat).take c := by
        rw [e1]
        have hlt' : i.toNat < s.data.toList.length := (List.getElem?_eq_some_iff.1 hbl).1
        rw [List.drop_eq_getElem_cons hlt', List.take_succ_cons]
        congr 1
        exact (List.getElem?_eq_some_iff.1 hbl).2
      rw [hd, List.foldl_cons]
      have hst : 0 ≤ stepD n b ∧ stepD n b + 1 ≤ bnd c := by unfold stepD; split <;> omega
      obtain ⟨hev, hr⟩ := ih (stepD n b) (i + 1) (by omega) (by omega) hst.1 hst.2
      refine ⟨?_, hr⟩
      refine Ev.step (f := fun k => date_reader_number.j1 k x1 x2 n i true s) (fun k => ?_) (Ev.step (f := fun k => date_reader_number.l0 k x1 x2 (stepD n b) (i + 1) s) (fun k => ?_) hev)
      · simp only [date_reader_number.l0]
        rw [w64 (x := x1 + x2) (by omega) (by omega), if_pos hlt, decide_eq_true hs]
      · simp only [date_reader_number.j1, if_true]
        rw [if_pos (by omega), if_pos hs, hbt, w64 (x := i + 1) (by omega) (by omega)]
        unfold stepD
        by_cases c1 : (b.toNat : Int) ≥ 48
        · by_cases c2 : (b.toNat : Int) ≤ 57
          · rw [if_pos c1, if_pos c2, if_pos ⟨c1, c2⟩, w64 (x := 10 * n) (by omega) (by omega), w64 (by omega) (by omega)]
            congr 1
            omega
          · rw [if_pos c1, if_neg c2, if_neg (fun z => c2 z.2)]
        · rw [if_neg c1, if_neg (fun z => c1 z.1)]
    · have hd : (s.data.toList.drop i.toNat).take (c + 1) = [] := by
        have h9 : s.data.toList.length = s.size := by simp
        have : s.data.toList.length ≤ i.toNat := by omega
        rw [List.drop_eq_nil_of_le this]
        rfl
      rw [hd]
      refine ⟨?_, by simpa using hn, by have e0 : bnd 0 = 100000000 := rfl; rw [e0]; simp; omega⟩
      refine Ev.step (f := fun k => date_reader_number.j1 k x1 x2 n i false s) (fun k => ?_) (Ev.step (f := fun _ => some _) (fun k => ?_) (Ev.now _))
      · simp only [date_reader_number.l0]
        rw [w64 (x := x1 + x2) (by omega) (by omega), if_pos hlt, decide_eq_false hs]
      · simp only [date_reader_number.j1]
        simp
theorem num_ev (s : ByteArray) (i : Int) (sz : Nat) (h0 : 0 ≤ i) (h1 : i ≤ 1000000000000) (h2 : sz ≤ 4) :
    Ev (fun k => date_reader_number.f k s i sz) (numS s.data.toList i.toNat sz) ∧ 0 ≤ numS s.data.toList i.toNat sz ∧ numS s.data.toList i.toNat sz ≤ 99999999 := by
  have hb : (0 : Int) + 1 ≤ bnd sz := by
    match sz, h2 with
    | 0, _ | 1, _ | 2, _ | 3, _ | 4, _ => decide
  obtain ⟨a, b, c⟩ := num_l0 s i sz h0 h1 (by omega) (by omega) sz 0 i (by omega) (by omega) (by omega) hb
  have e0 : bnd 0 = 100000000 := rfl
  rw [e0] at c
  exact ⟨a, b, by unfold numS; omega⟩

/-! ### month -/
/-- A short month's number, -1 for another text. -/
def mIdx (x : List UInt8) : Int := Lib.idxOfS shortMonths (X.bytes x)
theorem mIdx_m3 (m : Int) (h0 : 0 ≤ m) (h1 : m < 12) : mIdx (m3 m) = m := by
  obtain ⟨k, rfl⟩ := Int.eq_ofNat_of_zero_le h0
  match k, h1 with
  | 0, _ | 1, _ | 2, _ | 3, _ | 4, _ | 5, _ | 6, _ | 7, _ | 8, _ | 9, _ | 10, _ | 11, _ => decide
  | k + 12, h => omega
theorem m3_len (m : Int) (h0 : 0 ≤ m) (h1 : m < 12) : (m3 m).length = 3 := by
  have := shortMonth_size h0 h1
  unfold m3
  simpa using this
def monS (l : List UInt8) (at_ : Nat) : Int := if l.length < at_ + 3 then -1 else mIdx ((l.drop at_).take 3)
theorem month_f (s : ByteArray) (i : Int) (h0 : 0 ≤ i) (h1 : i ≤ 1000000000000) : date_reader_month.f s i = some (monS s.data.toList i.toNat) := by
  unfold date_reader_month.f monS
  have hl : s.data.toList.length = s.size := by simp
  rw [if_pos (by omega), hl]
  by_cases c : (s.size : Int) < i + 3
  · rw [if_pos c, if_pos (by omega)]
  · rw [if_neg c, if_neg (by omega)]
    unfold mIdx
    rw [eq_bytes s, extract_bytes, bytes_list]
    congr 4
    omega
/-! ### right, and one moment -/
theorem right_f (y mo d h mi s : Int) (hm : mo < 12) (hh : 0 ≤ h) (hmi : 0 ≤ mi) (hs : 0 ≤ s) : ∃ b, date_moment_right.f y mo d h mi s = some b ∧ (b = true ↔ Tm y mo d h mi s) := by
  unfold date_moment_right.f
  by_cases c1 : y ≥ 1970
  · rw [if_pos c1]
    by_cases c2 : y ≤ 9999
    · rw [if_pos c2]
      by_cases c3 : mo ≥ 0
      · rw [if_pos c3]
        by_cases c4 : d ≥ 1
        · rw [if_pos c4, length_f y mo (by omega)]
          simp only [Option.bind_some]
          by_cases c5 : d ≤ len y mo
          · rw [if_pos c5]
            by_cases c6 : h ≤ 23
            · rw [if_pos c6]
              by_cases c7 : mi ≤ 59
              · rw [if_pos c7]
                refine ⟨_, rfl, ?_⟩
                rw [decide_eq_true_iff]
                exact ⟨fun c8 => ⟨⟨c1, c2, c3, hm, c4, c5⟩, hh, c6, hmi, c7, hs, c8⟩, fun t => t.s1⟩
              · rw [if_neg c7]
                exact ⟨_, rfl, by simp; exact fun t => c7 t.mi1⟩
            · rw [if_neg c6]
              exact ⟨_, rfl, by simp; exact fun t => c6 t.h1⟩
          · rw [if_neg c5]
            exact ⟨_, rfl, by simp; exact fun t => c5 t.ok.d1⟩
        · rw [if_neg c4]
          exact ⟨_, rfl, by simp; exact fun t => c4 t.ok.d0⟩
      · rw [if_neg c3]
        exact ⟨_, rfl, by simp; exact fun t => c3 t.ok.m0⟩
    · rw [if_neg c2]
      exact ⟨_, rfl, by simp; exact fun t => c2 t.ok.y1⟩
  · rw [if_neg c1]
    exact ⟨_, rfl, by simp; exact fun t => c1 t.ok.y0⟩
/-- A text is one of a moment's three. -/
def Says (s : ByteArray) (y mo d h mi sc : Int) : Prop :=
  s = X.bytes (T1 y mo d h mi sc (wk y mo d)) ∨ s = X.bytes (T2 y mo d h mi sc (wk y mo d)) ∧ y < 2070 ∨ s = X.bytes (T3 y mo d h mi sc (wk y mo d))
/-- The end of one moment's trial. -/
def fin (a0 : ByteArray) (y mo d h mi s : Int) (t : Int) (z : Int × Int × Int × Int × Int × Int × Int) (a : ByteArray) : Option (Int × Int) :=
  if a0 = a then some (t, 0) else (date_late.f y mo d h mi s z.2.2.2.2.2.2).bind fun b => (date_plain.f y mo d h mi s z.2.2.2.2.2.2).bind fun c =>
        if (a0 = b ∧ 1970 ≤ y ∧ y < 2070) ∨ a0 = c then some (t, 0) else some (0, 80)
theorem one_ev (a0 : ByteArray) {y mo d h mi s : Int} (t : Tm y mo d h mi s) {r : Int × Int} (hr : fin a0 y mo d h mi s (sec y mo d h mi s) (y, mo, d, h, mi, s, wk y mo d) (X.bytes (T1 y mo d h mi s (wk y mo d))) = some r) :
    Ev (fun k => parseOne k a0 y mo d h mi s) r := by
  obtain ⟨b, hb, hbt⟩ := right_f y mo d h mi s t.ok.m1 t.h0 t.mi0 t.s0
  obtain rfl := hbt.2 t
  obtain ⟨h0, h1, hof⟩ := of_sec t
  have hsec : Ev (fun k => date_moment_seconds.f k y mo d h mi s) (sec y mo d h mi s) := sec_ev y mo d h mi s t.ok ⟨t.h0, t.h1⟩ ⟨t.mi0, t.mi1⟩ ⟨t.s0, t.s1⟩
  have htx := text_ev t (cl_id h0 h1)
  refine Ev.congr (f := fun k => (date_moment_seconds.f k y mo d h mi s).bind fun t => (date_of.f k t).bind fun z => (date_Text.f k t).bind fun a => fin a0 y mo d h mi s t z a) (fun k => ?_) ?_
  · simp only [parseOne, hb, Option.bind_some, if_true]
    rfl
  refine Ev.bind (f := fun k t => (date_of.f k t).bind fun z => (date_Text.f k t).bind fun a => fin a0 y mo d h mi s t z a) hsec ?_
  refine Ev.bind (f := fun k z => (date_Text.f k (sec y mo d h mi s)).bind fun a => fin a0 y mo d h mi s (sec y mo d h mi s) z a) hof ?_
  refine Ev.bind (f := fun k a => fin a0 y mo d h mi s (sec y mo d h mi s) (y, mo, d, h, mi, s, wk y mo d) a) htx ?_
  exact Ev.congr (fun k => hr) (Ev.now _)
theorem one_yes (a0 : ByteArray) {y mo d h mi s : Int} (t : Tm y mo d h mi s) (hs : Says a0 y mo d h mi s) : Ev (fun k => parseOne k a0 y mo d h mi s) (sec y mo d h mi s, 0) := by
  refine one_ev a0 t ?_
  unfold fin
  simp only
  rw [late_f t _ (wk0 y mo d), plain_f t _ (wk0 y mo d)]
  simp only [Option.bind_some]
  rcases hs with hs | ⟨hs, hy⟩ | hs
  · rw [if_pos hs]
  · split
    · rfl
    · rw [if_pos (.inl ⟨hs, t.ok.y0, hy⟩)]
  · split
    · rfl
    · rw [if_pos (.inr hs)]
end Go.Proofs.YtcdbnphhoihldaaDoor.Pure
/- Plain Lean: what date.Parse makes of any text. -/
namespace Go.Proofs.YtcdbnphhoihldaaDoor.Pure
open Go.RowKit Go.Proofs.YtcdbnphhoihldaaDoor.X Go.Proofs.YtcdbnphhoihldaaDoor.Cal Go.Proofs.YtcdbnphhoihldaaDoorW.PrintWords Go.Proofs.YtcdbnphhoihldaaDoorW.PrintLast Go.Proofs.YtcdbnphhoihldaaDoorW.PrintMore
set_option linter.unusedVariables false
set_option linter.unusedSimpArgs false

theorem idx_hit : ∀ (l r : List UInt8), (∀ b ∈ l, b ≠ 44) → Lib.indexByte (l ++ 44 :: r) 44 = l.length
  | [], r, _ => by simp [Lib.indexByte]
  | b :: l, r, h => by
    have hb : b ≠ 44 := h b (by simp)
    have ih := idx_hit l r (fun x hx => h x (by simp [hx]))
    have hn : ((l.length : Int) == -1) = false := by simp
    simp only [List.cons_append, Lib.indexByte, ih, hn]
    simp [hb]
theorem idx_none : ∀ (l : List UInt8), (∀ b ∈ l, b ≠ 44) → Lib.indexByte l 44 = -1
  | [], _ => rfl
  | b :: l, h => by
    have hb : b ≠ 44 := h b (by simp)
    have ih := idx_none l (fun x hx => h x (by simp [hx]))
    simp [Lib.indexByte, hb, ih]
theorem idx_range : ∀ (l : List UInt8) (c : UInt8), -1 ≤ Lib.indexByte l c ∧ Lib.indexByte l c < (l.length : Int) 
  | [], _ => by simp [Lib.indexByte]
  | b :: l, c => by
    have ih := idx_range l c
    simp only [Lib.indexByte, List.length_cons]
    split
    · omega
    · split
      · omega
      · omega

/-- A year of two digits. -/
def yr (n : Int) : Int := if n + 1900 < 1970 then n + 2000 else n + 1900
/-- What is read ahead of the trial. -/
def candI (l : List UInt8) (i : Int) : S76 :=
  if i < 0 then ⟨numS l 20 4, monS l 4, numS l 8 2, numS l 11 2, numS l 14 2, numS l 17 2⟩
  else if i = 3 then ⟨numS l 12 4, monS l 8, numS l 5 2, numS l 17 2, numS l 20 2, numS l 23 2⟩
  else ⟨yr (numS l (i + 9).toNat 2), monS l (i + 5).toNat, numS l (i + 2).toNat 2, numS l (i + 12).toNat 2, numS l (i + 15).toNat 2, numS l (i + 18).toNat 2⟩
theorem numS_nn (l : List UInt8) (a sz : Nat) : 0 ≤ numS l a sz := by
  unfold numS
  have : ∀ (l : List UInt8) (n : Int), 0 ≤ n → 0 ≤ l.foldl stepD n := by
    intro l
    induction l with
    | nil => intro n h; exact h
    | cons b l ih => intro n h; exact ih _ (by unfold stepD; split <;> omega)
  exact this _ _ (by omega)
theorem num_e (s : ByteArray) (i : Int) (sz : Nat) (h0 : 0 ≤ i) (h1 : i ≤ 1000000000000) (h2 : sz ≤ 4) : Ev (fun k => date_reader_number.f k s i sz) (numS s.data.toList i.toNat sz) := (num_ev s i sz h0 h1 h2).1
theorem num_hi (s : ByteArray) (i : Int) (sz : Nat) (h0 : 0 ≤ i) (h1 : i ≤ 1000000000000) (h2 : sz ≤ 4) : numS s.data.toList i.toNat sz ≤ 99999999 := (num_ev s i sz h0 h1 h2).2.2
theorem clockE (s : ByteArray) (y mo d i : Int) (h0 : 0 ≤ i) (h1 : i ≤ 100000000000) :
    Ev (fun k => date_reader_clock.f k s y mo d 0 0 0 i) (y, mo, d, numS s.data.toList i.toNat 2, numS s.data.toList (i + 3).toNat 2, numS s.data.toList (i + 6).toNat 2) := by
  have e3 : wrap64 (i + 3) = i + 3 := w64 (by omega) (by omega)
  have e6 : wrap64 (i + 6) = i + 6 := w64 (by omega) (by omega)
  refine Ev.congr (f := fun k => (date_reader_number.f k s i 2).bind fun t105 => ((date_reader_number.f k s (i + 3) 2).bind fun t106 => ((date_reader_number.f k s (i + 6) 2).bind fun t107 => (some (y, mo, d, t105, t106, t107))))) (fun k => by simp only [date_reader_clock.f, e3, e6]) ?_
  refine Ev.bind (f := fun k t105 => ((date_reader_number.f k s (i + 3) 2).bind fun t106 => ((date_reader_number.f k s (i + 6) 2).bind fun t107 => (some (y, mo, d, t105, t106, t107))))) (num_e s i 2 h0 (by omega) (by omega)) ?_
  refine Ev.bind (f := fun k t106 => ((date_reader_number.f k s (i + 6) 2).bind fun t107 => (some (y, mo, d, numS s.data.toList i.toNat 2, t106, t107)))) (num_e s (i + 3) 2 (by omega) (by omega) (by omega)) ?_
  refine Ev.bind (f := fun k t107 => some (y, mo, d, numS s.data.toList i.toNat 2, numS s.data.toList (i + 3).toNat 2, t107)) (num_e s (i + 6) 2 (by omega) (by omega) (by omega)) (Ev.now _)
/-- A year, a month, a day and a clock, at four places. -/
theorem fourE (s : ByteArray) (y : Nat → Option Int) (Y m d c : Int) (hy : Ev y Y) (hm : 0 ≤ m) (hm1 : m ≤ 100000000000) (hd : 0 ≤ d) (hd1 : d ≤ 100000000000) (hc : 0 ≤ c) (hc1 : c ≤ 100000000000) :
    Ev (fun k => (y k).bind fun t1 => (date_reader_month.f s m).bind fun t2 => (date_reader_number.f k s d 2).bind fun t3 => (date_reader_clock.f k s t1 t2 t3 0 0 0 c).bind fun b => some [(⟨b.1, b.2.1, b.2.2.1, b.2.2.2.1, b.2.2.2.2.1, b.2.2.2.2.2⟩ : S76)])
      [⟨Y, monS s.data.toList m.toNat, numS s.data.toList d.toNat 2, numS s.data.toList c.toNat 2, numS s.data.toList (c + 3).toNat 2, numS s.data.toList (c + 6).toNat 2⟩] := by
  refine Ev.bind (f := fun k t1 => (date_reader_month.f s m).bind fun t2 => (date_reader_number.f k s d 2).bind fun t3 => (date_reader_clock.f k s t1 t2 t3 0 0 0 c).bind fun b => some [(⟨b.1, b.2.1, b.2.2.1, b.2.2.2.1, b.2.2.2.2.1, b.2.2.2.2.2⟩ : S76)]) hy ?_
  refine Ev.congr (f := fun k => (date_reader_number.f k s d 2).bind fun t3 => (date_reader_clock.f k s Y (monS s.data.toList m.toNat) t3 0 0 0 c).bind fun b => some [(⟨b.1, b.2.1, b.2.2.1, b.2.2.2.1, b.2.2.2.2.1, b.2.2.2.2.2⟩ : S76)]) (fun k => by rw [month_f s m hm (by omega)]; rfl) ?_
  refine Ev.bind (f := fun k t3 => (date_reader_clock.f k s Y (monS s.data.toList m.toNat) t3 0 0 0 c).bind fun b => some [(⟨b.1, b.2.1, b.2.2.1, b.2.2.2.1, b.2.2.2.2.1, b.2.2.2.2.2⟩ : S76)]) (num_e s d 2 hd (by omega) (by omega)) ?_
  refine Ev.bind (f := fun k b => some [(⟨b.1, b.2.1, b.2.2.1, b.2.2.2.1, b.2.2.2.2.1, b.2.2.2.2.2⟩ : S76)]) (clockE s Y (monS s.data.toList m.toNat) (numS s.data.toList d.toNat 2) c hc hc1) (Ev.now _)
theorem cand_ev (s : ByteArray) (hs : s.size ≤ 1000000000) : Ev (fun k => date_candidates.f k s) [candI s.data.toList (Lib.indexByte s.data.toList 44)] := by
  have hr := idx_range s.data.toList 44
  have hl : s.data.toList.length = s.size := by simp
  generalize hi : Lib.indexByte s.data.toList 44 = i at hr
  have hidx : strings_IndexByte.f s 44 = some i := by rw [← hi]; rfl
  unfold candI
  by_cases c1 : i < 0
  · rw [if_pos c1]
    refine Ev.congr (fun k => ?_) (fourE s (fun k => date_reader_number.f k s 20 4) _ 4 8 11 (num_e s 20 4 (by omega) (by omega) (by omega)) (by omega) (by omega) (by omega) (by omega) (by omega) (by omega))
    simp only [date_candidates.f, hidx, Option.bind_some]
    rw [if_pos c1]
  · by_cases c3 : i = 3
    · rw [if_neg c1, if_pos c3]
      refine Ev.congr (fun k => ?_) (fourE s (fun k => date_reader_number.f k s 12 4) _ 8 5 17 (num_e s 12 4 (by omega) (by omega) (by omega)) (by omega) (by omega) (by omega) (by omega) (by omega) (by omega))
      simp only [date_candidates.f, hidx, Option.bind_some]
      rw [if_neg c1, if_pos c3]
    · rw [if_neg c1, if_neg c3]
      have hn := numS_nn s.data.toList (i + 9).toNat 2
      have hh := num_hi s (i + 9) 2 (by omega) (by omega) (by omega)
      have hnum := num_e s (i + 9) 2 (by omega) (by omega) (by omega)
      have e2 : wrap64 (i + 2) = i + 2 := w64 (by omega) (by omega)
      have e5 : wrap64 (i + 5) = i + 5 := w64 (by omega) (by omega)
      have e9 : wrap64 (i + 9) = i + 9 := w64 (by omega) (by omega)
      have e12 : wrap64 (i + 12) = i + 12 := w64 (by omega) (by omega)
      have a1 : i + 12 + 3 = i + 15 := by omega
      have a2 : i + 12 + 6 = i + 18 := by omega
      have H := fourE s (fun _ => some (yr (numS s.data.toList (i + 9).toNat 2))) _ (i + 5) (i + 2) (i + 12) (Ev.now _) (by omega) (by omega) (by omega) (by omega) (by omega) (by omega)
      rw [a1, a2] at H
      refine Ev.congr (fun k => ?_) (Ev.bind (f := fun k _ => (some (yr (numS s.data.toList (i + 9).toNat 2))).bind fun t1 => (date_reader_month.f s (i + 5)).bind fun t2 => (date_reader_number.f k s (i + 2) 2).bind fun t3 => (date_reader_clock.f k s t1 t2 t3 0 0 0 (i + 12)).bind fun b => some [(⟨b.1, b.2.1, b.2.2.1, b.2.2.2.1, b.2.2.2.2.1, b.2.2.2.2.2⟩ : S76)]) hnum H)
      simp only [date_candidates.f, hidx, Option.bind_some, e2, e5, e9, e12]
      rw [if_neg c1, if_neg c3]
      rcases hq : date_reader_number.f k s (i + 9) 2 with _ | v
      · rfl
      · have hv : v = numS s.data.toList (i + 9).toNat 2 := by
          obtain ⟨K, hK⟩ := hnum
          have h1 := at_rounds (g := fun k => date_reader_number.f k s (i + 9) ((2 : Nat) : Int)) (fun k => date_reader_number.mono _ _ _ k) (Nat.le_max_left k K) hq
          have h2 := hK _ (Nat.le_max_right k K)
          exact Option.some.inj (h1.symm.trans h2)
        rw [hv]
        simp only [Option.bind_some]
        have w1 : wrap64 (numS s.data.toList (i + 9).toNat 2 + 1900) = numS s.data.toList (i + 9).toNat 2 + 1900 := w64 (by omega) (by omega)
        have w2 : wrap64 (numS s.data.toList (i + 9).toNat 2 + 1900 + 100) = numS s.data.toList (i + 9).toNat 2 + 2000 := by rw [w64 (by omega) (by omega)]; omega
        rw [w1, w2]
        unfold yr
        by_cases c4 : numS s.data.toList (i + 9).toNat 2 + 1900 < 1970
        · rw [if_pos c4, if_pos c4]
        · rw [if_neg c4, if_neg c4]
theorem parse_at (s : ByteArray) (hs : s.size ≤ 1000000000) {m : S76} (hm : candI s.data.toList (Lib.indexByte s.data.toList 44) = m) {r : Int × Int} (h : Ev (fun k => parseOne k s m.f0 m.f1 m.f2 m.f3 m.f4 m.f5) r) : Ev (fun k => date_Parse.f k s) r := by
  have hc := cand_ev s hs
  rw [hm] at hc
  exact Ev.bind (f := fun k l => match l with | [m] => parseOne k s m.f0 m.f1 m.f2 m.f3 m.f4 m.f5 | _ => none) hc h
/-! ### What is said is read -/
theorem stepD_dg (n x : Int) (h0 : 0 ≤ x) (h9 : x ≤ 9) : stepD n (dg x) = 10 * n + x := by
  unfold stepD
  rw [dg_nat h0 h9, if_pos (by omega)]
  omega
theorem stepD_32 (n : Int) : stepD n 32 = n := by
  unfold stepD
  rw [if_neg (by decide)]
theorem two_num (n : Int) (h0 : 0 ≤ n) (h1 : n ≤ 99) : (tw n).foldl stepD 0 = n := by
  simp only [tw, List.foldl_cons, List.foldl_nil]
  rw [stepD_dg _ _ (by omega) (by omega), stepD_dg _ _ (by omega) (by omega)]
  omega
theorem two_num' (n : Int) (h0 : 0 ≤ n) : (tw n).foldl stepD 0 = n % 100 := by
  simp only [tw, List.foldl_cons, List.foldl_nil]
  rw [stepD_dg _ _ (by omega) (by omega), stepD_dg _ _ (by omega) (by omega)]
  omega
theorem four_num (y : Int) (h0 : 0 ≤ y) (h1 : y ≤ 9999) : (tw (y / 100) ++ tw y).foldl stepD 0 = y := by
  simp only [tw, List.cons_append, List.nil_append, List.foldl_cons, List.foldl_nil]
  rw [stepD_dg _ _ (by omega) (by omega), stepD_dg _ _ (by omega) (by omega), stepD_dg _ _ (by omega) (by omega), stepD_dg _ _ (by omega) (by omega)]
  omega
theorem dg_ne (x : Int) (h0 : 0 ≤ x) (h9 : x ≤ 9) : dg x ≠ 44 := by
  intro h
  have := dg_nat h0 h9
  rw [h] at this
  simp at this
  omega
theorem tw_two (n : Int) : ∃ a b, tw n = [a, b] ∧ a ≠ 44 ∧ b ≠ 44 := ⟨_, _, rfl, dg_ne _ (by omega) (by omega), dg_ne _ (by omega) (by omega)⟩
theorem dl_two (d : Int) (h0 : 0 ≤ d) : ∃ a b, dl d = [a, b] ∧ a ≠ 44 ∧ b ≠ 44 := by
  unfold dl
  split
  · exact ⟨_, _, rfl, by decide, dg_ne _ h0 (by omega)⟩
  · exact tw_two d
theorem dl_num (d : Int) (h0 : 0 ≤ d) (h1 : d ≤ 99) : (dl d).foldl stepD 0 = d := by
  unfold dl
  split
  · simp only [List.foldl_cons, List.foldl_nil]
    rw [stepD_32, stepD_dg _ _ h0 (by omega)]
    omega
  · exact two_num d h0 h1
theorem sd_three (w : Int) (hw : 0 ≤ w ∧ w < 7) : ∃ a b c, sd w = [a, b, c] ∧ a ≠ 44 ∧ b ≠ 44 ∧ c ≠ 44 := by
  obtain ⟨h0, h1⟩ := hw
  obtain ⟨n, rfl⟩ := Int.eq_ofNat_of_zero_le h0
  match n, h1 with
  | 0, _ | 1, _ | 2, _ | 3, _ | 4, _ | 5, _ | 6, _ => exact ⟨_, _, _, rfl, by decide, by decide, by decide⟩
  | n + 7, h => omega
theorem m3_three (m : Int) (h0 : 0 ≤ m) (h1 : m < 12) : ∃ a b c, m3 m = [a, b, c] ∧ a ≠ 44 ∧ b ≠ 44 ∧ c ≠ 44 := by
  obtain ⟨n, rfl⟩ := Int.eq_ofNat_of_zero_le h0
  match n, h1 with
  | 0, _ | 1, _ | 2, _ | 3, _ | 4, _ | 5, _ | 6, _ | 7, _ | 8, _ | 9, _ | 10, _ | 11, _ => exact ⟨_, _, _, rfl, by decide, by decide, by decide⟩
  | n + 12, h => omega
theorem ld_ok (w : Int) (hw : 0 ≤ w ∧ w < 7) : 6 ≤ (ld w).length ∧ (ld w).length ≤ 9 ∧ ∀ b ∈ ld w, b ≠ 44 := by
  obtain ⟨h0, h1⟩ := hw
  obtain ⟨n, rfl⟩ := Int.eq_ofNat_of_zero_le h0
  match n, h1 with
  | 0, _ | 1, _ | 2, _ | 3, _ | 4, _ | 5, _ | 6, _ => exact ⟨by decide, by decide, by decide⟩
  | n + 7, h => omega
theorem numS_at (l r t : List UInt8) (a sz : Nat) (h : (l.drop a).take sz = r) {n : Int} (hr : r.foldl stepD 0 = n) : numS l a sz = n := by
  unfold numS
  rw [h, hr]
theorem monS_at (l : List UInt8) (m : Int) (a : Nat) (h0 : 0 ≤ m) (h1 : m < 12) (h : (l.drop a).take 3 = m3 m) : monS l a = m := by
  unfold monS
  have hl := congrArg List.length h
  rw [m3_len m h0 h1] at hl
  simp only [List.length_take, List.length_drop] at hl
  rw [if_neg (by omega), h, mIdx_m3 m h0 h1]
theorem cand_T1 {y mo d h mi s : Int} (t : Tm y mo d h mi s) (w : Int) (hw : 0 ≤ w ∧ w < 7) :
    candI (T1 y mo d h mi s w) (Lib.indexByte (T1 y mo d h mi s w) 44) = ⟨y, mo, d, h, mi, s⟩ := by
  obtain ⟨a, b, c, es, ha, hb, hc⟩ := sd_three w hw
  obtain ⟨p, q, r, em, _⟩ := m3_three mo t.ok.m0 t.ok.m1
  have hi : Lib.indexByte (T1 y mo d h mi s w) 44 = 3 := by
    have := idx_hit [a, b, c] (32 :: (tw d ++ [32] ++ m3 mo ++ [32] ++ tw (y / 100) ++ tw y ++ [32] ++ ck h mi s ++ [32, 71, 77, 84])) (by simp [ha, hb, hc])
    unfold T1
    rw [es]
    simpa using this
  have hd := t.d
  have n1 := four_num y (Int.le_trans (by decide) t.ok.y0) t.ok.y1
  have n2 := two_num d (by omega) (by omega)
  have n3 := two_num h t.h0 (Int.le_trans t.h1 (by decide))
  have n4 := two_num mi t.mi0 (Int.le_trans t.mi1 (by decide))
  have n5 := two_num s t.s0 (Int.le_trans t.s1 (by decide))
  have mm : monS (T1 y mo d h mi s w) 8 = mo := monS_at _ _ 8 t.ok.m0 t.ok.m1 (by
    obtain ⟨d1, d2, e1, _⟩ := tw_two d
    unfold T1
    rw [es, em, e1]
    rfl)
  rw [hi]
  unfold candI
  rw [if_neg (by decide), if_pos rfl, mm]
  unfold T1 ck
  obtain ⟨d1, d2, e1, _⟩ := tw_two d
  obtain ⟨d3, d4, e2, _⟩ := tw_two h
  obtain ⟨d5, d6, e3, _⟩ := tw_two mi
  obtain ⟨d7, d8, e4, _⟩ := tw_two s
  obtain ⟨d9, d10, e5, _⟩ := tw_two (y / 100)
  obtain ⟨d11, d12, e6, _⟩ := tw_two y
  rw [e5, e6] at n1
  rw [e1] at n2
  rw [e2] at n3
  rw [e3] at n4
  rw [e4] at n5
  rw [es, em, e1, e2, e3, e4, e5, e6]
  rw [numS_at _ ([d9, d10] ++ [d11, d12]) [] 12 4 rfl n1, numS_at _ [d1, d2] [] 5 2 rfl n2, numS_at _ [d3, d4] [] 17 2 rfl n3, numS_at _ [d5, d6] [] 20 2 rfl n4, numS_at _ [d7, d8] [] 23 2 rfl n5]
theorem cand_T3 {y mo d h mi s : Int} (t : Tm y mo d h mi s) (w : Int) (hw : 0 ≤ w ∧ w < 7) :
    candI (T3 y mo d h mi s w) (Lib.indexByte (T3 y mo d h mi s w) 44) = ⟨y, mo, d, h, mi, s⟩ := by
  obtain ⟨a, b, c, es, ha, hb, hc⟩ := sd_three w hw
  obtain ⟨p, q, r, em, hp, hq, hr⟩ := m3_three mo t.ok.m0 t.ok.m1
  have hd := t.d
  have n1 := four_num y (Int.le_trans (by decide) t.ok.y0) t.ok.y1
  have n2 := dl_num d (by omega) (by omega)
  have n3 := two_num h t.h0 (Int.le_trans t.h1 (by decide))
  have n4 := two_num mi t.mi0 (Int.le_trans t.mi1 (by decide))
  have n5 := two_num s t.s0 (Int.le_trans t.s1 (by decide))
  have mm : monS (T3 y mo d h mi s w) 4 = mo := monS_at _ _ 4 t.ok.m0 t.ok.m1 (by
    unfold T3
    rw [es, em]
    rfl)
  obtain ⟨d1, d2, e1, x1, x2⟩ := dl_two d (by omega)
  obtain ⟨d3, d4, e2, x3, x4⟩ := tw_two h
  obtain ⟨d5, d6, e3, x5, x6⟩ := tw_two mi
  obtain ⟨d7, d8, e4, x7, x8⟩ := tw_two s
  obtain ⟨d9, d10, e5, x9, x10⟩ := tw_two (y / 100)
  obtain ⟨d11, d12, e6, x11, x12⟩ := tw_two y
  have hi : Lib.indexByte (T3 y mo d h mi s w) 44 = -1 := by
    refine idx_none _ ?_
    unfold T3 ck
    rw [es, em, e1, e2, e3, e4, e5, e6]
    simp [ha, hb, hc, hp, hq, hr, x1, x2, x3, x4, x5, x6, x7, x8, x9, x10, x11, x12]
  rw [hi]
  unfold candI
  rw [if_pos (by decide), mm]
  unfold T3 ck
  rw [e5, e6] at n1
  rw [e1] at n2
  rw [e2] at n3
  rw [e3] at n4
  rw [e4] at n5
  rw [es, em, e1, e2, e3, e4, e5, e6]
  rw [numS_at _ ([d9, d10] ++ [d11, d12]) [] 20 4 rfl n1, numS_at _ [d1, d2] [] 8 2 rfl n2, numS_at _ [d3, d4] [] 11 2 rfl n3, numS_at _ [d5, d6] [] 14 2 rfl n4, numS_at _ [d7, d8] [] 17 2 rfl n5]
theorem drop_more (l r : List UInt8) (k : Nat) (n : Int) (hn : n = k) : (l ++ r).drop ((l.length : Int) + n).toNat = r.drop k := by
  have : ((l.length : Int) + n).toNat = l.length + k := by omega
  rw [this, List.drop_append]
  simp
theorem cand_T2 {y mo d h mi s : Int} (t : Tm y mo d h mi s) (hy : y < 2070) (w : Int) (hw : 0 ≤ w ∧ w < 7) :
    candI (T2 y mo d h mi s w) (Lib.indexByte (T2 y mo d h mi s w) 44) = ⟨y, mo, d, h, mi, s⟩ := by
  obtain ⟨hl0, hl1, hl⟩ := ld_ok w hw
  obtain ⟨p, q, r, em, _⟩ := m3_three mo t.ok.m0 t.ok.m1
  have hd := t.d
  have hy0 := t.ok.y0
  have n1 := two_num' y (by omega)
  have n2 := two_num d (by omega) (by omega)
  have n3 := two_num h t.h0 (Int.le_trans t.h1 (by decide))
  have n4 := two_num mi t.mi0 (Int.le_trans t.mi1 (by decide))
  have n5 := two_num s t.s0 (Int.le_trans t.s1 (by decide))
  obtain ⟨d1, d2, e1, _⟩ := tw_two d
  obtain ⟨d3, d4, e2, _⟩ := tw_two h
  obtain ⟨d5, d6, e3, _⟩ := tw_two mi
  obtain ⟨d7, d8, e4, _⟩ := tw_two s
  obtain ⟨d11, d12, e6, _⟩ := tw_two y
  rw [e6] at n1
  rw [e1] at n2
  rw [e2] at n3
  rw [e3] at n4
  rw [e4] at n5
  have e : T2 y mo d h mi s w = ld w ++ (44 :: 32 :: ([d1, d2] ++ [45] ++ [p, q, r] ++ [45] ++ [d11, d12] ++ [32] ++ ([d3, d4] ++ [58] ++ [d5, d6] ++ [58] ++ [d7, d8]) ++ [32, 71, 77, 84])) := by
    unfold T2 ck
    rw [em, e1, e2, e3, e4, e6]
    simp
  have hi : Lib.indexByte (T2 y mo d h mi s w) 44 = (ld w).length := by
    rw [e]
    exact idx_hit _ _ hl
  rw [hi, e]
  unfold candI
  rw [if_neg (by omega), if_neg (by omega)]
  have mm : monS (ld w ++ (44 :: 32 :: ([d1, d2] ++ [45] ++ [p, q, r] ++ [45] ++ [d11, d12] ++ [32] ++ ([d3, d4] ++ [58] ++ [d5, d6] ++ [58] ++ [d7, d8]) ++ [32, 71, 77, 84]))) (((ld w).length : Int) + 5).toNat = mo :=
    monS_at _ _ _ t.ok.m0 t.ok.m1 (by rw [em, drop_more _ _ 5 5 rfl]; rfl)
  rw [mm, numS_at _ [d11, d12] [] (((ld w).length : Int) + 9).toNat 2 (by rw [drop_more _ _ 9 9 rfl]; rfl) n1, numS_at _ [d1, d2] [] (((ld w).length : Int) + 2).toNat 2 (by rw [drop_more _ _ 2 2 rfl]; rfl) n2,
    numS_at _ [d3, d4] [] (((ld w).length : Int) + 12).toNat 2 (by rw [drop_more _ _ 12 12 rfl]; rfl) n3, numS_at _ [d5, d6] [] (((ld w).length : Int) + 15).toNat 2 (by rw [drop_more _ _ 15 15 rfl]; rfl) n4,
    numS_at _ [d7, d8] [] (((ld w).length : Int) + 18).toNat 2 (by rw [drop_more _ _ 18 18 rfl]; rfl) n5]
  have : yr (y % 100) = y := by unfold yr; split <;> omega
  rw [this]
theorem says_cand {a : ByteArray} {y mo d h mi s : Int} (t : Tm y mo d h mi s) (hs : Says a y mo d h mi s) : candI a.data.toList (Lib.indexByte a.data.toList 44) = ⟨y, mo, d, h, mi, s⟩ := by
  rcases hs with rfl | ⟨rfl, hy⟩ | rfl
  · rw [bytes_list]; exact cand_T1 t _ (wk0 _ _ _)
  · rw [bytes_list]; exact cand_T2 t hy _ (wk0 _ _ _)
  · rw [bytes_list]; exact cand_T3 t _ (wk0 _ _ _)
theorem says_size {a : ByteArray} {y mo d h mi s : Int} (t : Tm y mo d h mi s) (hs : Says a y mo d h mi s) : a.size ≤ 40 := by
  obtain ⟨a', b', c', es, _⟩ := sd_three _ (wk0 y mo d)
  obtain ⟨p, q, r, em, _⟩ := m3_three mo t.ok.m0 t.ok.m1
  obtain ⟨u, v, ed, _⟩ := dl_two d (Int.le_trans (by decide) t.d.1)
  obtain ⟨hl0, hl1, hl⟩ := ld_ok _ (wk0 y mo d)
  rcases hs with rfl | ⟨rfl, hy⟩ | rfl
  · simp [bytes_size, T1, es, em, tw, ck]
  · simp [bytes_size, T2, em, tw, ck]; omega
  · simp [bytes_size, T3, es, em, ed, tw, ck]
/-- A text of a time is read as that time. -/
theorem parse_yes {a : ByteArray} {y mo d h mi s : Int} (t : Tm y mo d h mi s) (hs : Says a y mo d h mi s) : Ev (fun k => date_Parse.f k a) (sec y mo d h mi s, 0) :=
  parse_at a (by have := says_size t hs; omega) (says_cand t hs) (one_yes a t hs)
end Go.Proofs.YtcdbnphhoihldaaDoor.Pure
-- printed by a program (xp.py, over the kit's print); Lean checks it
namespace Go.Proofs.YtcdbnphhoihldaaDoor.X
open Go.RowKit Go.Proofs.YtcdbnphhoihldaaDoorW.PrintWords Go.Proofs.YtcdbnphhoihldaaDoorW.PrintLast Go.Proofs.YtcdbnphhoihldaaDoorW.PrintMore
attribute [local go_sem] max2_int min2_int max_two min_two max_three min_three max_four min_four   -- for this text's walks alone
set_option linter.unusedVariables false
set_option linter.unusedSimpArgs false

/-! ### line_number: function 31 -/
mutual
def line_number.j0 : Nat → ByteArray → Bool → Option (Int × Bool)
 | 0, _, _ => none
 | k + 1, x0, x22 => if x22 = true then (some (0, false)) else (line_number.l0 k x0 0 (x0.size : Int) 0)
def line_number.l0 : Nat → ByteArray → Int → Int → Int → Option (Int × Bool)
 | 0, _, _, _, _ => none
 | k + 1, x0, x4, x24, x25 => if x25 < x24 then (if 0 ≤ x25 then (if x25 < (x0.size : Int) then (if (bt x0 x25) < 48 then (some (0, false)) else (if (bt x0 x25) > 57 then (some (0, false)) else (line_number.l0 k x0 (wrap64 ((wrap64 (10 * x4)) + (((bt x0 x25) - 48) % 256))) x24 (wrap64 (x25 + 1))))) else (none)) else (none)) else (some (x4, true))
end
def line_number.f (k : Nat) (a0 : ByteArray) : Option (Int × Bool) := if a0.toList = ([] : List UInt8) then (line_number.j0 k a0 true) else (if (a0.size : Int) > 9 then (line_number.j0 k a0 true) else (if (a0.size : Int) > 1 then (if 0 < (a0.size : Int) then (line_number.j0 k a0 ((bt a0 0) == 48)) else (none)) else (line_number.j0 k a0 false)))
theorem line_number.mono_l : ∀ k, (∀ y0 y1, LeO (line_number.j0 k y0 y1) (line_number.j0 (k + 1) y0 y1)) ∧ (∀ y0 y1 y2 y3, LeO (line_number.l0 k y0 y1 y2 y3) (line_number.l0 (k + 1) y0 y1 y2 y3))
 | 0 => ⟨fun _ _ r h => by simp [line_number.j0] at h, fun _ _ _ _ r h => by simp [line_number.l0] at h⟩
 | k + 1 => by
  obtain ⟨ih0, ih1⟩ := line_number.mono_l k
  refine ⟨?_, ?_⟩
  ·
   intro y0 y1
   unfold line_number.j0
   repeat' first
   | (with_reducible exact ih0 _ _)
   | (with_reducible exact ih1 _ _ _ _)
   | (with_reducible exact LeO.refl _)
   | (with_reducible exact LeO.none _)
   | (with_reducible refine LeO.ite ?_ ?_)
   | (with_reducible refine LeO.bind ?_ (fun _ => ?_))
   | exact ih0 _ _
   | exact ih1 _ _ _ _
   | exact LeO.none _
   | refine LeO.ite ?_ ?_
   | refine LeO.bind ?_ (fun _ => ?_)
  ·
   intro y0 y1 y2 y3
   unfold line_number.l0
   repeat' first
   | (with_reducible exact ih0 _ _)
   | (with_reducible exact ih1 _ _ _ _)
   | (with_reducible exact LeO.refl _)
   | (with_reducible exact LeO.none _)
   | (with_reducible refine LeO.ite ?_ ?_)
   | (with_reducible refine LeO.bind ?_ (fun _ => ?_))
   | exact ih0 _ _
   | exact ih1 _ _ _ _
   | exact LeO.none _
   | refine LeO.ite ?_ ?_
   | refine LeO.bind ?_ (fun _ => ?_)
theorem line_number.mono : ∀ a0 k, LeO (line_number.f k a0) (line_number.f (k + 1) a0) := by
 intro a0 k
 obtain ⟨ih0, ih1⟩ := line_number.mono_l k
 unfold line_number.f
 repeat' first
   | (with_reducible exact ih0 _ _)
   | (with_reducible exact ih1 _ _ _ _)
   | (with_reducible exact LeO.refl _)
   | (with_reducible exact LeO.none _)
   | (with_reducible refine LeO.ite ?_ ?_)
   | (with_reducible refine LeO.bind ?_ (fun _ => ?_))
   | exact ih0 _ _
   | exact ih1 _ _ _ _
   | exact LeO.none _
   | refine LeO.ite ?_ ?_
   | refine LeO.bind ?_ (fun _ => ?_)
set_option maxHeartbeats 8000000 in
set_option maxRecDepth 100000 in
theorem line_number.calls (k : Nat) (a0 : ByteArray) (r1 : Int) (r2 : Bool) (w : World) (h : line_number.f k a0 = some (r1, r2)) :
  Calls Tryd.prog 31 #[.string a0] w fun e w' => e = .returned (.tuple #[.int .i64 r1, .bool r2]) ∧ Drawn0 w w' := by
 have H : (if a0.toList = ([] : List UInt8) then (line_number.j0 k a0 true) else (if (a0.size : Int) > 9 then (line_number.j0 k a0 true) else (if (a0.size : Int) > 1 then (if 0 < (a0.size : Int) then (line_number.j0 k a0 ((bt a0 0) == 48)) else (none)) else (line_number.j0 k a0 false)))) = some (r1, r2) := h
 clear h
 have HC2 := Aside0.mk H
 clear H
 go_enter Tryd.func31, Tryd.ntmps31
 go_upto_region 1 with (fail)
 go_cut [22] (fun v22 wc => ∃ (kq : Nat) (x22_1 : Bool), v22 = .bool x22_1 ∧ Aside0 (line_number.j0 kq a0 x22_1 = some (r1, r2)) ∧ Aside0 (kq ≤ k) ∧ Drawn0 w wc)
 case first =>
  have H := HC2.out
  clear HC2
  by_cases c3 : a0.toList = ([] : List UInt8)
  ·
   rw [if_pos c3] at H
   have c3b0 : (a0.toList == ([] : List UInt8)) = true := beq_iff_eq.mpr c3
   have c3b1 : (a0.toList != ([] : List UInt8)) = false := bne_eq_false_iff_eq.mpr c3
   clear c3
   (first | rw [c3b0] | (simp only [i64_w, i32_w]; rw [c3b0]) | skip)
   have H' := Aside0.mk H
   clear H
   go_wp2
   go_meet
   case rel => exact ⟨_, (true), (by first | rfl | (simp; done) | (simp [*]; done)), H', ⟨by first | omega | exact Nat.le_refl _⟩, by repeat (first | exact Drawn0.refl _ | apply Drawn0.step)⟩
  ·
   rw [if_neg c3] at H
   have c3b0 : (a0.toList == ([] : List UInt8)) = false := beq_eq_false_iff_ne.mpr c3
   have c3b1 : (a0.toList != ([] : List UInt8)) = true := bne_iff_ne.mpr c3
   (first | rw [c3b0] | (simp only [i64_w, i32_w]; rw [c3b0]) | skip)
   by_cases c4 : (a0.size : Int) > 9
   ·
    rw [if_pos c4] at H
    have c4b0 : decide (9 < (a0.size : Int)) = true := decide_eq_true c4
    have c4b1 : decide (9 < a0.size) = true := decide_eq_true (by omega)
    clear c4
    have H' := Aside0.mk H
    clear H
    go_wp2
    go_meet
    case rel => exact ⟨_, (true), (by first | rfl | (simp; done) | (simp [*]; done)), H', ⟨by first | omega | exact Nat.le_refl _⟩, by repeat (first | exact Drawn0.refl _ | apply Drawn0.step)⟩
   ·
    rw [if_neg c4] at H
    have c4b0 : decide (9 < (a0.size : Int)) = false := decide_eq_false c4
    have c4b1 : decide (9 < a0.size) = false := decide_eq_false (by omega)
    clear c4
    by_cases c5 : (a0.size : Int) > 1
    ·
     rw [if_pos c5] at H
     have c5b0 : decide (1 < (a0.size : Int)) = true := decide_eq_true c5
     have c5b1 : decide (1 < a0.size) = true := decide_eq_true (by omega)
     clear c5
     by_cases c6 : 0 < (a0.size : Int)
     ·
      rw [if_pos c6] at H
      have c6b0 : decide (0 < (a0.size : Int)) = true := decide_eq_true c6
      have c6b1 : decide (0 < a0.size) = true := decide_eq_true (by omega)
      clear c6
      have H' := Aside0.mk H
      clear H
      have p7 : 0 ≤ (0 : Int) := (by omega)
      have q7 : 0 < a0.size := (by have : (0 : Int) < (a0.size : Int) := of_decide_eq_true (by first | (with_reducible assumption) | assumption); omega)
      have hx7 : ∀ h : 0 < a0.size, ((a0[0]'h).toNat : Int) = bt a0 0 := bt_at a0 0
      clear p7
      have qi7 : (0 < (a0.size : Int)) = True := eq_true (of_decide_eq_true (by first | (with_reducible assumption) | assumption))
      replace q7 := eq_true q7
      go_wp2
      go_meet
      case rel => exact ⟨_, (((bt a0 0) == 48)), (by first | rfl | (simp; done) | (simp [*]; done)), H', ⟨by first | omega | exact Nat.le_refl _⟩, by repeat (first | exact Drawn0.refl _ | apply Drawn0.step)⟩
     ·
      rw [if_neg c6] at H
      exact absurd H (by simp)
    ·
     rw [if_neg c5] at H
     have c5b0 : decide (1 < (a0.size : Int)) = false := decide_eq_false c5
     have c5b1 : decide (1 < a0.size) = false := decide_eq_false (by omega)
     clear c5
     have H' := Aside0.mk H
     clear H
     go_wp2
     go_meet
     case rel => exact ⟨_, (false), (by first | rfl | (simp; done) | (simp [*]; done)), H', ⟨by first | omega | exact Nat.le_refl _⟩, by repeat (first | exact Drawn0.refl _ | apply Drawn0.step)⟩
 case rest =>
  clear HC2
  try clear p2
  try clear c3
  try clear c3b0
  try clear c3b1
  try clear c4
  try clear c4b0
  try clear c4b1
  try clear c5
  try clear c5b0
  try clear c5b1
  try clear c6
  try clear c6b0
  try clear c6b1
  try clear p7
  try clear q7
  try clear hx7
  try clear qi7
  try clear p7
  try clear q7
  obtain ⟨kq, x22_1, rfl, HA, HJ1, ⟨mc1, rfl⟩⟩ := hcut
  cases kq with
  | zero => exact absurd HA.out (by simp [line_number.j0])
  | succ kj1 =>
   have H := HA.out
   clear HA
   simp only [line_number.j0] at H
   by_cases c8 : x22_1 = true
   ·
    subst c8
    have H1 : (some (0, false)) = some (r1, r2) := by rw [if_pos rfl] at H; exact H
    clear H
    have H := H1
    clear H1
    simp only [Option.some.injEq, Prod.mk.injEq] at H
    obtain ⟨rfl, rfl⟩ := H
    go_wp2
    go_ret2
    exact ⟨by first | rfl | (simp; done) | (simp [*]; done), by repeat (first | exact Drawn0.refl _ | apply Drawn0.step)⟩
   ·
    replace c8 := Bool.eq_false_iff.mpr c8
    subst c8
    have H1 : (line_number.l0 kj1 a0 0 (a0.size : Int) 0) = some (r1, r2) := by rw [if_neg (show ¬ (false = true) by decide)] at H; exact H
    clear H
    have H := H1
    clear H1
    have H' := Aside0.mk H
    clear H
    go_wp2
    go_loopg [4, 25] kj1 (fun kq v4 v25 w' => ∃ (x4_2 : Int) (x25_2 : Int), v4 = .int .i64 x4_2 ∧ v25 = .int .i64 x25_2 ∧ Aside0 (line_number.l0 kq a0 x4_2 (a0.size : Int) x25_2 = some (r1, r2)) ∧ Aside0 (kq ≤ kj1) ∧ Drawn0 w w')
    case atStart => exact ⟨(0), (0), (by first | rfl | (simp; done) | (simp [*]; done)), (by first | rfl | (simp; done) | (simp [*]; done)), H', ⟨Nat.le_refl _⟩, by repeat (first | exact Drawn0.refl _ | apply Drawn0.step)⟩
    case round =>
     clear H'
     try clear c1
     try clear p2
     try clear c3
     try clear c3b0
     try clear c3b1
     try clear c4
     try clear c4b0
     try clear c4b1
     try clear c5
     try clear c5b0
     try clear c5b1
     try clear c6
     try clear c6b0
     try clear c6b1
     try clear p7
     try clear q7
     try clear hx7
     try clear qi7
     try clear c8
     try clear p2
     try clear p7
     try clear q7
     obtain ⟨x4_2, x25_2, rfl, rfl, HA, HK2, ⟨m2, rfl⟩⟩ := hrel
     cases gk with
     | zero => exact absurd HA.out (by simp [line_number.l0])
     | succ k2 =>
      have H := HA.out
      clear HA
      simp only [line_number.l0] at H
      by_cases c9 : x25_2 < (a0.size : Int)
      ·
       rw [if_pos c9] at H
       have c9b0 : decide (x25_2 < (a0.size : Int)) = true := decide_eq_true c9
       clear c9
       by_cases c10 : 0 ≤ x25_2
       ·
        rw [if_pos c10] at H
        have c10b0 : decide (0 ≤ x25_2) = true := decide_eq_true c10
        clear c10
        by_cases c11 : x25_2 < (a0.size : Int)
        ·
         rw [if_pos c11] at H
         have c11b0 : decide (x25_2 < (a0.size : Int)) = true := decide_eq_true c11
         clear c11
         by_cases c13 : (bt a0 x25_2) < 48
         ·
          rw [if_pos c13] at H
          have c13b0 : decide ((bt a0 x25_2) < 48) = true := decide_eq_true c13
          clear c13
          simp only [Option.some.injEq, Prod.mk.injEq] at H
          obtain ⟨rfl, rfl⟩ := H
          have p12 : 0 ≤ (x25_2 : Int) := of_decide_eq_true (by first | (with_reducible assumption) | assumption)
          have q12 : x25_2 < (a0.size : Int) := of_decide_eq_true (by first | (with_reducible assumption) | assumption)
          have hx12 := bt_at a0 x25_2
          replace p12 := eq_true p12
          replace q12 := eq_true q12
          go_wp2
          go_ret2
          exact ⟨by first | rfl | (simp; done) | (simp [*]; done), by repeat (first | exact Drawn0.refl _ | apply Drawn0.step)⟩
         ·
          rw [if_neg c13] at H
          have c13b0 : decide ((bt a0 x25_2) < 48) = false := decide_eq_false c13
          clear c13
          by_cases c15 : (bt a0 x25_2) > 57
          ·
           rw [if_pos c15] at H
           have c15b0 : decide (57 < (bt a0 x25_2)) = true := decide_eq_true c15
           clear c15
           simp only [Option.some.injEq, Prod.mk.injEq] at H
           obtain ⟨rfl, rfl⟩ := H
           have p12 : 0 ≤ (x25_2 : Int) := of_decide_eq_true (by first | (with_reducible assumption) | assumption)
           have q12 : x25_2 < (a0.size : Int) := of_decide_eq_true (by first | (with_reducible assumption) | assumption)
           have hx12 := bt_at a0 x25_2
           replace p12 := eq_true p12
           replace q12 := eq_true q12
           have p14 : 0 ≤ (x25_2 : Int) := of_decide_eq_true (by first | (with_reducible assumption) | assumption)
           have q14 : x25_2 < (a0.size : Int) := of_decide_eq_true (by first | (with_reducible assumption) | assumption)
           have hx14 := bt_at a0 x25_2
           replace p14 := eq_true p14
           replace q14 := eq_true q14
           go_wp2
           go_ret2
           exact ⟨by first | rfl | (simp; done) | (simp [*]; done), by repeat (first | exact Drawn0.refl _ | apply Drawn0.step)⟩
          ·
           rw [if_neg c15] at H
           have c15b0 : decide (57 < (bt a0 x25_2)) = false := decide_eq_false c15
           clear c15
           have H' := Aside0.mk H
           clear H
           have p12 : 0 ≤ (x25_2 : Int) := of_decide_eq_true (by first | (with_reducible assumption) | assumption)
           have q12 : x25_2 < (a0.size : Int) := of_decide_eq_true (by first | (with_reducible assumption) | assumption)
           have hx12 := bt_at a0 x25_2
           replace p12 := eq_true p12
           replace q12 := eq_true q12
           have p14 : 0 ≤ (x25_2 : Int) := of_decide_eq_true (by first | (with_reducible assumption) | assumption)
           have q14 : x25_2 < (a0.size : Int) := of_decide_eq_true (by first | (with_reducible assumption) | assumption)
           have hx14 := bt_at a0 x25_2
           replace p14 := eq_true p14
           replace q14 := eq_true q14
           have p16 : 0 ≤ (x25_2 : Int) := of_decide_eq_true (by first | (with_reducible assumption) | assumption)
           have q16 : x25_2 < (a0.size : Int) := of_decide_eq_true (by first | (with_reducible assumption) | assumption)
           have hx16 := bt_at a0 x25_2
           replace p16 := eq_true p16
           replace q16 := eq_true q16
           go_wp2
           go_roundg k2
           case measure => have := HJ1.out; have := HK2.out; omega
           case rel => exact ⟨(wrap64 ((wrap64 (10 * x4_2)) + (((bt a0 x25_2) - 48) % 256))), (wrap64 (x25_2 + 1)), (by first | rfl | (simp; done) | (simp [*]; done)), (by first | rfl | (simp; done) | (simp [*]; done)), H', ⟨by have := HJ1.out; have := HK2.out; omega⟩, by repeat (first | exact Drawn0.refl _ | apply Drawn0.step)⟩
        ·
         rw [if_neg c11] at H
         exact absurd H (by simp)
       ·
        rw [if_neg c10] at H
        exact absurd H (by simp)
      ·
       rw [if_neg c9] at H
       have c9b0 : decide (x25_2 < (a0.size : Int)) = false := decide_eq_false c9
       clear c9
       simp only [Option.some.injEq, Prod.mk.injEq] at H
       obtain ⟨rfl, rfl⟩ := H
       go_wp2
       go_ret2
       exact ⟨by first | rfl | (simp; done) | (simp [*]; done), by repeat (first | exact Drawn0.refl _ | apply Drawn0.step)⟩

end Go.Proofs.YtcdbnphhoihldaaDoor.X
/- Lines: Cut at a space, numbers, three texts. -/
namespace Go.Proofs.YtcdbnphhoihldaaDoor.Line
open Go.RowKit Go.Proofs.YtcdbnphhoihldaaDoor.X Go.Proofs.YtcdbnphhoihldaaDoor.Cal Go.Proofs.YtcdbnphhoihldaaDoor.Pure Go.Proofs.YtcdbnphhoihldaaDoor.Quo Go.Proofs.YtcdbnphhoihldaaDoorW.PrintWords Go.Proofs.YtcdbnphhoihldaaDoorW.PrintLast Go.Proofs.YtcdbnphhoihldaaDoorW.PrintMore
attribute [local go_sem] max2_int min2_int max_two min_two max_three min_three max_four min_four
set_option linter.unusedVariables false
set_option linter.unusedSimpArgs false

theorem sp_hit : ∀ (l r : List UInt8), (∀ b ∈ l, b ≠ 32) → Lib.indexByte (l ++ 32 :: r) 32 = l.length
  | [], r, _ => by simp [Lib.indexByte]
  | b :: l, r, h => by
    have h0 : b ≠ 32 := h b (by simp)
    have ih := sp_hit l r (fun x hx => h x (by simp [hx]))
    simp only [List.cons_append, Lib.indexByte, beq_iff_eq, h0, if_false, ih, List.length_cons]
    rw [if_neg (by omega)]
    push_cast
    omega
theorem cut_hit (l r : List UInt8) (h : ∀ b ∈ l, b ≠ 32) : Lib.cut (l ++ 32 :: r) [32] = (l, r, true) := by
  unfold Lib.cut
  rw [Lib.index_one, sp_hit l r h, if_pos (by omega)]
  simp
theorem cut_any (l r : List UInt8) (h : ∀ b ∈ l, b ≠ 32) (hl : l.length ≤ 100000000) (hr : r.length ≤ 100000000) (w : World) (hG : GL w) :
    Calls Tryd.prog 27 #[.string (X.bytes (l ++ 32 :: r)), .string ⟨#[32]⟩] w fun e w' => e = .returned (.tuple #[.string (X.bytes l), .string (X.bytes r), .bool true]) ∧ Below w.heap.size w w' := by
  obtain ⟨m, hm⟩ := hG.most
  refine (Tryd.strings_Cut (X.bytes (l ++ 32 :: r)) ⟨#[32]⟩ m w ?_ hm).mono ?_
  · rw [bytes_size, List.length_append, List.length_cons]
    omega
  · rintro e w' ⟨rfl, n, rfl⟩
    rw [bytes_list]
    have e1 : Lib.cut (l ++ 32 :: r) (⟨#[32]⟩ : ByteArray).data.toList = (l, r, true) := cut_hit l r h
    rw [e1]
    exact ⟨rfl, X.below_drewN (Below.refl _ _) n⟩
/-- Digits. -/
def isD (b : UInt8) : Prop := 48 ≤ b.toNat ∧ b.toNat ≤ 57
def fold (n : Int) (l : List UInt8) : Int := l.foldl (fun n b => 10 * n + ((b.toNat : Int) - 48)) n
theorem fold_app (n : Int) (a b : List UInt8) : fold n (a ++ b) = fold (fold n a) b := by simp [fold]
theorem dd_isD (k : Nat) : ∀ u, u < 10 ^ (k + 1) → (∀ b ∈ Lib.decDigits u, isD b) ∧ fold 0 (Lib.decDigits u) = (u : Int) ∧ (10 ≤ u → ∃ c r, Lib.decDigits u = c :: r ∧ c ≠ 48) ∧ Lib.decDigits u ≠ [] := by
  have one : ∀ u, u < 10 → (∀ b ∈ [UInt8.ofNat (48 + u)], isD b) ∧ fold 0 [UInt8.ofNat (48 + u)] = (u : Int) := by
    intro u h
    have e : (UInt8.ofNat (48 + u)).toNat = 48 + u := by rw [UInt8.toNat_ofNat']; omega
    refine ⟨fun b hb => ?_, ?_⟩
    · obtain rfl := List.mem_singleton.1 hb
      unfold isD
      omega
    · simp only [fold, List.foldl_cons, List.foldl_nil, e]
      omega
  induction k with
  | zero =>
    intro u h
    rw [Lib.decDigits_one (by omega)]
    exact ⟨(one u (by omega)).1, (one u (by omega)).2, fun z => by omega, by simp⟩
  | succ k ih =>
    intro u h
    rw [Lib.decDigits]
    split
    · rename_i h9
      exact ⟨(one u h9).1, (one u h9).2, fun z => by omega, by simp⟩
    · rename_i h9
      obtain ⟨i1, i2, i3, i4⟩ := ih (u / 10) (by rw [Nat.pow_succ] at h; omega)
      obtain ⟨o1, o2⟩ := one (u % 10) (by omega)
      refine ⟨fun b hb => ?_, ?_, fun _ => ?_, by simp⟩
      · rcases List.mem_append.1 hb with hb | hb
        · exact i1 b hb
        · exact o1 b hb
      · rw [fold_app, i2]
        have e : (UInt8.ofNat (48 + u % 10)).toNat = 48 + u % 10 := by rw [UInt8.toNat_ofNat']; omega
        simp only [fold, List.foldl_cons, List.foldl_nil, e]
        omega
      · by_cases h10 : 10 ≤ u / 10
        · obtain ⟨c, r, e, hc⟩ := i3 h10
          exact ⟨c, r ++ [UInt8.ofNat (48 + u % 10)], by rw [e]; rfl, hc⟩
        · rw [Lib.decDigits_one (by omega)]
          refine ⟨UInt8.ofNat (48 + u / 10), _, rfl, fun z => ?_⟩
          have := congrArg UInt8.toNat z
          rw [UInt8.toNat_ofNat'] at this
          have : (48 : UInt8).toNat = 48 := rfl
          omega
theorem num_l0 (s : List UInt8) (hs : s.length ≤ 9) (hd : ∀ b ∈ s, isD b) : ∀ (n i : Nat) (acc : Int), s.length ≤ n + i → i ≤ s.length → 0 ≤ acc → acc < 10 ^ i →
    Ev (fun k => line_number.l0 k (X.bytes s) acc (s.length : Int) (i : Int)) (fold acc (s.drop i), true) := by
  have hsz : (((X.bytes s).size : Nat) : Int) = (s.length : Int) := rfl
  intro n
  induction n with
  | zero =>
    intro i acc h1 h2 h3 h4
    rw [List.drop_eq_nil_of_le (by omega)]
    refine Ev.step (f := fun _ => some _) (fun k => ?_) (Ev.now _)
    rw [line_number.l0, if_neg (by omega)]
    rfl
  | succ n ih =>
    intro i acc h1 h2 h3 h4
    by_cases hlt : i < s.length
    case neg =>
      rw [List.drop_eq_nil_of_le (by omega)]
      refine Ev.step (f := fun _ => some _) (fun k => ?_) (Ev.now _)
      rw [line_number.l0, if_neg (by omega)]
      rfl
    have hdr : s.drop i = s[i] :: s.drop (i + 1) := List.drop_eq_getElem_cons hlt
    have hbt : bt (X.bytes s) (i : Int) = ((s[i]).toNat : Int) := bt_bytes s i hlt
    have hdi := hd s[i] (List.getElem_mem hlt)
    rw [hdr]
    generalize s[i] = b at hbt hdi
    obtain ⟨d0, d1⟩ := hdi
    have hp : (10 : Int) ^ i ≤ 100000000 := by
      have key : ∀ j : Fin 9, (10 : Int) ^ j.val ≤ 100000000 := by decide
      exact key ⟨i, by omega⟩
    have g : 10 * acc + ((b.toNat : Int) - 48) < 10 ^ (i + 1) := by
      rw [Int.pow_succ]
      generalize (10 : Int) ^ i = P at h4
      clear ih hp hbt hdr h1 h2
      omega
    have hacc : acc ≤ 100000000 := by
      generalize (10 : Int) ^ i = P at h4 hp
      clear ih g hbt hdr h1 h2
      omega
    have h5 : s.length ≤ n + (i + 1) := by omega
    have h6 : i + 1 ≤ s.length := by omega
    have h7 : i + 1 ≤ 1000000000 := by omega
    have t0 : (i : Int) < (s.length : Int) := by omega
    clear h1 h2 h4 hp hdr
    have h8 : 0 ≤ 10 * acc + ((b.toNat : Int) - 48) := by omega
    have p0 : (0 : Int) ≤ (i : Int) := by omega
    have c0 : ¬ ((b.toNat : Int) < 48) := by omega
    have c1 : ¬ ((b.toNat : Int) > 57) := by omega
    have v2 : ((b.toNat : Int) - 48) % 256 = (b.toNat : Int) - 48 := by omega
    have v1 : wrap64 (10 * acc) = 10 * acc := w64 (by omega) (by omega)
    have v3 : wrap64 (10 * acc + ((b.toNat : Int) - 48)) = 10 * acc + ((b.toNat : Int) - 48) := w64 (by clear v1; omega) (by clear v1; omega)
    have v4 : wrap64 ((i : Int) + 1) = ((i + 1 : Nat) : Int) := w64n (b := 1) h7
    refine Ev.step (fun k => ?_) (ih (i + 1) (10 * acc + ((b.toNat : Int) - 48)) h5 h6 h8 g)
    rw [line_number.l0, if_pos t0, if_pos p0, hsz, if_pos t0, hbt, if_neg c0, if_neg c1, v1, v2, v3, v4]
theorem num_ev (n : Int) (h0 : 0 ≤ n) (h1 : n ≤ 999999999) : Ev (fun k => line_number.f k (X.bytes (Lib.itoa n))) (n, true) := by
  obtain ⟨u, rfl⟩ := Int.eq_ofNat_of_zero_le h0
  have e : Lib.itoa (u : Int) = Lib.decDigits u := by
    unfold Lib.itoa
    rw [if_neg (by omega)]
    rfl
  have hl := dd_len 8 u (by omega)
  obtain ⟨hd, hf, hh, hn⟩ := dd_isD 8 u (by omega)
  have hsz : (((X.bytes (Lib.decDigits u)).size : Nat) : Int) = ((Lib.decDigits u).length : Int) := rfl
  have key : Ev (fun k => line_number.j0 k (X.bytes (Lib.decDigits u)) false) ((u : Int), true) := by
    have := num_l0 (Lib.decDigits u) hl hd (Lib.decDigits u).length 0 0 (by omega) (by omega) (by omega) (by decide)
    rw [List.drop_zero, hf] at this
    refine Ev.step (fun k => ?_) this
    rw [line_number.j0, if_neg Bool.false_ne_true, hsz]
    rfl
  rw [e]
  unfold line_number.f
  rw [bytes_toList]
  have g9 : (((Lib.decDigits u).length : Int) > 9) = False := eq_false (by omega)
  have gp : ((0 : Int) < ((Lib.decDigits u).length : Int)) = True := eq_true (by have := List.length_pos_iff.2 hn; omega)
  simp only [hn, if_false, hsz, g9, gp, if_true]
  by_cases h1' : ((Lib.decDigits u).length : Int) > 1
  · have h10 : 10 ≤ u := by
      by_cases z : u < 10
      · rw [Lib.decDigits_one z] at h1'
        simp at h1'
      · omega
    obtain ⟨c, r, ec, hc⟩ := hh h10
    have hb : bt (X.bytes (Lib.decDigits u)) 0 = (c.toNat : Int) := by
      rw [ec]
      exact bt_bytes (c :: r) 0 (by simp)
    have e48 : ((c.toNat : Int) == 48) = false := beq_eq_false_iff_ne.2 (fun z => hc ((u8_eq (n := 48) (by decide)).1 z))
    simp only [h1', if_true, hb, e48]
    exact key
  · simp only [h1', if_false]
    exact key
theorem number_any (n : Int) (h0 : 0 ≤ n) (h1 : n ≤ 999999999) (w : World) :
    Calls Tryd.prog 31 #[.string (X.bytes (Lib.itoa n))] w fun e w' => e = .returned (.tuple #[.int .i64 n, .bool true]) ∧ Drawn0 w w' := by
  obtain ⟨k, hk⟩ := num_ev n h0 h1
  exact line_number.calls k _ n true w (hk k (Nat.le_refl _))
theorem quoted_any (x r : List UInt8) (hl : (quote x ++ r).length ≤ 1000000) (w : World) :
    Calls Tryd.prog 34 #[.string (X.bytes (quote x ++ r))] w fun e w' => e = .returned (.tuple #[.string (X.bytes x), .string (X.bytes r), .bool true]) ∧ Below w.heap.size w w' := by
  obtain ⟨k, hk⟩ := lq_ev (quote x ++ r) hl
  have h := hk k (Nat.le_refl _)
  have e : qres (quote x ++ r) = (X.bytes x, X.bytes r, true) := by
    have := de_quote x r
    unfold quote
    rw [List.cons_append, List.append_assoc]
    show res [] (de (x.flatMap enc ++ 34 :: r)) = _
    rw [this]
    rfl
  rw [e] at h
  exact line_quoted.calls k _ _ _ _ w h
end Go.Proofs.YtcdbnphhoihldaaDoor.Line
/- Lines: three texts in quotes. -/
namespace Go.Proofs.YtcdbnphhoihldaaDoor.Line
open Go.RowKit Go.Proofs.YtcdbnphhoihldaaDoor.X Go.Proofs.YtcdbnphhoihldaaDoor.Cal Go.Proofs.YtcdbnphhoihldaaDoor.Pure Go.Proofs.YtcdbnphhoihldaaDoor.Quo Go.Proofs.YtcdbnphhoihldaaDoorW.PrintWords Go.Proofs.YtcdbnphhoihldaaDoorW.PrintLast Go.Proofs.YtcdbnphhoihldaaDoorW.PrintMore
attribute [local go_sem] max2_int min2_int max_two min_two max_three min_three max_four min_four
set_option linter.unusedVariables false
set_option linter.unusedSimpArgs false

/-- A block of three texts. -/
structure T3 (w : World) (b : Nat) (x y z : ByteArray) : Prop where
  c0 : w.cell? ⟨b, 0, none⟩ = some (.string x)
  c1 : w.cell? ⟨b, 1, none⟩ = some (.string y)
  c2 : w.cell? ⟨b, 2, none⟩ = some (.string z)
  f : ∀ i, w.frozen? ⟨b, i, none⟩ = false
theorem T3.lt {w : World} {b : Nat} {x y z : ByteArray} (h : T3 w b x y z) : b < w.heap.size := World.block_lt_of_cell? w _ h.c0
theorem T3.below {w w' : World} {b : Nat} {x y z : ByteArray} (h : T3 w b x y z) (hb : Below w.heap.size w w') : T3 w' b x y z := by
  have hk := hb.block b h.lt
  exact ⟨(World.cell?_of_block hk).trans h.c0, (World.cell?_of_block hk).trans h.c1, (World.cell?_of_block hk).trans h.c2, fun i => (World.frozen?_of_block hk).trans (h.f i)⟩
theorem T3.drewN {w : World} {b : Nat} {x y z : ByteArray} (h : T3 w b x y z) (n : Nat) : T3 (w.drewN n) b x y z := h.below (X.below_drewN (Below.refl _ _) n)
theorem T3.drew {w : World} {b : Nat} {x y z : ByteArray} (h : T3 w b x y z) : T3 w.drew b x y z := h.below (X.below_drew (Below.refl _ _))
theorem T3.new (w : World) (t : Nat) : T3 (w.alloc (.cells #[.string ⟨#[]⟩, .string ⟨#[]⟩, .string ⟨#[]⟩] t)) w.heap.size ⟨#[]⟩ ⟨#[]⟩ ⟨#[]⟩ :=
  ⟨World.cell?_alloc_new .., World.cell?_alloc_new .., World.cell?_alloc_new .., fun i => frozen_of_row _ _ _ _ _ (heap_alloc_new w _)⟩
theorem T3.s0 {w : World} {b : Nat} {x y z : ByteArray} (h : T3 w b x y z) (v : ByteArray) : T3 (w.setCell ⟨b, 0, none⟩ (.string v)) b v y z :=
  ⟨World.cell?_setCell_same _ _ _ h.c0, (World.cell?_setCell_other _ _ _ _ (by simp)).trans h.c1, (World.cell?_setCell_other _ _ _ _ (by simp)).trans h.c2, fun i => (World.frozen?_setCell _ _ _ _).trans (h.f i)⟩
theorem T3.s1 {w : World} {b : Nat} {x y z : ByteArray} (h : T3 w b x y z) (v : ByteArray) : T3 (w.setCell ⟨b, 1, none⟩ (.string v)) b x v z :=
  ⟨(World.cell?_setCell_other _ _ _ _ (by simp)).trans h.c0, World.cell?_setCell_same _ _ _ h.c1, (World.cell?_setCell_other _ _ _ _ (by simp)).trans h.c2, fun i => (World.frozen?_setCell _ _ _ _).trans (h.f i)⟩
theorem T3.s2 {w : World} {b : Nat} {x y z : ByteArray} (h : T3 w b x y z) (v : ByteArray) : T3 (w.setCell ⟨b, 2, none⟩ (.string v)) b x y v :=
  ⟨(World.cell?_setCell_other _ _ _ _ (by simp)).trans h.c0, (World.cell?_setCell_other _ _ _ _ (by simp)).trans h.c1, World.cell?_setCell_same _ _ _ h.c2, fun i => (World.frozen?_setCell _ _ _ _).trans (h.f i)⟩
theorem T3.other {w : World} {b b' : Nat} {x y z : ByteArray} (h : T3 w b x y z) (hb : b' ≠ b) (i : Nat) (v : Value) : T3 (w.setCell ⟨b', i, none⟩ v) b x y z :=
  ⟨(World.cell?_setCell_other _ _ _ _ (by simp [hb])).trans h.c0, (World.cell?_setCell_other _ _ _ _ (by simp [hb])).trans h.c1, (World.cell?_setCell_other _ _ _ _ (by simp [hb])).trans h.c2, fun i => (World.frozen?_setCell _ _ _ _).trans (h.f i)⟩
theorem results_cell2 {P : Program} {fn : Func} {p u v : Tmp} {ty : TypeId} (h : fn.results = #[.cell p ty, .tmp u, .tmp v]) (tmps : Array Value) (w : World) (b : Nat) (cs : List Value) (d : TypeDesc) (hp : tmps.getD p undef = .pointer (some ⟨b, 0, none⟩)) (hc : w.rangeAt b 0 cs)
    (hu : P.underlying ty = some d) (hd : d.isRow = true) (hi : (P.info? ty).map (·.size) = some cs.length) : (results fn tmps).run P w = .ok (.tuple #[.agg cs.toArray, tmps.getD u undef, tmps.getD v undef]) w := by
  have hp' : tmps[p]?.getD undef = .pointer (some ⟨b, 0, none⟩) := by simpa using hp
  simp [results, h, hp', asAddr, run_loadVar_mid w b 0 ty cs d hc hu hd hi]
theorem results_cell1 {P : Program} {fn : Func} {p u : Tmp} {ty : TypeId} (h : fn.results = #[.cell p ty, .tmp u]) (tmps : Array Value) (w : World) (b : Nat) (cs : List Value) (d : TypeDesc) (hp : tmps.getD p undef = .pointer (some ⟨b, 0, none⟩)) (hc : w.rangeAt b 0 cs)
    (hu : P.underlying ty = some d) (hd : d.isRow = true) (hi : (P.info? ty).map (·.size) = some cs.length) : (results fn tmps).run P w = .ok (.tuple #[.agg cs.toArray, tmps.getD u undef]) w := by
  have hp' : tmps[p]?.getD undef = .pointer (some ⟨b, 0, none⟩) := by simpa using hp
  simp [results, h, hp', asAddr, run_loadVar_mid w b 0 ty cs d hc hu hd hi]
theorem T3.range {w : World} {b : Nat} {x y z : ByteArray} (h : T3 w b x y z) : w.rangeAt b 0 [.string x, .string y, .string z] := by
  intro j v hv
  match j, hv with
  | 0, hv => obtain rfl := Option.some.inj hv; exact h.c0
  | 1, hv => obtain rfl := Option.some.inj hv; exact h.c1
  | 2, hv => obtain rfl := Option.some.inj hv; exact h.c2
  | j + 3, hv => simp at hv
theorem size_three : (Tryd.prog.info? 52).map (·.size) = some 3 := by kernel_rfl
/-- A text behind a space, as a letter. -/
theorem behind (q : List UInt8) : ∃ z : ByteArray, X.bytes (32 :: q) = z ∧ (z.toList == []) = false ∧ (z.toList = []) = False ∧ (0 : Int) < (z.size : Int) ∧ (∀ h : 0 < z.size, ((z[0]'h).toNat : Int) = 32) ∧ (1 : Int) ≤ (z.size : Int) ∧ z.extract 1 z.size = X.bytes q := by
  refine ⟨_, rfl, ?_, ?_, ?_, ?_, ?_, ?_⟩
  · rw [bytes_toList]; rfl
  · rw [bytes_toList]; exact eq_false (by simp)
  · rw [bytes_size, List.length_cons]; omega
  · intro h; rfl
  · rw [bytes_size, List.length_cons]; omega
  · rw [extract_bytes, bytes_size, List.take_of_length_le (by simp)]; rfl
set_option maxRecDepth 100000 in
set_option maxHeartbeats 4000000 in
theorem texts_any (x1 x2 x3 r : List UInt8) (hl : (quote x1 ++ 32 :: (quote x2 ++ 32 :: (quote x3 ++ 32 :: r))).length ≤ 1000000) (w : World) :
    Calls Tryd.prog 30 #[.string (X.bytes (quote x1 ++ 32 :: (quote x2 ++ 32 :: (quote x3 ++ 32 :: r))))] w fun e w' => e = .returned (.tuple #[.agg #[.string (X.bytes x1), .string (X.bytes x2), .string (X.bytes x3)], .string (X.bytes r), .bool true]) ∧ Below w.heap.size w w' := by
  have l2 : (quote x2 ++ 32 :: (quote x3 ++ 32 :: r)).length ≤ 1000000 := by rw [List.length_append, List.length_cons] at hl; omega
  have l3 : (quote x3 ++ 32 :: r).length ≤ 1000000 := by rw [List.length_append, List.length_cons] at l2; omega
  have C1 := Lib.hid (fun W => quoted_any x1 _ hl W)
  have C2 := Lib.hid (fun W => quoted_any x2 _ l2 W)
  have C3 := Lib.hid (fun W => quoted_any x3 _ l3 W)
  obtain ⟨s0, e0⟩ : ∃ z, X.bytes (quote x1 ++ 32 :: (quote x2 ++ 32 :: (quote x3 ++ 32 :: r))) = z := ⟨_, rfl⟩
  obtain ⟨z1, h1, a1, b1, c1, d1, g1, k1⟩ := behind (quote x2 ++ 32 :: (quote x3 ++ 32 :: r))
  obtain ⟨z2, h2, a2, b2, c2, d2, g2, k2⟩ := behind (quote x3 ++ 32 :: r)
  obtain ⟨z3, h3, a3, b3, c3, d3, g3, k3⟩ := behind r
  obtain ⟨s1, e1⟩ : ∃ z, X.bytes (quote x2 ++ 32 :: (quote x3 ++ 32 :: r)) = z := ⟨_, rfl⟩
  obtain ⟨s2, e2⟩ : ∃ z, X.bytes (quote x3 ++ 32 :: r) = z := ⟨_, rfl⟩
  obtain ⟨s3, e3⟩ : ∃ z, X.bytes r = z := ⟨_, rfl⟩
  obtain ⟨y1, f1⟩ : ∃ z, X.bytes x1 = z := ⟨_, rfl⟩
  obtain ⟨y2, f2⟩ : ∃ z, X.bytes x2 = z := ⟨_, rfl⟩
  obtain ⟨y3, f3⟩ : ∃ z, X.bytes x3 = z := ⟨_, rfl⟩
  rw [e0, h1, f1] at C1
  rw [e1, h2, f2] at C2
  rw [e2, h3, f3] at C3
  rw [e1] at k1
  rw [e2] at k2
  rw [e3] at k3
  rw [e0, e3, f1, f2, f3]
  clear e0 e1 e2 e3 h1 h2 h3 f1 f2 f3 hl l2 l3
  have q2 := T3.new w 52
  have q5 := T3.new (w.alloc (.cells #[.string ⟨#[]⟩, .string ⟨#[]⟩, .string ⟨#[]⟩] 52)) 52
  rw [World.size_alloc] at q5
  have Q2 := Lib.hid (q2.below ((Below.refl _ _).alloc (Nat.le_refl _) (.cells #[.string ⟨#[]⟩, .string ⟨#[]⟩, .string ⟨#[]⟩] 52)))
  have Q5 := Lib.hid q5
  have HB := Lib.hid (((Below.refl w.heap.size w).alloc (Nat.le_refl _) (.cells #[.string ⟨#[]⟩, .string ⟨#[]⟩, .string ⟨#[]⟩] 52)).alloc (by simp) (.cells #[.string ⟨#[]⟩, .string ⟨#[]⟩, .string ⟨#[]⟩] 52))
  clear q2 q5
  go_enter Tryd.func30, Tryd.ntmps30
  go_wp2_with fail
  refine wp_loop_rounds 4 ?_
  rw [rounds_succ]
  go_wp2_with fail
  refine (C1.out _).mono ?_
  rintro e w1 ⟨rfl, hb1⟩
  have Q2 := Lib.hid (Q2.out.below hb1)
  have Q5 := Lib.hid (Q5.out.below hb1)
  have HB := Lib.hid (below_then HB.out hb1)
  clear hb1
  have u0 := Q5.out.c0
  have v0 := Q5.out.f 0
  go_wp2_with fail
  go_region
  have Q5 := Lib.hid (Q5.out.s0 y1).drew
  have Q2 := Lib.hid (Q2.out.other (b' := w.heap.size + 1) (by omega) 0 (.string y1)).drew
  have HB := Lib.hid (X.below_drew (X.below_setCell HB.out ⟨w.heap.size + 1, 0, none⟩ (Nat.le_succ _) (.string y1)))
  obtain ⟨v1, hv⟩ : ∃ v, (w1.setCell ⟨w.heap.size + 1, 0, none⟩ (.string y1)).drew = v := ⟨_, rfl⟩
  rw [hv] at Q2 Q5 HB ⊢
  clear hv u0 v0
  go_wp2_with fail
  rw [rounds_succ]
  go_wp2_with fail
  refine (C2.out _).mono ?_
  rintro e w2 ⟨rfl, hb1⟩
  have Q2 := Lib.hid (Q2.out.below hb1)
  have Q5 := Lib.hid (Q5.out.below hb1)
  have HB := Lib.hid (below_then HB.out hb1)
  clear hb1
  have u0 := Q5.out.c1
  have v0 := Q5.out.f 1
  go_wp2_with fail
  go_region
  have Q5 := Lib.hid (Q5.out.s1 y2).drew
  have Q2 := Lib.hid (Q2.out.other (b' := w.heap.size + 1) (by omega) 1 (.string y2)).drew
  have HB := Lib.hid (X.below_drew (X.below_setCell HB.out ⟨w.heap.size + 1, 1, none⟩ (Nat.le_succ _) (.string y2)))
  obtain ⟨v2, hv⟩ : ∃ v, (w2.setCell ⟨w.heap.size + 1, 1, none⟩ (.string y2)).drew = v := ⟨_, rfl⟩
  rw [hv] at Q2 Q5 HB ⊢
  clear hv u0 v0
  go_wp2_with fail
  rw [rounds_succ]
  go_wp2_with fail
  refine (C3.out _).mono ?_
  rintro e w3 ⟨rfl, hb1⟩
  have Q2 := Lib.hid (Q2.out.below hb1)
  have Q5 := Lib.hid (Q5.out.below hb1)
  have HB := Lib.hid (below_then HB.out hb1)
  clear hb1
  have u0 := Q5.out.c2
  have v0 := Q5.out.f 2
  go_wp2_with fail
  go_region
  have Q5 := Lib.hid (Q5.out.s2 y3).drew
  have Q2 := Lib.hid (Q2.out.other (b' := w.heap.size + 1) (by omega) 2 (.string y3)).drew
  have HB := Lib.hid (X.below_drew (X.below_setCell HB.out ⟨w.heap.size + 1, 2, none⟩ (Nat.le_succ _) (.string y3)))
  obtain ⟨v3, hv⟩ : ∃ v, (w3.setCell ⟨w.heap.size + 1, 2, none⟩ (.string y3)).drew = v := ⟨_, rfl⟩
  rw [hv] at Q2 Q5 HB ⊢
  clear hv u0 v0
  go_wp2_with fail
  rw [rounds_succ]
  have g0 := Q5.out.c0
  have g1 := Q5.out.c1
  have g2 := Q5.out.c2
  have j0 := Q2.out.c0
  have j1 := Q2.out.c1
  have j2 := Q2.out.c2
  have m0 := Q2.out.f 0
  have m1 := Q2.out.f 1
  have m2 := Q2.out.f 2
  go_wp2_with fail
  have R := ((Q2.out.s0 y1).s1 y2).s2 y3
  have hb : Below w.heap.size w (((v3.setCell ⟨w.heap.size, 0, none⟩ (.string y1)).setCell ⟨w.heap.size, 1, none⟩ (.string y2)).setCell ⟨w.heap.size, 2, none⟩ (.string y3)) :=
    X.below_setCell (X.below_setCell (X.below_setCell HB.out _ (Nat.le_refl _) _) _ (Nat.le_refl _) _) _ (Nat.le_refl _) _
  (try simp only [Exit.inBlock, Exit.then])
  refine bodyPost_ret (results_cell2 rfl _ _ w.heap.size [.string y1, .string y2, .string y3] _ rfl R.range Tryd.underlying52 rfl size_three) rfl ?_
  exact ⟨rfl, hb⟩
end Go.Proofs.YtcdbnphhoihldaaDoor.Line
/- Lines: Parse of a line's text. -/
namespace Go.Proofs.YtcdbnphhoihldaaDoor.Line
open Go.RowKit Go.Proofs.YtcdbnphhoihldaaDoor.X Go.Proofs.YtcdbnphhoihldaaDoor.Cal Go.Proofs.YtcdbnphhoihldaaDoor.Pure Go.Proofs.YtcdbnphhoihldaaDoor.Quo Go.Proofs.YtcdbnphhoihldaaDoorW.PrintWords Go.Proofs.YtcdbnphhoihldaaDoorW.PrintLast Go.Proofs.YtcdbnphhoihldaaDoorW.PrintMore
attribute [local go_sem] max2_int min2_int max_two min_two max_three min_three max_four min_four
set_option linter.unusedVariables false
set_option linter.unusedSimpArgs false

/-- A block that holds a line. -/
structure T7 (w : World) (b : Nat) (l : Ln) : Prop where
  r : w.rangeAt b 0 l.cells
  f : ∀ i, w.frozen? ⟨b, i, none⟩ = false
theorem T7.lt {w : World} {b : Nat} {l : Ln} (h : T7 w b l) : b < w.heap.size := World.block_lt_of_cell? w _ (h.r 0 _ rfl)
theorem T7.below {w w' : World} {b : Nat} {l : Ln} (h : T7 w b l) (hb : Below w.heap.size w w') : T7 w' b l := by
  have hk := hb.block b h.lt
  exact ⟨fun j v hv => (World.cell?_of_block hk).trans (h.r j v hv), fun i => (World.frozen?_of_block hk).trans (h.f i)⟩
theorem T7.new (w : World) (l : Ln) (t : Nat) : T7 (w.alloc (.cells l.cells.toArray t)) w.heap.size l :=
  ⟨fun j v hv => by rw [Nat.zero_add, World.cell?_alloc_new]; simpa using hv, fun i => frozen_of_row _ _ _ _ _ (heap_alloc_new w _)⟩
theorem T7.there {w : World} {b : Nat} {l : Ln} (h : T7 w b l) : w.there b 0 7 := fun j hj => ⟨by
  have := h.r j (l.cells[j]) (List.getElem?_eq_getElem (by rw [Ln.len]; exact hj))
  rw [this]; rfl, h.f _⟩
theorem T3.lit (w : World) (x y z : ByteArray) (t : Nat) : T3 (w.alloc (.cells #[.string x, .string y, .string z] t)) w.heap.size x y z :=
  ⟨World.cell?_alloc_new .., World.cell?_alloc_new .., World.cell?_alloc_new .., fun i => frozen_of_row _ _ _ _ _ (heap_alloc_new w _)⟩
/-- A word is found. -/
def wordsB : List ByteArray := [X.bytes [104, 105, 116], X.bytes [109, 105, 115, 115], X.bytes [99, 104, 101, 99, 107], X.bytes [100, 101, 110, 121], X.bytes [101, 114, 114, 111, 114], X.bytes [99, 111, 110, 115, 111, 108, 101]]
theorem index_any (h : Int) (h0 : 0 ≤ h) (h6 : h < 6) (w : World) :
    Calls Tryd.prog 28 #[.slice (some ⟨w.heap.size, 0, none⟩) 6 6, .string (X.bytes (words.getD h.toNat []))] (w.alloc wordsObj) fun e w' => e = .returned (.int .i64 h) ∧ w' = w.alloc wordsObj := by
  refine (Tryd.slices_Index_string w.heap.size 0 6 6 wordsB (X.bytes (words.getD h.toNat [])) (w.alloc wordsObj) (by decide) (by decide) ?_).mono ?_
  · intro j hj
    unfold wordsObj
    rw [World.cell?_alloc_new]
    match j, hj with
    | 0, _ | 1, _ | 2, _ | 3, _ | 4, _ | 5, _ => rfl
    | j + 6, z => simp [wordsB] at z; omega
  · rintro e w' ⟨rfl, rfl⟩
    refine ⟨?_, rfl⟩
    have key : ∀ k : Fin 6, Lib.idxOfS (wordsB.take 6) (X.bytes (words.getD k.val [])) = (k.val : Int) := by decide +kernel
    have := key ⟨h.toNat, by omega⟩
    simp only at this
    rw [this, Int.toNat_of_nonneg h0]
theorem words_sp (h : Int) (h0 : 0 ≤ h) (h6 : h < 6) : ∀ b ∈ words.getD h.toNat [], b ≠ 32 := by
  have key : ∀ k : Fin 6, ∀ b ∈ words.getD k.val [], b ≠ 32 := by decide
  exact key ⟨h.toNat, by omega⟩
theorem itoa_sp (n : Int) (h0 : 0 ≤ n) (h1 : n ≤ 999999999) : ∀ b ∈ Lib.itoa n, b ≠ 32 := by
  unfold Lib.itoa
  rw [if_neg (by omega)]
  intro b hb e
  have := (dd_isD 8 n.toNat (by omega)).1 b hb
  unfold isD at this
  rw [e] at this
  exact absurd this.1 (by decide)
/-- What a line that may be read back is. -/
structure Good (T : List UInt8) (l : Ln) : Prop where
  hT : Ev (fun k => date_Text.f k l.time) (X.bytes T)
  hp : Ev (fun k => date_Parse.f k (X.bytes T)) (l.time, 0)
  len : T.length = 29
  h0 : 0 ≤ l.how
  h1 : l.how < 6
  s0 : 0 ≤ l.status
  s1 : l.status ≤ 999999999
  z0 : 0 ≤ l.size
  z1 : l.size ≤ 999999999
  m : l.m.size ≤ 10000
  h : l.h.size ≤ 10000
  t : l.t.size ≤ 10000
/-- A line's text, from its parts. -/
def tail4 (l : Ln) : List UInt8 := Lib.itoa l.status ++ 32 :: Lib.itoa l.size
def tail3 (l : Ln) : List UInt8 := quote l.m.data.toList ++ 32 :: (quote l.h.data.toList ++ 32 :: (quote l.t.data.toList ++ 32 :: tail4 l))
def tail2 (l : Ln) : List UInt8 := words.getD l.how.toNat [] ++ 32 :: tail3 l
theorem text_tail {T : List UInt8} {l : Ln} (g : Good T l) : lineText T l = T ++ 32 :: tail2 l := by
  have e1 : hw l.how = words.getD l.how.toNat [] := if_pos ⟨g.h0, g.h1⟩
  have e2 : mx0 l.status = l.status := if_neg (by have := g.s0; omega)
  have e3 : mx0 l.size = l.size := if_neg (by have := g.z0; omega)
  unfold lineText tail2 tail3 tail4
  rw [e1, e2, e3]
  simp
theorem Good.lens {T : List UInt8} {l : Ln} (g : Good T l) : (tail3 l).length ≤ 200000 ∧ (tail4 l).length ≤ 100 ∧ (words.getD l.how.toNat []).length ≤ 19 := by
  have a := quote_len l.m.data.toList
  have b := quote_len l.h.data.toList
  have c := quote_len l.t.data.toList
  have d := itoa_len l.status g.s0 (by have := g.s1; omega)
  have e := itoa_len l.size g.z0 (by have := g.z1; omega)
  have m : l.m.data.size ≤ 10000 := g.m
  have h : l.h.data.size ≤ 10000 := g.h
  have t : l.t.data.size ≤ 10000 := g.t
  simp only [Array.length_toList] at a b c
  have key : ∀ k : Fin 6, (words.getD k.val []).length ≤ 19 := by decide
  have hw := key ⟨l.how.toNat, by have := g.h0; have := g.h1; omega⟩
  refine ⟨?_, ?_, hw⟩
  · unfold tail3 tail4
    simp only [List.length_append, List.length_cons]
    omega
  · unfold tail4
    simp only [List.length_append, List.length_cons]
    omega
theorem drop30 {T q : List UInt8} (h : T.length = 29) : (T ++ 32 :: q).drop 30 = q := by
  have e : T ++ 32 :: q = (T ++ [32]) ++ q := by simp
  rw [e, show 30 = (T ++ [32]).length by simp [h], List.drop_left]
set_option maxRecDepth 100000 in
set_option maxHeartbeats 8000000 in
theorem Parse_any (T : List UInt8) (l : Ln) (g : Good T l) (w : World) (hG : GL w) :
    Calls Tryd.prog 10 #[.string (X.bytes (lineText T l))] w fun e w' => e = .returned (.tuple #[.agg l.cells.toArray, .int .i64 0]) ∧ Below w.heap.size w w' := by
  obtain ⟨lt3, lt4, lw⟩ := g.lens
  have gl := g.len
  have C1 : ∀ W, GL W → Calls Tryd.prog 26 #[.string (X.bytes T)] W fun e w' => e = .returned (.tuple #[.int .i64 l.time, .int .i64 0]) ∧ Below W.heap.size W w' := by
    obtain ⟨k, hk⟩ := g.hp
    exact fun W hW => date_Parse.calls k _ _ _ W hW (hk k (Nat.le_refl _))
  have C1 := Lib.hid C1
  have C2 := Lib.hid (fun W hW => cut_any (words.getD l.how.toNat []) (tail3 l) (words_sp _ g.h0 g.h1) (by omega) (by omega) W hW)
  have C3 := Lib.hid (fun W => index_any l.how g.h0 g.h1 W)
  have C4 := Lib.hid (fun W hW => dateText_any l.time T g.hT W hW)
  have h5 : (tail3 l).length ≤ 1000000 := by omega
  unfold tail3 at h5
  have C5 := Lib.hid (fun W => texts_any l.m.data.toList l.h.data.toList l.t.data.toList (tail4 l) h5 W)
  have C6 := Lib.hid (fun W hW => cut_any (Lib.itoa l.status) (Lib.itoa l.size) (itoa_sp _ g.s0 g.s1) (by unfold tail4 at lt4; rw [List.length_append] at lt4; omega) (by unfold tail4 at lt4; rw [List.length_append, List.length_cons] at lt4; omega) W hW)
  have C7 := Lib.hid (fun W => number_any l.status g.s0 g.s1 W)
  have C8 := Lib.hid (fun W => number_any l.size g.z0 g.z1 W)
  obtain ⟨S, hS, n0, n1, n2, n3, n4, n5, x1, x2⟩ : ∃ S : ByteArray, X.bytes (lineText T l) = S ∧ decide ((S.size : Int) < 30) = false ∧ ((S.size : Int) < 30) = False ∧ (∀ h : 29 < S.size, ((S[29]'h).toNat : Int) = 32) ∧ (29 : Int) < (S.size : Int) ∧ (29 : Int) ≤ (S.size : Int) ∧ (30 : Int) ≤ (S.size : Int) ∧ S.extract 0 29 = X.bytes T ∧ S.extract 30 S.size = X.bytes (tail2 l) := by
    have hl : (lineText T l).length = 30 + (tail2 l).length := by rw [text_tail g, List.length_append, List.length_cons]; omega
    have hsz : (((X.bytes (lineText T l)).size : Nat) : Int) = ((lineText T l).length : Int) := rfl
    refine ⟨_, rfl, decide_eq_false (by rw [hsz]; omega), eq_false (by rw [hsz]; omega), ?_, by rw [hsz]; omega, by rw [hsz]; omega, by rw [hsz]; omega, ?_, ?_⟩
    · intro h
      have h' : 29 < (lineText T l).length := h
      have e : (lineText T l)[29]'h' = 32 := by
        have : (lineText T l)[29]? = some 32 := by
          rw [text_tail g, List.getElem?_append_right (by omega), show 29 - T.length = 0 by omega]
          rfl
        rw [List.getElem?_eq_getElem h'] at this
        exact Option.some.inj this
      show (((lineText T l)[29]'h').toNat : Int) = 32
      rw [e]
      rfl
    · rw [extract_bytes, text_tail g, List.drop_zero, Nat.sub_zero, ← gl, List.take_left]
    · rw [extract_bytes, bytes_size, List.take_of_length_le (by rw [List.length_drop]; exact Nat.le_refl _), text_tail g, drop30 gl]
  rw [hS]
  have d0 : decide (l.how < 0) = false := decide_eq_false (by have := g.h0; omega)
  have d1 : (l.how < 0) = False := eq_false (by have := g.h0; omega)
  rw [show words.getD l.how.toNat [] ++ 32 :: tail3 l = tail2 l from rfl] at C2
  rw [show quote l.m.data.toList ++ 32 :: (quote l.h.data.toList ++ 32 :: (quote l.t.data.toList ++ 32 :: tail4 l)) = tail3 l from rfl, ← eq_bytes, ← eq_bytes, ← eq_bytes] at C5
  rw [show Lib.itoa l.status ++ 32 :: Lib.itoa l.size = tail4 l from rfl] at C6
  obtain ⟨TT, o1⟩ : ∃ z, X.bytes T = z := ⟨_, rfl⟩
  obtain ⟨S2, o2⟩ : ∃ z, X.bytes (tail2 l) = z := ⟨_, rfl⟩
  obtain ⟨WW, o3⟩ : ∃ z, X.bytes (words.getD l.how.toNat []) = z := ⟨_, rfl⟩
  obtain ⟨S3, o4⟩ : ∃ z, X.bytes (tail3 l) = z := ⟨_, rfl⟩
  obtain ⟨S4, o5⟩ : ∃ z, X.bytes (tail4 l) = z := ⟨_, rfl⟩
  obtain ⟨A1, o6⟩ : ∃ z, X.bytes (Lib.itoa l.status) = z := ⟨_, rfl⟩
  obtain ⟨A2, o7⟩ : ∃ z, X.bytes (Lib.itoa l.size) = z := ⟨_, rfl⟩
  rw [o1] at C1 C4 x1
  rw [o2, o3, o4] at C2
  rw [o2] at x2
  rw [o3] at C3
  rw [o4, o5] at C5
  rw [o5, o6, o7] at C6
  rw [o6] at C7
  rw [o7] at C8
  obtain ⟨t, how, m, h, u, st, sz⟩ := l
  simp only at C1 C3 C4 C5 C7 C8 d0 d1
  have HG := Lib.hid (hG.alloc (.cells zeroLn.cells.toArray 23))
  have HB := Lib.hid ((Below.refl w.heap.size w).alloc (Nat.le_refl _) (.cells zeroLn.cells.toArray 23))
  have H7 := Lib.hid (T7.new w zeroLn 23)
  rw [show (.cells zeroLn.cells.toArray 23 : Obj) = .cells #[.int .i64 0, .int .i64 0, .string ⟨#[]⟩, .string ⟨#[]⟩, .string ⟨#[]⟩, .int .i64 0, .int .i64 0] 23 from rfl] at HG HB H7
  clear hS o1 o2 o3 o4 o5 o6 o7 g hG lt3 lt4 lw gl h5
  go_enter Tryd.func10, Tryd.ntmps10
  go_wp2_with fail
  refine (C1.out _ HG.out).mono ?_
  rintro e w1 ⟨rfl, hb⟩
  have HG := Lib.hid (HG.out.below hb)
  have HB := Lib.hid (below_then HB.out hb)
  have H7 := Lib.hid (H7.out.below hb)
  clear hb
  go_wp2_with fail
  refine (C2.out _ HG.out).mono ?_
  rintro e w2 ⟨rfl, hb⟩
  have HG := Lib.hid (HG.out.below hb)
  have HB := Lib.hid (below_then HB.out hb)
  have H7 := Lib.hid (H7.out.below hb)
  clear hb
  go_wp2_with fail
  refine (words_any _).mono ?_
  rintro e w3 ⟨rfl, rfl⟩
  have hb := (Below.refl w2.heap.size w2).alloc (Nat.le_refl _) wordsObj
  have HG := Lib.hid (HG.out.below hb)
  have HB := Lib.hid (below_then HB.out hb)
  have H7 := Lib.hid (H7.out.below hb)
  clear hb
  go_wp2_with fail
  refine (C3.out w2).mono ?_
  rintro e w3 ⟨rfl, rfl⟩
  obtain ⟨w3, hw3⟩ : ∃ w3, w2.alloc wordsObj = w3 := ⟨_, rfl⟩
  rw [hw3] at HG HB H7 ⊢
  clear hw3
  go_wp2_with fail
--REG 6
  refine start_ (n := 17) (S := fun w' => Hid (GL w') ∧ Hid (Below w.heap.size w w') ∧ Hid (T7 w' w.heap.size zeroLn)) (ds := []) #[O,O,O,O,O,O,O,O,O,O,O,O,O,O,O,O,O] (by kernel_rfl) rfl rfl ⟨Lib.hid (HG.out.below (X.below_drew (Below.refl _ _))), Lib.hid (X.below_drew HB.out), Lib.hid (H7.out.below (X.below_drew (Below.refl _ _)))⟩ (fun hHeld => ?_)
  refine pure_ (i := 0) (N := some 43) (v := ?_) (a' := ?_) #[I,O,O,O,O,O,O,O,O,O,O,O,O,O,O,O,O] rfl rfl (by kernel_rfl) (fun _ _ _ h => h) (Or.inl ⟨by rfl, ?_⟩) ?_ ?_
  rotate_left
  · intro w'
    go_simp
    with_reducible rfl
  rotate_left
  · simp only [Act.put, List.setIfInBounds_toArray, List.set_cons_zero, List.set_cons_succ, i64_w, i32_w]
    rfl
  refine pure_ (i := 1) (N := some 44) (v := ?_) (a' := ?_) #[I,I,O,O,O,O,O,O,O,O,O,O,O,O,O,O,O] rfl rfl (by kernel_rfl) (fun _ _ _ h => h) (Or.inl ⟨by rfl, ?_⟩) ?_ ?_
  rotate_left
  · intro w'
    go_simp
    with_reducible rfl
  rotate_left
  · simp only [Act.put, List.setIfInBounds_toArray, List.set_cons_zero, List.set_cons_succ, i64_w, i32_w]
    rfl
  refine pure_ (i := 2) (N := some 45) (v := ?_) (a' := ?_) #[I,I,I,O,O,O,O,O,O,O,O,O,O,O,O,O,O] rfl rfl (by kernel_rfl) (fun _ _ _ h => h) (Or.inl ⟨by rfl, ?_⟩) ?_ ?_
  rotate_left
  · intro w'
    go_simp
    with_reducible rfl
  rotate_left
  · simp only [Act.put, List.setIfInBounds_toArray, List.set_cons_zero, List.set_cons_succ, i64_w, i32_w]
    rfl
  refine pure_ (i := 3) (N := some 46) (v := ?_) (a' := ?_) #[I,I,I,I,O,O,O,O,O,O,O,O,O,O,O,O,O] rfl rfl (by kernel_rfl) (fun _ _ _ h => h) (Or.inl ⟨by rfl, ?_⟩) ?_ ?_
  rotate_left
  · intro w'
    go_simp
    with_reducible rfl
  rotate_left
  · simp only [Act.put, List.setIfInBounds_toArray, List.set_cons_zero, List.set_cons_succ, i64_w, i32_w]
    rfl
  refine pure_ (i := 5) (N := some 48) (v := ?_) (a' := ?_) #[I,I,I,I,O,I,O,O,O,O,O,O,O,O,O,O,O] rfl rfl (by kernel_rfl) (fun _ _ _ h => h) (Or.inl ⟨by rfl, ?_⟩) ?_ ?_
  rotate_left
  · intro w'
    go_simp
    with_reducible rfl
  rotate_left
  · simp only [Act.put, List.setIfInBounds_toArray, List.set_cons_zero, List.set_cons_succ, i64_w, i32_w]
    rfl
  refine pure_ (i := 6) (N := some 49) (v := ?_) (a' := ?_) #[I,I,I,I,O,I,I,O,O,O,O,O,O,O,O,O,O] rfl rfl (by kernel_rfl) (fun _ _ _ h => h) (Or.inl ⟨by rfl, ?_⟩) ?_ ?_
  rotate_left
  · intro w'
    go_simp
    with_reducible rfl
  rotate_left
  · simp only [Act.put, List.setIfInBounds_toArray, List.set_cons_zero, List.set_cons_succ, i64_w, i32_w]
    rfl
  refine one_ (i := 4) (N := some 47) #[I,I,I,I,I,I,I,O,O,O,O,O,O,O,O,O,O] rfl rfl (by kernel_rfl) (by decide) (fun K hK => ?_)
  refine goes_ Tryd.func20 (by kernel_rfl) rfl #[.int .i64 t] (by rfl) rfl rfl (by (try simp only [List.map_toArray, List.map_cons, List.map_nil]); first | done | rfl) ?_
  with_reducible refine (C4.out _ (hHeld.1).out).mono ?_
  rintro e w4 ⟨rfl, hb⟩
  refine ⟨_, rfl, ?_⟩
  refine hK.out _ _ ⟨Lib.hid (GL.below (hHeld.1).out hb), Lib.hid (below_then (hHeld.2.1).out hb), Lib.hid (T7.below (hHeld.2.2).out hb)⟩ (fun hHeld => ?_)
  clear hK K
  refine norm_ (a' := ?_) ?_ ?_
  rotate_left
  · show Act.put _ (some 47) _ = _
    simp only [Act.put, List.setIfInBounds_toArray, List.set_cons_zero, List.set_cons_succ, i64_w, i32_w]
    rfl
  refine pure_ (i := 7) (N := some 50) (v := ?_) (a' := ?_) #[I,I,I,I,I,I,I,I,O,O,O,O,O,O,O,O,O] rfl rfl (by kernel_rfl) (fun _ _ _ h => h) (Or.inl ⟨by rfl, ?_⟩) ?_ ?_
  rotate_left
  · intro w'
    go_simp
    with_reducible rfl
  rotate_left
  · simp only [Act.put, List.setIfInBounds_toArray, List.set_cons_zero, List.set_cons_succ, i64_w, i32_w]
    rfl
  refine pure_ (i := 8) (N := some 51) (v := ?_) (a' := ?_) #[I,I,I,I,I,I,I,I,I,O,O,O,O,O,O,O,O] rfl rfl (by kernel_rfl) (fun _ _ _ h => h) (Or.inl ⟨by rfl, ?_⟩) ?_ ?_
  rotate_left
  · intro w'
    go_simp
    with_reducible rfl
  rotate_left
  · simp only [Act.put, List.setIfInBounds_toArray, List.set_cons_zero, List.set_cons_succ, i64_w, i32_w]
    rfl
  refine pure_ (i := 9) (N := some 52) (v := ?_) (a' := ?_) #[I,I,I,I,I,I,I,I,I,I,O,O,O,O,O,O,O] rfl rfl (by kernel_rfl) (fun _ _ _ h => h) (Or.inl ⟨by rfl, ?_⟩) ?_ ?_
  rotate_left
  · intro w'
    go_simp
    with_reducible rfl
  rotate_left
  · simp only [Act.put, List.setIfInBounds_toArray, List.set_cons_zero, List.set_cons_succ, i64_w, i32_w]
    rfl
  refine pure_ (i := 10) (N := some 53) (v := ?_) (a' := ?_) #[I,I,I,I,I,I,I,I,I,I,I,O,O,O,O,O,O] rfl rfl (by kernel_rfl) (fun _ _ _ h => h) (Or.inl ⟨by rfl, ?_⟩) ?_ ?_
  rotate_left
  · intro w'
    go_simp
    with_reducible rfl
  rotate_left
  · simp only [Act.put, List.setIfInBounds_toArray, List.set_cons_zero, List.set_cons_succ, i64_w, i32_w]
    rfl
  refine pure_ (i := 11) (N := some 54) (v := ?_) (a' := ?_) #[I,I,I,I,I,I,I,I,I,I,I,I,O,O,O,O,O] rfl rfl (by kernel_rfl) (fun _ _ _ h => h) (Or.inl ⟨by rfl, ?_⟩) ?_ ?_
  rotate_left
  · intro w'
    go_simp
    with_reducible rfl
  rotate_left
  · simp only [Act.put, List.setIfInBounds_toArray, List.set_cons_zero, List.set_cons_succ, i64_w, i32_w]
    rfl
  refine pure_ (i := 12) (N := some 55) (v := ?_) (a' := ?_) #[I,I,I,I,I,I,I,I,I,I,I,I,I,O,O,O,O] rfl rfl (by kernel_rfl) (fun _ _ _ h => h) (Or.inl ⟨by rfl, ?_⟩) ?_ ?_
  rotate_left
  · intro w'
    go_simp
    with_reducible rfl
  rotate_left
  · simp only [Act.put, List.setIfInBounds_toArray, List.set_cons_zero, List.set_cons_succ, i64_w, i32_w]
    rfl
  refine pure_ (i := 13) (N := some 56) (v := ?_) (a' := ?_) #[I,I,I,I,I,I,I,I,I,I,I,I,I,I,O,O,O] rfl rfl (by kernel_rfl) (fun _ _ _ h => h) (Or.inl ⟨by rfl, ?_⟩) ?_ ?_
  rotate_left
  · intro w'
    go_simp
    with_reducible rfl
  rotate_left
  · simp only [Act.put, List.setIfInBounds_toArray, List.set_cons_zero, List.set_cons_succ, i64_w, i32_w]
    rfl
  refine pure_ (i := 14) (N := some 57) (v := ?_) (a' := ?_) #[I,I,I,I,I,I,I,I,I,I,I,I,I,I,I,O,O] rfl rfl (by kernel_rfl) (fun _ _ _ h => h) (Or.inl ⟨by rfl, ?_⟩) ?_ ?_
  rotate_left
  · intro w'
    go_simp
    with_reducible rfl
  rotate_left
  · simp only [Act.put, List.setIfInBounds_toArray, List.set_cons_zero, List.set_cons_succ, i64_w, i32_w]
    rfl
  refine pure_ (i := 15) (N := some 58) (v := ?_) (a' := ?_) #[I,I,I,I,I,I,I,I,I,I,I,I,I,I,I,I,O] rfl rfl (by kernel_rfl) (fun _ _ _ h => h) (Or.inl ⟨by rfl, ?_⟩) ?_ ?_
  rotate_left
  · intro w'
    go_simp
    with_reducible rfl
  rotate_left
  · simp only [Act.put, List.setIfInBounds_toArray, List.set_cons_zero, List.set_cons_succ, i64_w, i32_w]
    rfl
  refine pure_ (i := 16) (N := some 59) (v := ?_) (a' := ?_) #[I,I,I,I,I,I,I,I,I,I,I,I,I,I,I,I,I] rfl rfl (by kernel_rfl) (fun _ _ _ h => h) (Or.inl ⟨by rfl, ?_⟩) ?_ ?_
  rotate_left
  · intro w'
    go_simp
    with_reducible rfl
  rotate_left
  · simp only [Act.put, List.setIfInBounds_toArray, List.set_cons_zero, List.set_cons_succ, i64_w, i32_w]
    rfl
  refine done_ (by kernel_rfl) ?_
--END
  obtain ⟨HG, HB, H7⟩ := hHeld
  go_wp2_with fail
  refine (C5.out _).mono ?_
  rintro e w5 ⟨rfl, hb⟩
  have HG := Lib.hid (HG.out.below hb)
  have HB := Lib.hid (below_then HB.out hb)
  have H7 := Lib.hid (H7.out.below hb)
  clear hb
  go_wp2_with fail
  have hb := (Below.refl w5.heap.size w5).alloc (Nat.le_refl _) (.cells #[.string m, .string h, .string u] 52)
  have HG := Lib.hid (HG.out.below hb)
  have HB := Lib.hid (below_then HB.out hb)
  have H7 := Lib.hid (H7.out.below hb)
  have H3 := Lib.hid (T3.lit w5 m h u 52)
  clear hb
  refine (C6.out _ HG.out).mono ?_
  rintro e w6 ⟨rfl, hb⟩
  have HB := Lib.hid (below_then HB.out hb)
  have H7 := Lib.hid (H7.out.below hb)
  have H3 := Lib.hid (H3.out.below hb)
  clear hb
  go_wp2_with fail
  refine (C7.out _).mono ?_
  rintro e w' ⟨rfl, ⟨nd, rfl⟩⟩
  go_wp2_with fail
  refine (C8.out _).mono ?_
  rintro e w' ⟨rfl, ⟨nd2, rfl⟩⟩
  have g0 := H3.out.c0
  have g1 := H3.out.c1
  have g2 := H3.out.c2
  have r0 := H7.out.r 0 _ rfl
  have r1 := H7.out.r 1 _ rfl
  have r2 := H7.out.r 2 _ rfl
  have r3 := H7.out.r 3 _ rfl
  have r4 := H7.out.r 4 _ rfl
  have r5 := H7.out.r 5 _ rfl
  have r6 := H7.out.r 6 _ rfl
  simp only [Nat.zero_add] at r0 r1 r2 r3 r4 r5 r6
  have f0 := H7.out.f 0
  have f1 := H7.out.f 1
  have f2 := H7.out.f 2
  have f3 := H7.out.f 3
  have f4 := H7.out.f 4
  have f5 := H7.out.f 5
  have f6 := H7.out.f 6
  go_wp2_with fail
  have R := World.rangeAt_setCells_same (w6.drewN (nd + nd2)) w.heap.size 0 (Ln.cells ⟨t, how, m, h, u, st, sz⟩) (H7.out.below (X.below_drewN (Below.refl _ _) _)).there
  have hb : Below w.heap.size w ((w6.drewN (nd + nd2)).setCells w.heap.size 0 (Ln.cells ⟨t, how, m, h, u, st, sz⟩)) := (X.below_drewN HB.out _).trans (below_cells (Nat.le_refl _) _ _ _)
  (try simp only [Exit.inBlock, Exit.then])
  refine bodyPost_ret (results_cell1 rfl _ _ w.heap.size (Ln.cells ⟨t, how, m, h, u, st, sz⟩) _ rfl R Tryd.underlying23 rfl size_line) rfl ?_
  exact ⟨rfl, hb⟩
set_option maxRecDepth 100000 in
set_option maxHeartbeats 8000000 in
theorem Parse_x (w : World) :
    Calls Tryd.prog 10 #[.string ⟨#[120]⟩] w fun e w' => e = .returned (.tuple #[.agg zeroLn.cells.toArray, .int .i64 123]) ∧ Below w.heap.size w w' := by
  have H7 := T7.new w zeroLn 23
  have hb := (Below.refl w.heap.size w).alloc (Nat.le_refl _) (.cells zeroLn.cells.toArray 23)
  have HB := Lib.hid hb
  have H7 := Lib.hid H7
  clear hb
  go_enter Tryd.func10, Tryd.ntmps10
  go_wp2_with fail
  (try simp only [Exit.inBlock, Exit.then])
  refine bodyPost_ret (results_cell1 rfl _ _ w.heap.size zeroLn.cells _ rfl H7.out.r Tryd.underlying23 rfl size_line) rfl ?_
  exact ⟨rfl, HB.out⟩
end Go.Proofs.YtcdbnphhoihldaaDoor.Line
/- The log, fourth part: what it holds behind k lines. -/
namespace Go.Proofs.YtcdbnphhoihldaaDoor.X
open Go.RowKit Go.Proofs.YtcdbnphhoihldaaDoorW.PrintWords Go.Proofs.YtcdbnphhoihldaaDoorW.PrintLast Go.Proofs.YtcdbnphhoihldaaDoorW.PrintMore
set_option linter.unusedVariables false
set_option linter.unusedSimpArgs false

theorem Ring.below {w w' : World} {gb rb N at_ n : Nat} {L : Nat → Ln} (h : Ring w gb rb N at_ n L) (hb : Below w.heap.size w w') : Ring w' gb rb N at_ n L := by
  by_cases hN : 0 < N
  · exact h.of_heap (hb.block _ h.gl) (hb.block _ (h.rl hN))
  · obtain rfl : N = 0 := by omega
    have hk := hb.block _ h.gl
    have c : ∀ i, w'.cell? ⟨gb, i, none⟩ = w.cell? ⟨gb, i, none⟩ := fun i => World.cell?_of_block hk
    have f : ∀ i, w'.frozen? ⟨gb, i, none⟩ = w.frozen? ⟨gb, i, none⟩ := fun i => World.frozen?_of_block hk
    exact ⟨h.ne, h.big, (c _).trans h.c0, (c _).trans h.c1, (c _).trans h.c2, (f _).trans h.f1, (f _).trans h.f2, fun i hi => by omega, fun j hj => by omega⟩
/-- The log behind k lines F 0, F 1, .. -/
structure Kept (w : World) (gb rb N : Nat) (F : Nat → Ln) (k : Nat) : Prop where
  ex : ∃ at_ n L, Ring w gb rb N at_ n L ∧ (n = if k < N then k else N) ∧ (0 < N → at_ = (k - n) % N) ∧ ∀ i, k - n ≤ i → i < k → L (i % N) = F i
theorem Kept.below {w w' : World} {gb rb N k : Nat} {F : Nat → Ln} (h : Kept w gb rb N F k) (hb : Below w.heap.size w w') : Kept w' gb rb N F k := by
  obtain ⟨a, n, L, r, h1, h2, h3⟩ := h.ex
  exact ⟨a, n, L, r.below hb, h1, h2, h3⟩
theorem Kept.start {w : World} {gb rb N : Nat} {F L : Nat → Ln} (h : Ring w gb rb N 0 0 L) : Kept w gb rb N F 0 :=
  ⟨0, 0, L, h, by split <;> omega, fun _ => (Nat.zero_mod N).symm, fun i _ hi => by omega⟩
theorem Kept.gl {w : World} {gb rb N k : Nat} {F : Nat → Ln} (h : Kept w gb rb N F k) : gb < w.heap.size := by
  obtain ⟨a, n, L, r, _⟩ := h.ex
  exact r.gl
theorem keep_add {w : World} {gb rb N k : Nat} {F : Nat → Ln} (h : Kept w gb rb N F k) (c : List Value) (hc : c = (F k).cells) :
    Calls Tryd.prog 12 #[.pointer (some ⟨gb, 0, none⟩), .agg c.toArray] w fun e w' => e = .returned (.tuple #[]) ∧ Kept w' gb rb N F (k + 1) ∧ ∀ B, B ≤ gb → B ≤ rb → B ≤ w.heap.size → Below B w w' := by
  subst hc
  obtain ⟨a, n, L, r, h1, h2, h3⟩ := h.ex
  by_cases hN : 0 < N
  case neg =>
    obtain rfl : N = 0 := by omega
    obtain rfl : n = 0 := by rw [h1, if_neg (by omega)]
    refine (Log_Add.empty gb rb a 0 L (F k) w r).mono ?_
    rintro e w' ⟨rfl, rfl⟩
    refine ⟨rfl, ⟨a, 0, L, r.below ((Below.refl _ _).alloc (Nat.le_refl _) _), by rw [if_neg (by omega)], fun z => by omega, fun i i1 i2 => by omega⟩, fun B _ _ hB => (Below.refl B w).alloc hB _⟩
  have ha := h2 hN
  by_cases hk : k < N
  · rw [if_pos hk] at h1
    subst h1
    rw [Nat.sub_self, Nat.zero_mod] at ha
    subst ha
    refine (Log_Add.room gb rb N 0 n L (F n) w r hk hN).mono ?_
    rintro e w' ⟨rfl, r', hb⟩
    rw [Nat.zero_add, Nat.mod_eq_of_lt hk] at r'
    refine ⟨rfl, ⟨0, n + 1, _, r', ?_, fun _ => by rw [Nat.sub_self, Nat.zero_mod], fun i i1 i2 => ?_⟩, hb⟩
    · split <;> omega
    · unfold put
      rw [Nat.mod_eq_of_lt (by omega)]
      by_cases e : i = n
      · rw [if_pos e, e]
      · rw [if_neg e]
        have := h3 i (by omega) (by omega)
        rwa [Nat.mod_eq_of_lt (by omega)] at this
  · rw [if_neg hk] at h1
    subst h1
    have hlt : a < n := ha ▸ Nat.mod_lt _ hN
    refine (Log_Add.full gb rb n a n L (F k) w r rfl hlt).mono ?_
    rintro e w' ⟨rfl, r', hb⟩
    have e1 : a = k % n := by
      rw [ha]
      have : k = (k - n) + n := by omega
      conv => rhs; rw [this, Nat.add_mod_right]
    have e2 : (a + 1) % n = (k + 1 - n) % n := by
      rw [ha, Nat.mod_add_mod]
      congr 1
      omega
    refine ⟨rfl, ⟨(a + 1) % n, n, _, r', ?_, fun _ => e2, fun i i1 i2 => ?_⟩, hb⟩
    · rw [if_neg (by omega)]
    · unfold put
      by_cases e : i = k
      · subst e
        rw [if_pos e1.symm]
      · have hne : i % n ≠ a := by
          rw [e1]
          intro z
          have q1 : i = n * (i / n) + i % n := (Nat.div_add_mod i n).symm
          have q2 : k = n * (k / n) + k % n := (Nat.div_add_mod k n).symm
          have q3 : k - i < n := by omega
          have q4 : k - i = n * (k / n) - n * (i / n) := by omega
          rw [← Nat.mul_sub] at q4
          have q5 : k / n - i / n = 0 := by
            by_cases z0 : k / n - i / n = 0
            · exact z0
            · have := Nat.le_mul_of_pos_right n (Nat.pos_of_ne_zero z0)
              omega
          rw [q5, Nat.mul_zero] at q4
          omega
        rw [if_neg hne]
        exact h3 i (by omega) (by omega)
theorem keep_len {w : World} {gb rb N k : Nat} {F : Nat → Ln} (h : Kept w gb rb N F k) (n : Nat) (hn : n = if k < N then k else N) :
    Calls Tryd.prog 14 #[.pointer (some ⟨gb, 0, none⟩)] w fun e w' => e = .returned (.int .i64 (n : Int)) ∧ w' = w := by
  obtain ⟨a, n', L, r, h1, _⟩ := h.ex
  obtain rfl : n = n' := hn.trans h1.symm
  exact Log_Len.calls gb rb N a n L w r
theorem keep_last {w : World} {gb rb N k : Nat} {F : Nat → Ln} (h : Kept w gb rb N F k) (x : Int) (n m : Nat) (hn : n = if k < N then k else N)
    (hm : (if (n : Int) < (if x < 0 then 0 else x) then (n : Int) else (if x < 0 then 0 else x)) = (m : Int)) :
    Calls Tryd.prog 13 #[.pointer (some ⟨gb, 0, none⟩), .int .i64 x] w fun e w' => ∃ a cap, e = .returned (.slice a m cap) ∧ (∀ j, j < m → ∃ g, a = some ⟨g, 0, none⟩ ∧ w'.rangeAt g (j * 7) (F (k - m + j)).cells) ∧ Below w.heap.size w w' := by
  obtain ⟨a, n', L, r, h1, h2, h3⟩ := h.ex
  obtain rfl : n = n' := hn.trans h1.symm
  have hmn : m ≤ n := by
    clear h1 hn h2 h3
    generalize (if x < 0 then (0 : Int) else x) = y at hm
    split at hm <;> omega
  by_cases h0 : 0 < m
  case neg =>
    obtain rfl : m = 0 := by omega
    refine (Log_Last.none_ gb rb N a n L x w r hm).mono ?_
    rintro e w' ⟨rfl, rfl⟩
    exact ⟨none, 0, rfl, fun j hj => by omega, Below.refl _ _⟩
  have hnN : n ≤ N ∧ n ≤ k := by split at h1 <;> omega
  have hN : 0 < N := by omega
  have ha := h2 hN
  have haN : a < N := ha ▸ Nat.mod_lt _ hN
  obtain ⟨f, hf⟩ : ∃ f, (a + n - m) % N = f := ⟨_, rfl⟩
  obtain ⟨e, he⟩ : ∃ e, (if N < f + m then N else f + m) = e := ⟨_, rfl⟩
  obtain ⟨q, hq⟩ : ∃ q, f + m - e = q := ⟨_, rfl⟩
  have hfN : f < N := hf ▸ Nat.mod_lt _ hN
  have e1 : f = (k - m) % N := by
    have z : a + n - m = a + (n - m) := by omega
    rw [← hf, z, ha, Nat.mod_add_mod]
    congr 1
    omega
  refine (Log_Last.some_ gb rb N a n m f e q L x w r hm h0 hnN.1 haN hf he hq).mono ?_
  rintro e' w' ⟨g, cap, rfl, hcl, hb⟩
  refine ⟨_, cap, rfl, fun j hj => ⟨g, rfl, ?_⟩, hb⟩
  have hF : L ((f + j) % N) = F (k - m + j) := by
    have := h3 (k - m + j) (by omega) (by omega)
    rw [← this, e1, Nat.mod_add_mod]
  have hef : f < e ∧ e ≤ N ∧ q + e = f + m ∧ (e < N → q = 0) := by split at he <;> omega
  intro i v hv
  have hi : i < 7 := (List.getElem?_eq_some_iff.1 hv).1
  refine hcl (j * 7 + i) v ?_
  by_cases hj1 : j < e - f
  · rw [List.getElem?_append_left (by rw [flat_len]; omega), flat_at L f (e - f) j i hj1 hi]
    rw [Nat.mod_eq_of_lt (by omega)] at hF
    rw [hF]
    exact hv
  · rw [List.getElem?_append_right (by rw [flat_len]; omega), flat_len]
    have hq0 : e = N := by omega
    have z : j * 7 + i - (e - f) * 7 = (j - (e - f)) * 7 + i := by omega
    rw [z, flat_at L 0 q (j - (e - f)) i (by omega) hi]
    have z2 : (f + j) % N = j - (e - f) := by
      have : f + j = (j - (e - f)) + N := by omega
      rw [this, Nat.add_mod_right, Nat.mod_eq_of_lt (by omega)]
    rw [z2] at hF
    rw [Nat.zero_add, hF]
    exact hv
end Go.Proofs.YtcdbnphhoihldaaDoor.X
/- Lines: known. -/
namespace Go.Proofs.YtcdbnphhoihldaaDoor.Line
open Go.RowKit Go.Proofs.YtcdbnphhoihldaaDoor.X Go.Proofs.YtcdbnphhoihldaaDoor.Cal Go.Proofs.YtcdbnphhoihldaaDoor.Pure Go.Proofs.YtcdbnphhoihldaaDoor.Quo Go.Proofs.YtcdbnphhoihldaaDoorW.PrintWords Go.Proofs.YtcdbnphhoihldaaDoorW.PrintLast Go.Proofs.YtcdbnphhoihldaaDoorW.PrintMore
attribute [local go_sem] max2_int min2_int max_two min_two max_three min_three max_four min_four
set_option linter.unusedVariables false
set_option linter.unusedSimpArgs false

def T0 : List UInt8 := [84, 104, 117, 44, 32, 48, 49, 32, 74, 97, 110, 32, 49, 57, 55, 48, 32, 48, 48, 58, 48, 48, 58, 48, 48, 32, 71, 77, 84]
def l0 : Ln := ⟨0, 0, ⟨#[71, 69, 84]⟩, ⟨#[104]⟩, ⟨#[47]⟩, 200, 5⟩
theorem tm0 : Tm 1970 0 1 0 0 0 := ⟨⟨by decide, by decide, by decide, by decide, by decide, by decide⟩, by decide, by decide, by decide, by decide, by decide, by decide⟩
theorem sec0 : sec 1970 0 1 0 0 0 = 0 := by decide
theorem T0_eq : T1 1970 0 1 0 0 0 (wk 1970 0 1) = T0 := by decide
theorem good0 : Good T0 l0 where
  hT := by have := text_ev tm0 (x := 0) (by decide); rw [T0_eq] at this; exact this
  hp := by
    have := parse_yes (a := X.bytes T0) tm0 (.inl (by rw [← T0_eq]))
    rw [sec0] at this
    exact this
  len := rfl
  h0 := by decide
  h1 := by decide
  s0 := by decide
  s1 := by decide
  z0 := by decide
  z1 := by decide
  m := by decide
  h := by decide
  t := by decide
theorem fit0 : Fit l0 := ⟨by decide, by decide, by decide, by decide, by decide, by decide, by decide, by decide, by decide⟩
def S0 : List UInt8 := [84, 104, 117, 44, 32, 48, 49, 32, 74, 97, 110, 32, 49, 57, 55, 48, 32, 48, 48, 58, 48, 48, 58, 48, 48, 32, 71, 77, 84, 32, 104, 105, 116, 32, 34, 71, 69, 84, 34, 32, 34, 104, 34, 32, 34, 47, 34, 32, 50, 48, 48, 32, 53]
theorem itoa200 : Lib.itoa 200 = [50, 48, 48] := by
  unfold Lib.itoa
  rw [if_neg (by decide), show (200 : Int).toNat = 200 from rfl, Lib.decDigits, dif_neg (by decide), Lib.decDigits, dif_neg (by decide), Lib.decDigits_one (by decide)]
  rfl
theorem itoa5 : Lib.itoa 5 = [53] := by
  unfold Lib.itoa
  rw [if_neg (by decide), show (5 : Int).toNat = 5 from rfl, Lib.decDigits_one (by decide)]
  rfl
theorem S0_eq : lineText T0 l0 = S0 := by
  unfold lineText
  rw [show mx0 l0.status = 200 from rfl, show mx0 l0.size = 5 from rfl, itoa200, itoa5]
  decide
theorem T7.lit (w : World) (l : Ln) (t : Nat) : T7 (w.alloc (.cells l.cells.toArray t)) w.heap.size l := T7.new w l t
def Fk (i : Nat) : Ln := ⟨0, 0, ⟨#[]⟩, ⟨#[]⟩, ⟨#[]⟩, 0, (i : Int)⟩
set_option maxRecDepth 100000 in
set_option maxHeartbeats 8000000 in
theorem known_any (w : World) (hG : GL w) : Calls Tryd.prog 6 #[] w fun e w' => e = .returned (.bool true) ∧ Below w.heap.size w w' := by
  have C1 : ∀ W, GL W → Calls Tryd.prog 8 #[.agg #[.int .i64 0, .int .i64 0, .string ⟨#[71, 69, 84]⟩, .string ⟨#[104]⟩, .string ⟨#[47]⟩, .int .i64 200, .int .i64 5]] W fun e w' => e = .returned (.string (X.bytes S0)) ∧ Below W.heap.size W w' := by
    intro W hW
    have := Text_any l0 fit0 T0 good0.hT (by decide) W hW
    rw [S0_eq] at this
    exact this
  have C2 : ∀ W, GL W → Calls Tryd.prog 10 #[.string (X.bytes S0)] W fun e w' => e = .returned (.tuple #[.agg #[.int .i64 0, .int .i64 0, .string ⟨#[71, 69, 84]⟩, .string ⟨#[104]⟩, .string ⟨#[47]⟩, .int .i64 200, .int .i64 5], .int .i64 0]) ∧ Below W.heap.size W w' := by
    intro W hW
    have := Parse_any T0 l0 good0 W hW
    rw [S0_eq] at this
    exact this
  have C3 : ∀ W, Calls Tryd.prog 10 #[.string ⟨#[120]⟩] W fun e w' => e = .returned (.tuple #[.agg #[.int .i64 0, .int .i64 0, .string ⟨#[]⟩, .string ⟨#[]⟩, .string ⟨#[]⟩, .int .i64 0, .int .i64 0], .int .i64 123]) ∧ Below W.heap.size W w' := fun W => Parse_x W
  have C1 := Lib.hid C1
  have C2 := Lib.hid C2
  have C3 := Lib.hid C3
  obtain ⟨S, hS⟩ : ∃ S, X.bytes S0 = S := ⟨_, rfl⟩
  have hs : (S.toList == [84, 104, 117, 44, 32, 48, 49, 32, 74, 97, 110, 32, 49, 57, 55, 48, 32, 48, 48, 58, 48, 48, 58, 48, 48, 32, 71, 77, 84, 32, 104, 105, 116, 32, 34, 71, 69, 84, 34, 32, 34, 104, 34, 32, 34, 47, 34, 32, 50, 48, 48, 32, 53]) = true := by
    rw [← hS, bytes_toList]
    decide
  rw [hS] at C1 C2
  have HG := Lib.hid hG
  have HB := Lib.hid (Below.refl w.heap.size w)
  clear hS hG
  go_enter Tryd.func6, Tryd.ntmps6
  go_wp2_with fail
  refine (C1.out _ HG.out).mono ?_
  rintro e w1 ⟨rfl, hb⟩
  have HG := Lib.hid (HG.out.below hb)
  have HB := Lib.hid (below_then HB.out hb)
  clear hb
  go_wp2_with fail
  refine (C2.out _ HG.out).mono ?_
  rintro e w2 ⟨rfl, hb⟩
  have hb2 := (Below.refl w2.heap.size w2).alloc (Nat.le_refl _) (.cells #[.int .i64 0, .int .i64 0, .string ⟨#[71, 69, 84]⟩, .string ⟨#[104]⟩, .string ⟨#[47]⟩, .int .i64 200, .int .i64 5] 23)
  have HB := Lib.hid (below_then (below_then HB.out hb) hb2)
  have H7 := Lib.hid (T7.lit w2 l0 23)
  rw [show (.cells l0.cells.toArray 23 : Obj) = .cells #[.int .i64 0, .int .i64 0, .string ⟨#[71, 69, 84]⟩, .string ⟨#[104]⟩, .string ⟨#[47]⟩, .int .i64 200, .int .i64 5] 23 from rfl] at H7
  clear hb hb2
  go_wp2_with fail
  refine (C3.out _).mono ?_
  rintro e w3 ⟨rfl, hb⟩
  have hb2 := (Below.refl w3.heap.size w3).alloc (Nat.le_refl _) (.cells #[.int .i64 0, .int .i64 0, .string ⟨#[]⟩, .string ⟨#[]⟩, .string ⟨#[]⟩, .int .i64 0, .int .i64 0] 23)
  have hb3 := below_then hb hb2
  have HB := Lib.hid (below_then HB.out hb3)
  have H7 := Lib.hid (H7.out.below hb3)
  clear hb hb2 hb3
  go_wp2_with fail
  obtain ⟨W, hW⟩ : ∃ v, w3.alloc (.cells #[.int .i64 0, .int .i64 0, .string ⟨#[]⟩, .string ⟨#[]⟩, .string ⟨#[]⟩, .int .i64 0, .int .i64 0] 23) = v := ⟨_, rfl⟩
  rw [hW] at HB H7 ⊢
  clear hW
  refine (Log_New.calls 2 2 _ rfl).mono ?_
  rintro e w4 ⟨gb, rb, rfl, hgb, hrb, hR, hb⟩
  have HN := Lib.hid hb
  have HK := Lib.hid (Kept.start (F := Fk) hR)
  have A0 : ∀ V, Kept V gb rb 2 Fk 0 → Calls Tryd.prog 12 #[.pointer (some ⟨gb, 0, none⟩), .agg #[.int .i64 0, .int .i64 0, .string ⟨#[]⟩, .string ⟨#[]⟩, .string ⟨#[]⟩, .int .i64 0, .int .i64 0]] V fun e w' => e = .returned (.tuple #[]) ∧ Kept w' gb rb 2 Fk 1 ∧ ∀ B, B ≤ gb → B ≤ rb → B ≤ V.heap.size → Below B V w' := fun V h => keep_add h _ rfl
  have A1 : ∀ V, Kept V gb rb 2 Fk 1 → Calls Tryd.prog 12 #[.pointer (some ⟨gb, 0, none⟩), .agg #[.int .i64 0, .int .i64 0, .string ⟨#[]⟩, .string ⟨#[]⟩, .string ⟨#[]⟩, .int .i64 0, .int .i64 1]] V fun e w' => e = .returned (.tuple #[]) ∧ Kept w' gb rb 2 Fk 2 ∧ ∀ B, B ≤ gb → B ≤ rb → B ≤ V.heap.size → Below B V w' := fun V h => keep_add h _ rfl
  have A2 : ∀ V, Kept V gb rb 2 Fk 2 → Calls Tryd.prog 12 #[.pointer (some ⟨gb, 0, none⟩), .agg #[.int .i64 0, .int .i64 0, .string ⟨#[]⟩, .string ⟨#[]⟩, .string ⟨#[]⟩, .int .i64 0, .int .i64 2]] V fun e w' => e = .returned (.tuple #[]) ∧ Kept w' gb rb 2 Fk 3 ∧ ∀ B, B ≤ gb → B ≤ rb → B ≤ V.heap.size → Below B V w' := fun V h => keep_add h _ rfl
  have A0 := Lib.hid A0
  have A1 := Lib.hid A1
  have A2 := Lib.hid A2
  clear hR hb
  go_wp2_with fail
  refine wp_loop_rounds 4 ?_
  rw [rounds_succ]
  go_wp2_with fail
  refine (A0.out _ HK.out).mono ?_
  rintro e v0 ⟨rfl, hk, hb⟩
  have HN := Lib.hid (HN.out.trans (hb _ hgb hrb HN.out.size))
  have HK := Lib.hid hk
  clear hk hb
  go_wp2_with fail
  rw [rounds_succ]
  go_wp2_with fail
  refine (A1.out _ HK.out).mono ?_
  rintro e v1 ⟨rfl, hk, hb⟩
  have HN := Lib.hid (HN.out.trans (hb _ hgb hrb HN.out.size))
  have HK := Lib.hid hk
  clear hk hb
  go_wp2_with fail
  rw [rounds_succ]
  go_wp2_with fail
  refine (A2.out _ HK.out).mono ?_
  rintro e v2 ⟨rfl, hk, hb⟩
  have HN := Lib.hid (HN.out.trans (hb _ hgb hrb HN.out.size))
  have HK := Lib.hid hk
  clear hk hb
  go_wp2_with fail
  rw [rounds_succ]
  go_wp2_with fail
  refine (keep_last HK.out 9 2 2 rfl rfl).mono ?_
  rintro e u0 ⟨a, cap, rfl, hj, hb⟩
  obtain ⟨g, rfl, hr⟩ := hj 0 (by decide)
  have hx : u0.cell? ⟨g, 6, none⟩ = some (.int .i64 1) := hr 6 _ rfl
  have HK := Lib.hid (HK.out.below hb)
  have hn := HN.out.size
  have HN := Lib.hid (HN.out.trans ⟨hb.os, hb.tape, hb.output, hb.size, fun k hk => hb.block k (by omega)⟩)
  have Q := H7.out.below HN.out
  have c2 : u0.cell? ⟨w2.heap.size, 2, none⟩ = some (.string ⟨#[71, 69, 84]⟩) := Q.r 2 _ rfl
  have c6 : u0.cell? ⟨w2.heap.size, 6, none⟩ = some (.int .i64 5) := Q.r 6 _ rfl
  have HF := Lib.hid (HB.out.trans ⟨HN.out.os, HN.out.tape, HN.out.output, HN.out.size, fun k hk => HN.out.block k (by have := HB.out.size; omega)⟩)
  clear hj hr hb Q
  go_wp2_with fail
  refine (keep_len HK.out 2 rfl).mono ?_
  rintro e u1 ⟨rfl, rfl⟩
  go_wp2_with fail
  go_ret
  exact ⟨rfl, HF.out⟩
end Go.Proofs.YtcdbnphhoihldaaDoor.Line
-- printed by a program (xp.py, over the kit's print); Lean checks it
namespace Go.Proofs.YtcdbnphhoihldaaDoor.X
open Go.RowKit Go.Proofs.YtcdbnphhoihldaaDoorW.PrintWords Go.Proofs.YtcdbnphhoihldaaDoorW.PrintLast Go.Proofs.YtcdbnphhoihldaaDoorW.PrintMore
attribute [local go_sem] max2_int min2_int max_two min_two max_three min_three max_four min_four   -- for this text's walks alone
set_option linter.unusedVariables false
set_option linter.unusedSimpArgs false

/-! ### line_Unquote: function 16 -/
def line_Unquote.f (k : Nat) (a0 : ByteArray) : Option (ByteArray × Bool) := (line_quoted.f k a0).bind fun bt217 => (if bt217.2.2 = true then (if bt217.2.1.toList = ([] : List UInt8) then (some (bt217.1, true)) else (some ((⟨#[]⟩ : ByteArray), false))) else (some ((⟨#[]⟩ : ByteArray), false)))
theorem line_Unquote.mono : ∀ a0 k, LeO (line_Unquote.f k a0) (line_Unquote.f (k + 1) a0) := by
  intro a0 k
  unfold line_Unquote.f
  repeat' first
      | (with_reducible exact line_quoted.mono _ _)
      | (with_reducible exact LeO.refl _)
      | (with_reducible exact LeO.none _)
      | (with_reducible refine LeO.ite ?_ ?_)
      | (with_reducible refine LeO.bind ?_ (fun _ => ?_))
      | exact line_quoted.mono _ _
      | exact LeO.none _
      | refine LeO.ite ?_ ?_
      | refine LeO.bind ?_ (fun _ => ?_)
set_option maxHeartbeats 8000000 in
set_option maxRecDepth 100000 in
theorem line_Unquote.calls (k : Nat) (a0 : ByteArray) (r1 : ByteArray) (r2 : Bool) (w : World) (h : line_Unquote.f k a0 = some (r1, r2)) :
    Calls Tryd.prog 16 #[.string a0] w fun e w' => e = .returned (.tuple #[.string r1, .bool r2]) ∧ Below w.heap.size w w' := by
  have HB := Aside0.mk (Below.refl w.heap.size w)
  have H : ((line_quoted.f k a0).bind fun bt217 => (if bt217.2.2 = true then (if bt217.2.1.toList = ([] : List UInt8) then (some (bt217.1, true)) else (some ((⟨#[]⟩ : ByteArray), false))) else (some ((⟨#[]⟩ : ByteArray), false)))) = some (r1, r2) := h
  clear h
  replace H := Option.bind_eq_some_iff.mp H
  obtain ⟨⟨t217, t218, t219⟩, A20, H⟩ := H
  replace H : (if t219 = true then (if t218.toList = ([] : List UInt8) then (some (t217, true)) else (some ((⟨#[]⟩ : ByteArray), false))) else (some ((⟨#[]⟩ : ByteArray), false))) = some (r1, r2) := H
  have A2 := Aside0.mk A20
  clear A20
  by_cases c3 : t219 = true
  · subst c3
    have H1 : (if t218.toList = ([] : List UInt8) then (some (t217, true)) else (some ((⟨#[]⟩ : ByteArray), false))) = some (r1, r2) := by rw [if_pos rfl] at H; exact H
    clear H
    have H := H1
    clear H1
    by_cases c4 : t218.toList = ([] : List UInt8)
    · rw [if_pos c4] at H
      have c4b0 : (t218.toList == ([] : List UInt8)) = true := beq_iff_eq.mpr c4
      have c4b1 : (t218.toList != ([] : List UInt8)) = false := bne_eq_false_iff_eq.mpr c4
      clear c4
      simp only [Option.some.injEq, Prod.mk.injEq] at H
      obtain ⟨rfl, rfl⟩ := H
      go_enter Tryd.func16, Tryd.ntmps16
      go_wp2_with (first | ((with_reducible refine gate_callee (f := 34) rfl ?_); refine goesL_ (some 9) rfl rfl Tryd.func34 (by kernel_rfl) rfl #[.string a0] rfl (by (try simp only [List.map_toArray, List.map_cons, List.map_nil]); first | done | rfl | (simp only [List.length_drop, List.length_take]; rfl)) ?_; (with_reducible refine (line_quoted.calls k a0 t217 t218 true _ A2.out).mono ?_); rintro e w5 ⟨rfl, hb⟩; refine ⟨_, rfl, ?_⟩; have n0_ := Aside0.mk (below_step (by repeat (first | (with_reducible first | exact HB.out | apply below_alloc | apply pw_below_drewN | apply below_drew1) | exact HB.out)) hb); clear HB; have HB := n0_; clear n0_; (try clear hb); (try clear hb2); (try clear hk); (try clear hi)))
      go_ret2
      exact ⟨by first | rfl | (simp [errW_none, errW_some] <;> rfl) | (simp [*, errW_none, errW_some] <;> rfl), by repeat (first | (with_reducible first | exact HB.out | apply below_alloc | apply pw_below_drewN | apply below_drew1) | exact HB.out)⟩
    · rw [if_neg c4] at H
      have c4b0 : (t218.toList == ([] : List UInt8)) = false := beq_eq_false_iff_ne.mpr c4
      have c4b1 : (t218.toList != ([] : List UInt8)) = true := bne_iff_ne.mpr c4
      simp only [Option.some.injEq, Prod.mk.injEq] at H
      obtain ⟨rfl, rfl⟩ := H
      go_enter Tryd.func16, Tryd.ntmps16
      go_wp2_with (first | ((with_reducible refine gate_callee (f := 34) rfl ?_); refine goesL_ (some 9) rfl rfl Tryd.func34 (by kernel_rfl) rfl #[.string a0] rfl (by (try simp only [List.map_toArray, List.map_cons, List.map_nil]); first | done | rfl | (simp only [List.length_drop, List.length_take]; rfl)) ?_; (with_reducible refine (line_quoted.calls k a0 t217 t218 true _ A2.out).mono ?_); rintro e w6 ⟨rfl, hb⟩; refine ⟨_, rfl, ?_⟩; have n0_ := Aside0.mk (below_step (by repeat (first | (with_reducible first | exact HB.out | apply below_alloc | apply pw_below_drewN | apply below_drew1) | exact HB.out)) hb); clear HB; have HB := n0_; clear n0_; (try clear hb); (try clear hb2); (try clear hk); (try clear hi)))
      go_ret2
      exact ⟨by first | rfl | (simp [errW_none, errW_some] <;> rfl) | (simp [*, errW_none, errW_some] <;> rfl), by repeat (first | (with_reducible first | exact HB.out | apply below_alloc | apply pw_below_drewN | apply below_drew1) | exact HB.out)⟩
  · replace c3 := Bool.eq_false_iff.mpr c3
    subst c3
    have H1 : (some ((⟨#[]⟩ : ByteArray), false)) = some (r1, r2) := by rw [if_neg (show ¬ (false = true) by decide)] at H; exact H
    clear H
    have H := H1
    clear H1
    simp only [Option.some.injEq, Prod.mk.injEq] at H
    obtain ⟨rfl, rfl⟩ := H
    go_enter Tryd.func16, Tryd.ntmps16
    go_wp2_with (first | ((with_reducible refine gate_callee (f := 34) rfl ?_); refine goesL_ (some 9) rfl rfl Tryd.func34 (by kernel_rfl) rfl #[.string a0] rfl (by (try simp only [List.map_toArray, List.map_cons, List.map_nil]); first | done | rfl | (simp only [List.length_drop, List.length_take]; rfl)) ?_; (with_reducible refine (line_quoted.calls k a0 t217 t218 false _ A2.out).mono ?_); rintro e w7 ⟨rfl, hb⟩; refine ⟨_, rfl, ?_⟩; have n0_ := Aside0.mk (below_step (by repeat (first | (with_reducible first | exact HB.out | apply below_alloc | apply pw_below_drewN | apply below_drew1) | exact HB.out)) hb); clear HB; have HB := n0_; clear n0_; (try clear hb); (try clear hb2); (try clear hk); (try clear hi)))
    go_ret2
    exact ⟨by first | rfl | (simp [errW_none, errW_some] <;> rfl) | (simp [*, errW_none, errW_some] <;> rfl), by repeat (first | (with_reducible first | exact HB.out | apply below_alloc | apply pw_below_drewN | apply below_drew1) | exact HB.out)⟩

end Go.Proofs.YtcdbnphhoihldaaDoor.X
-- printed by a program (xp.py, over the kit's print); Lean checks it
namespace Go.Proofs.YtcdbnphhoihldaaDoor.X
open Go.RowKit Go.Proofs.YtcdbnphhoihldaaDoorW.PrintWords Go.Proofs.YtcdbnphhoihldaaDoorW.PrintLast Go.Proofs.YtcdbnphhoihldaaDoorW.PrintMore
attribute [local go_sem] max2_int min2_int max_two min_two max_three min_three max_four min_four   -- for this text's walks alone
set_option linter.unusedVariables false
set_option linter.unusedSimpArgs false

/-! ### ambryref23_hex: function 58 -/
mutual
def ambryref23_hex.j0 : Nat → Int → Bool → Option (Int)
 | 0, _, _ => none
 | k + 1, x0, x3 => if x3 = true then (some ((x0 - 48) % 256)) else (if x0 ≥ 97 then (ambryref23_hex.j1 k x0 (decide (x0 ≤ 102))) else (ambryref23_hex.j1 k x0 false))
def ambryref23_hex.j1 : Nat → Int → Bool → Option (Int)
 | 0, _, _ => none
 | k + 1, x0, x13 => if x13 = true then (some (((x0 - 97) % 256) + 10)) else (if x0 ≥ 65 then (if x0 ≤ 70 then (some (((x0 - 65) % 256) + 10)) else (some (-1))) else (some (-1)))
end
def ambryref23_hex.f (k : Nat) (a0 : Int) : Option (Int) := if a0 ≥ 48 then (ambryref23_hex.j0 k a0 (decide (a0 ≤ 57))) else (ambryref23_hex.j0 k a0 false)
theorem ambryref23_hex.mono_l : ∀ k, (∀ y0 y1, LeO (ambryref23_hex.j0 k y0 y1) (ambryref23_hex.j0 (k + 1) y0 y1)) ∧ (∀ y0 y1, LeO (ambryref23_hex.j1 k y0 y1) (ambryref23_hex.j1 (k + 1) y0 y1))
 | 0 => ⟨fun _ _ r h => by simp [ambryref23_hex.j0] at h, fun _ _ r h => by simp [ambryref23_hex.j1] at h⟩
 | k + 1 => by
  obtain ⟨ih0, ih1⟩ := ambryref23_hex.mono_l k
  refine ⟨?_, ?_⟩
  ·
   intro y0 y1
   unfold ambryref23_hex.j0
   repeat' first
   | (with_reducible exact ih0 _ _)
   | (with_reducible exact ih1 _ _)
   | (with_reducible exact LeO.refl _)
   | (with_reducible exact LeO.none _)
   | (with_reducible refine LeO.ite ?_ ?_)
   | (with_reducible refine LeO.bind ?_ (fun _ => ?_))
   | exact ih0 _ _
   | exact ih1 _ _
   | exact LeO.none _
   | refine LeO.ite ?_ ?_
   | refine LeO.bind ?_ (fun _ => ?_)
  ·
   intro y0 y1
   unfold ambryref23_hex.j1
   repeat' first
   | (with_reducible exact ih0 _ _)
   | (with_reducible exact ih1 _ _)
   | (with_reducible exact LeO.refl _)
   | (with_reducible exact LeO.none _)
   | (with_reducible refine LeO.ite ?_ ?_)
   | (with_reducible refine LeO.bind ?_ (fun _ => ?_))
   | exact ih0 _ _
   | exact ih1 _ _
   | exact LeO.none _
   | refine LeO.ite ?_ ?_
   | refine LeO.bind ?_ (fun _ => ?_)
theorem ambryref23_hex.mono : ∀ a0 k, LeO (ambryref23_hex.f k a0) (ambryref23_hex.f (k + 1) a0) := by
 intro a0 k
 obtain ⟨ih0, ih1⟩ := ambryref23_hex.mono_l k
 unfold ambryref23_hex.f
 repeat' first
   | (with_reducible exact ih0 _ _)
   | (with_reducible exact ih1 _ _)
   | (with_reducible exact LeO.refl _)
   | (with_reducible exact LeO.none _)
   | (with_reducible refine LeO.ite ?_ ?_)
   | (with_reducible refine LeO.bind ?_ (fun _ => ?_))
   | exact ih0 _ _
   | exact ih1 _ _
   | exact LeO.none _
   | refine LeO.ite ?_ ?_
   | refine LeO.bind ?_ (fun _ => ?_)
set_option maxHeartbeats 8000000 in
set_option maxRecDepth 100000 in
theorem ambryref23_hex.calls (k : Nat) (a0 : Int) (r : Int) (w : World) (h : ambryref23_hex.f k a0 = some r) :
  Calls Tryd.prog 58 #[.int .u8 a0] w fun e w' => e = .returned (.int .i64 r) ∧ Drawn0 w w' := by
 have H : (if a0 ≥ 48 then (ambryref23_hex.j0 k a0 (decide (a0 ≤ 57))) else (ambryref23_hex.j0 k a0 false)) = some r := h
 clear h
 have HC2 := Aside0.mk H
 clear H
 go_enter Tryd.func58, Tryd.ntmps58
 go_upto_region 1 with (fail)
 go_cut [3] (fun v3 wc => ∃ (kq : Nat) (x3_1 : Bool), v3 = .bool x3_1 ∧ Aside0 (ambryref23_hex.j0 kq a0 x3_1 = some r) ∧ Aside0 (kq ≤ k) ∧ Drawn0 w wc)
 case first =>
  have H := HC2.out
  clear HC2
  by_cases c3 : a0 ≥ 48
  ·
   rw [if_pos c3] at H
   have c3b0 : decide (48 ≤ a0) = true := decide_eq_true c3
   clear c3
   (first | rw [c3b0] | (simp only [i64_w, i32_w]; rw [c3b0]) | skip)
   have H' := Aside0.mk H
   clear H
   go_wp2
   go_meet
   case rel => exact ⟨_, (decide (a0 ≤ 57)), (by first | rfl | (simp; done) | (simp [*]; done)), H', ⟨by first | omega | exact Nat.le_refl _⟩, by repeat (first | exact Drawn0.refl _ | apply Drawn0.step)⟩
  ·
   rw [if_neg c3] at H
   have c3b0 : decide (48 ≤ a0) = false := decide_eq_false c3
   clear c3
   (first | rw [c3b0] | (simp only [i64_w, i32_w]; rw [c3b0]) | skip)
   have H' := Aside0.mk H
   clear H
   go_wp2
   go_meet
   case rel => exact ⟨_, (false), (by first | rfl | (simp; done) | (simp [*]; done)), H', ⟨by first | omega | exact Nat.le_refl _⟩, by repeat (first | exact Drawn0.refl _ | apply Drawn0.step)⟩
 case rest =>
  clear HC2
  try clear p2
  try clear c3
  try clear c3b0
  obtain ⟨kq, x3_1, rfl, HA, HJ1, ⟨mc1, rfl⟩⟩ := hcut
  cases kq with
  | zero => exact absurd HA.out (by simp [ambryref23_hex.j0])
  | succ kj1 =>
   have H := HA.out
   clear HA
   simp only [ambryref23_hex.j0] at H
   by_cases c4 : x3_1 = true
   ·
    subst c4
    have H1 : (some ((a0 - 48) % 256)) = some r := by rw [if_pos rfl] at H; exact H
    clear H
    have H := H1
    clear H1
    obtain rfl := Option.some.inj H
    go_wp2
    go_ret
    exact ⟨by first | rfl | (simp; done) | (simp [*]; done), by repeat (first | exact Drawn0.refl _ | apply Drawn0.step)⟩
   ·
    replace c4 := Bool.eq_false_iff.mpr c4
    subst c4
    have H1 : (if a0 ≥ 97 then (ambryref23_hex.j1 kj1 a0 (decide (a0 ≤ 102))) else (ambryref23_hex.j1 kj1 a0 false)) = some r := by rw [if_neg (show ¬ (false = true) by decide)] at H; exact H
    clear H
    have H := H1
    clear H1
    have HC5 := Aside0.mk H
    clear H
    go_upto_region 3 with (fail)
    go_cut [13] (fun v13 wc => ∃ (kq : Nat) (x13_4 : Bool), v13 = .bool x13_4 ∧ Aside0 (ambryref23_hex.j1 kq a0 x13_4 = some r) ∧ Aside0 (kq ≤ kj1) ∧ Drawn0 w wc)
    case first =>
     have H := HC5.out
     clear HC5
     by_cases c6 : a0 ≥ 97
     ·
      rw [if_pos c6] at H
      have c6b0 : decide (97 ≤ a0) = true := decide_eq_true c6
      clear c6
      (first | rw [c6b0] | (simp only [i64_w, i32_w]; rw [c6b0]) | skip)
      have H' := Aside0.mk H
      clear H
      go_wp2
      go_meet
      case rel => exact ⟨_, (decide (a0 ≤ 102)), (by first | rfl | (simp; done) | (simp [*]; done)), H', ⟨by have := HJ1.out; first | omega | exact Nat.le_refl _⟩, by repeat (first | exact Drawn0.refl _ | apply Drawn0.step)⟩
     ·
      rw [if_neg c6] at H
      have c6b0 : decide (97 ≤ a0) = false := decide_eq_false c6
      clear c6
      (first | rw [c6b0] | (simp only [i64_w, i32_w]; rw [c6b0]) | skip)
      have H' := Aside0.mk H
      clear H
      go_wp2
      go_meet
      case rel => exact ⟨_, (false), (by first | rfl | (simp; done) | (simp [*]; done)), H', ⟨by have := HJ1.out; first | omega | exact Nat.le_refl _⟩, by repeat (first | exact Drawn0.refl _ | apply Drawn0.step)⟩
    case rest =>
     clear HC5
     try clear c1
     try clear p2
     try clear c3
     try clear c3b0
     try clear c4
     try clear c5
     try clear c6
     try clear c6b0
     try clear p2
     obtain ⟨kq, x13_4, rfl, HA, HJ4, ⟨mc4, rfl⟩⟩ := hcut
     cases kq with
     | zero => exact absurd HA.out (by simp [ambryref23_hex.j1])
     | succ kj4 =>
      have H := HA.out
      clear HA
      simp only [ambryref23_hex.j1] at H
      by_cases c7 : x13_4 = true
      ·
       subst c7
       have H1 : (some (((a0 - 97) % 256) + 10)) = some r := by rw [if_pos rfl] at H; exact H
       clear H
       have H := H1
       clear H1
       obtain rfl := Option.some.inj H
       go_wp2
       go_ret
       exact ⟨by first | rfl | (simp; done) | (simp [*]; done), by repeat (first | exact Drawn0.refl _ | apply Drawn0.step)⟩
      ·
       replace c7 := Bool.eq_false_iff.mpr c7
       subst c7
       have H1 : (if a0 ≥ 65 then (if a0 ≤ 70 then (some (((a0 - 65) % 256) + 10)) else (some (-1))) else (some (-1))) = some r := by rw [if_neg (show ¬ (false = true) by decide)] at H; exact H
       clear H
       have H := H1
       clear H1
       by_cases c8 : a0 ≥ 65
       ·
        rw [if_pos c8] at H
        have c8b0 : decide (65 ≤ a0) = true := decide_eq_true c8
        clear c8
        by_cases c9 : a0 ≤ 70
        ·
         rw [if_pos c9] at H
         have c9b0 : decide (a0 ≤ 70) = true := decide_eq_true c9
         clear c9
         obtain rfl := Option.some.inj H
         go_wp2
         go_ret
         exact ⟨by first | rfl | (simp; done) | (simp [*]; done), by repeat (first | exact Drawn0.refl _ | apply Drawn0.step)⟩
        ·
         rw [if_neg c9] at H
         have c9b0 : decide (a0 ≤ 70) = false := decide_eq_false c9
         clear c9
         obtain rfl := Option.some.inj H
         go_wp2
         go_ret
         exact ⟨by first | rfl | (simp; done) | (simp [*]; done), by repeat (first | exact Drawn0.refl _ | apply Drawn0.step)⟩
       ·
        rw [if_neg c8] at H
        have c8b0 : decide (65 ≤ a0) = false := decide_eq_false c8
        clear c8
        obtain rfl := Option.some.inj H
        go_wp2
        go_ret
        exact ⟨by first | rfl | (simp; done) | (simp [*]; done), by repeat (first | exact Drawn0.refl _ | apply Drawn0.step)⟩

end Go.Proofs.YtcdbnphhoihldaaDoor.X
