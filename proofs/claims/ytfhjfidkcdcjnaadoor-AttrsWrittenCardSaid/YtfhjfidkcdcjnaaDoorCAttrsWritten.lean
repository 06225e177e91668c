/- The law AttrsWritten, proved whole (for every input, as the given card says; no condition beyond it): its row and its card, and what they lean on. -/
import Derived.Test.YtfhjfidkcdcjnaaDoorB3
import Derived.Test.YtfhjfidkcdcjnaaDoorTie
import Derived.Test.YtfhjfidkcdcjnaaDoorCards
import Derived.Test.YtfhjfidkcdcjnaaDoorWSized
import Derived.ChangeSlices
import Derived.SliceStrings
set_option linter.unusedVariables false
set_option linter.unusedSimpArgs false
set_option linter.unusedSectionVars false

/- Written attributes, and numbers in references: plain laws. No program in sight. -/
namespace Go.Proofs.YtfhjfidkcdcjnaaDoor.Fl
open Go
set_option linter.unusedVariables false
set_option linter.unusedSimpArgs false

/-! A number's digits. -/
def digF : Nat → Nat → Bs
  | 0, _ => []
  | f + 1, n => if n < 10 then [UInt8.ofNat (48 + n)] else digF f (n / 10) ++ [UInt8.ofNat (48 + n % 10)]
def digits (n : Nat) : Bs := digF (n + 1) n
theorem digF_same : ∀ (f g n : Nat), n < f → n < g → digF f n = digF g n := by
  intro f
  induction f with
  | zero => intro g n h; omega
  | succ f ih =>
    intro g n h1 h2
    obtain ⟨g, rfl⟩ : ∃ k, g = k + 1 := ⟨g - 1, by omega⟩
    unfold digF
    split
    · rfl
    · rw [ih g (n / 10) (by omega) (by omega)]
theorem digits_lt {n : Nat} (h : n < 10) : digits n = [UInt8.ofNat (48 + n)] := by
  unfold digits digF; rw [if_pos h]
theorem digits_ge {n : Nat} (h : ¬ n < 10) : digits n = digits (n / 10) ++ [UInt8.ofNat (48 + n % 10)] := by
  show digF (n + 1) n = _
  unfold digF; rw [if_neg h, digF_same n (n / 10 + 1) (n / 10) (by omega) (by omega)]; rfl
theorem digit_dig (d : Nat) (h : d < 10) : dig (UInt8.ofNat (48 + d)) = true ∧ hexv (UInt8.ofNat (48 + d)) = (d : Int) := by
  have := List.all_eq_true.1 (show ((List.range 10).all fun d => dig (UInt8.ofNat (48 + d)) && (hexv (UInt8.ofNat (48 + d)) == (d : Int))) = true by decide +kernel) d (List.mem_range.2 h)
  simpa using this
theorem digits_dig : ∀ (f n : Nat), n < f → ∀ c ∈ digits n, dig c = true := by
  intro f
  induction f with
  | zero => intro n h; omega
  | succ f ih =>
    intro n h c hc
    by_cases hn : n < 10
    · rw [digits_lt hn] at hc
      rw [List.mem_singleton.1 hc]; exact (digit_dig n hn).1
    · rw [digits_ge hn] at hc
      rcases List.mem_append.1 hc with hc | hc
      · exact ih (n / 10) (by omega) c hc
      · rw [List.mem_singleton.1 hc]; exact (digit_dig (n % 10) (by omega)).1
theorem digits_ne (n : Nat) : digits n ≠ [] := by
  by_cases hn : n < 10
  · rw [digits_lt hn]; simp
  · rw [digits_ge hn]; simp
theorem digits_len : ∀ (f n : Nat), n < f → n < 4294967296 → (digits n).length ≤ 10 := by
  intro f
  have key : ∀ (k n : Nat), n < 10 ^ (k + 1) → (digits n).length ≤ k + 1 := by
    intro k
    induction k with
    | zero => intro n h; rw [digits_lt (by omega)]; simp
    | succ k ih =>
      intro n h
      by_cases hn : n < 10
      · rw [digits_lt hn]; simp
      · rw [digits_ge hn, List.length_append]
        have := ih (n / 10) (by rw [Nat.pow_succ] at h; omega)
        simp; omega
  intro n _ h
  exact key 9 n (by omega)
theorem valTo_append (B : Nat) : ∀ (a : Bs) (n : Nat) (b : Bs), valTo B n (a ++ b) = (valTo B n a).bind fun m => valTo B m b
  | [], n, b => rfl
  | c :: a, n, b => by
    rw [List.cons_append]
    show (if hexv c < 0 ∨ (B : Int) ≤ hexv c then none else valTo B _ (a ++ b)) = (if hexv c < 0 ∨ (B : Int) ≤ hexv c then none else valTo B _ a).bind _
    split
    · rfl
    · exact valTo_append B a _ b
theorem valTo_one (n d : Nat) (h : d < 10) : valTo 10 n [UInt8.ofNat (48 + d)] = some (min (n * 10 + d) 1114112) := by
  have e := (digit_dig d h).2
  show (if hexv (UInt8.ofNat (48 + d)) < 0 ∨ ((10 : Nat) : Int) ≤ hexv (UInt8.ofNat (48 + d)) then none else some (min (n * 10 + (hexv (UInt8.ofNat (48 + d))).toNat) 1114112)) = _
  rw [e, if_neg (by omega), Int.toNat_natCast]
theorem digits_val : ∀ (f n : Nat), n < f → valTo 10 0 (digits n) = some (min n 1114112) := by
  intro f
  induction f with
  | zero => intro n h; omega
  | succ f ih =>
    intro n h
    by_cases hn : n < 10
    · rw [digits_lt hn, valTo_one 0 n hn]; simp
    · rw [digits_ge hn, valTo_append, ih (n / 10) (by omega)]
      simp only [Option.bind_some]
      rw [valTo_one _ _ (by omega)]
      congr 1
      omega
theorem while_all {p : UInt8 → Bool} {l : Bs} (h : ∀ c ∈ l, p c = true) : l.takeWhile p = l ∧ l.dropWhile p = [] := by
  have := all_app (p := p) (m := []) h (Hd.nil p)
  simpa using this
/-- A reference by a number, written with ten digits, and nothing behind it. -/
theorem decode_number (n : Nat) (hn : n < 4294967296) : decode true (38 :: 35 :: digits n) = toL (Q.fixB (min n 1114112 : Nat)) := by
  obtain ⟨x, r, hx⟩ : ∃ x r, digits n = x :: r := by
    cases h : digits n with
    | nil => exact absurd h (digits_ne n)
    | cons x r => exact ⟨x, r, rfl⟩
  have hd := digits_dig (n + 1) n (by omega)
  have hisx : isX x = false := by
    have hdx : dig x = true := hd x (by rw [hx]; simp)
    have := byteAll (fun c => !(dig c) || !(isX c)) (by decide +kernel) x
    rw [hdx] at this; simpa using this
  have hw := while_all (p := pdig false) (l := digits n) (fun c hc => by unfold pdig; rw [hd c hc]; rfl)
  have hnt : numTail false (digits n) = some (toL (Q.fixB (min n 1114112 : Nat)), (digits n).length) := by
    unfold numTail
    rw [hw.1]
    have hv : value (digits n) false = ((min n 1114112 : Nat) : Int) := by
      unfold value
      rw [if_neg (digits_ne n)]
      show (match valTo 10 0 (digits n) with | none => _ | some n => _) = _
      rw [digits_val (n + 1) n (by omega)]
    rw [hv, if_neg (by omega), List.drop_length]
    simp [semi]
  have hnr : numRead (35 :: digits n) = some (toL (Q.fixB (min n 1114112 : Nat)), (digits n).length + 1) := by
    unfold numRead
    simp only [if_true]
    rw [hx]
    simp only [hisx]
    rw [← hx, hnt]; rfl
  have hr : refRead true (35 :: digits n) = (toL (Q.fixB (min n 1114112 : Nat)), (digits n).length + 1) := by
    unfold refRead; rw [hnr]
  rw [decode_amp, hr]
  simp only [List.drop_succ_cons, List.drop_length, decode_nil, List.append_nil]
theorem encode_no0 (n : Int) (h0 : 0 < n) : ∀ d ∈ toL (Utf8.encode n), d ≠ 0 := by
  intro d hd
  unfold Utf8.encode at hd
  have hc : 0 < (if Utf8.valid n then n.toNat else Utf8.runeError) ∧ (if Utf8.valid n then n.toNat else Utf8.runeError) < 1114112 := by
    split
    · rename_i hv
      have : n ≤ 1114111 := by
        unfold Utf8.valid at hv
        simp at hv; omega
      omega
    · decide
  obtain ⟨c, hcc⟩ : ∃ c, (if Utf8.valid n then n.toNat else Utf8.runeError) = c := ⟨_, rfl⟩
  rw [hcc] at hd hc
  have hb : ∀ m : Nat, 0 < m → m < 256 → UInt8.ofNat m ≠ 0 := by
    intro m h1 h2 e
    have := congrArg UInt8.toNat e
    rw [UInt8.toNat_ofNat_of_lt' h2] at this
    have : (0 : UInt8).toNat = 0 := rfl
    omega
  dsimp only at hd
  split at hd
  · change d ∈ ([_] : Bs) at hd
    simp only [List.mem_cons, List.not_mem_nil, or_false] at hd
    subst hd; exact hb _ (by omega) (by omega)
  · split at hd
    · change d ∈ ([_, _] : Bs) at hd
      simp only [List.mem_cons, List.not_mem_nil, or_false] at hd
      rcases hd with rfl | rfl <;> exact hb _ (by omega) (by omega)
    · split at hd
      · change d ∈ ([_, _, _] : Bs) at hd
        simp only [List.mem_cons, List.not_mem_nil, or_false] at hd
        rcases hd with rfl | rfl | rfl <;> exact hb _ (by omega) (by omega)
      · change d ∈ ([_, _, _, _] : Bs) at hd
        simp only [List.mem_cons, List.not_mem_nil, or_false] at hd
        rcases hd with rfl | rfl | rfl | rfl <;> exact hb _ (by omega) (by omega)
theorem signB_no0 (n : Int) (h : n ≠ 0) : ∀ d ∈ toL (Q.signB n), d ≠ 0 := by
  unfold Q.signB
  split
  · intro d hd
    have hd' : d ∈ bad := hd
    simp [bad] at hd'; rcases hd' with rfl | rfl | rfl <;> decide
  · exact encode_no0 n (by omega)
theorem fixB_no0 (n : Int) : ∀ d ∈ toL (Q.fixB n), d ≠ 0 := by
  unfold Q.fixB
  split
  · intro d hd
    have hd' : d ∈ bad := hd
    simp [bad] at hd'; rcases hd' with rfl | rfl | rfl <;> decide
  · split
    · rename_i h
      apply signB_no0
      have := List.all_eq_true.1 (show ((List.range 32).all fun j => Q.fixTab.getD j 0 != 0) = true by decide +kernel) (n - 128).toNat (List.mem_range.2 (by omega))
      simpa using this
    · rename_i h _; exact signB_no0 n h
theorem fixB_out (n : Int) (h : 1114111 < n) : Q.fixB n = ofL bad := by
  unfold Q.fixB Q.signB
  rw [if_neg (by omega), if_neg (by omega), if_pos (by omega)]
theorem fixB_top (n : Nat) : Q.fixB ((min n 1114112 : Nat) : Int) = Q.fixB (n : Int) := by
  rcases Nat.lt_or_ge 1114112 n with h | h
  · rw [Nat.min_eq_right (by omega), fixB_out _ (by omega), fixB_out _ (by omega)]
  · rw [Nat.min_eq_left h]
theorem clean_none {l : Bs} (h : ∀ d ∈ l, d ≠ 0) : clean l = l := clean_same (List.count_eq_zero.2 fun hm => h 0 hm rfl)
/-- One attribute, written in quotes. -/
theorem readN_quoted (n : Nat) (nm v r : Bs) (q x : UInt8) (acc : List Att) (hx : nend [47, 62, 61] x = true) (hnm : ∀ c ∈ nm, nend [47, 62, 61] c = true) (hq : q = 34 ∨ q = 39) (hv : v.count q = 0) :
    readN (n + 1) (x :: nm ++ 61 :: q :: v ++ q :: r) acc = readN n r (add acc (clean (lower (x :: nm))) (clean (decode true v))) := by
  have hs : space x = false ∧ x ≠ 62 ∧ x ≠ 47 := by
    have := byteAll (fun x => !(nend [47, 62, 61] x) || (!(space x) && x != 62 && x != 47)) (by decide +kernel) x
    rw [hx] at this; simpa [and_assoc] using this
  have e := all_app (p := nend [47, 62, 61]) (m := 61 :: q :: v ++ q :: r) hnm (Hd.cons (by decide) _)
  rw [show x :: nm ++ 61 :: q :: v ++ q :: r = x :: (nm ++ (61 :: q :: v ++ q :: r)) by simp]
  conv => lhs; unfold readN
  rw [List.dropWhile_cons, hs.1]
  simp only [Bool.false_eq_true, if_false]
  rw [if_neg hs.2.1, if_neg hs.2.2, e.1, e.2]
  have hval : valueL (61 :: q :: v ++ q :: r) = some (v, r) := by
    unfold valueL
    rw [show (61 :: q :: v ++ q :: r : Bs) = 61 :: (q :: (v ++ q :: r)) by simp, List.dropWhile_cons, show space 61 = false from by decide]
    simp only [Bool.false_eq_true, if_false, if_true]
    rw [List.dropWhile_cons, show space q = false by rcases hq with rfl | rfl <;> decide]
    simp only [Bool.false_eq_true, if_false]
    unfold valueTo
    simp only
    rw [if_pos hq, quotedL_app hv]
  simp only [hval]

/-! A value without quotes. -/
def plainC (c : UInt8) : Bool := !(space c) && c != 62 && c != 34 && c != 39 && c != 38 && c != 0
theorem plain_nend (c : UInt8) (h : plainC c = true) : nend [62] c = true := by
  have := byteAll (fun c => !(plainC c) || nend [62] c) (by decide +kernel) c
  rw [h] at this; simpa using this
theorem plain_facts (c : UInt8) (h : plainC c = true) : space c = false ∧ c ≠ 62 ∧ c ≠ 34 ∧ c ≠ 39 ∧ c ≠ 38 ∧ c ≠ 0 := by
  unfold plainC at h
  simpa [and_assoc] using h
/-- A value of plain bytes, behind its name (one byte) and the sign '=' with n blanks behind it, ahead of m. -/
theorem readN_plain (n : Nat) (x : UInt8) (b1 b2 v m : Bs) (acc : List Att) (hx : nend [47, 62, 61] x = true) (hb1 : ∀ c ∈ b1, space c = true) (hb2 : ∀ c ∈ b2, space c = true) (hv : ∀ c ∈ v, plainC c = true) (hne : v ≠ []) (hm : Hd (nend [62]) m) :
    readN (n + 1) (x :: (b1 ++ 61 :: (b2 ++ (v ++ m)))) acc = readN n m (add acc (clean (lower [x])) v) := by
  have hs : space x = false ∧ x ≠ 62 ∧ x ≠ 47 := by
    have := byteAll (fun x => !(nend [47, 62, 61] x) || (!(space x) && x != 62 && x != 47)) (by decide +kernel) x
    rw [hx] at this; simpa [and_assoc] using this
  have hd : Hd (nend [47, 62, 61]) (b1 ++ 61 :: (b2 ++ (v ++ m))) := by
    cases b1 with
    | nil => exact Hd.cons (by decide) _
    | cons c b1 =>
      refine Hd.cons ?_ _
      unfold nend; rw [hb1 c (by simp)]; rfl
  have e := all_app (p := nend [47, 62, 61]) (a := []) (m := b1 ++ 61 :: (b2 ++ (v ++ m))) (by simp) hd
  rw [List.nil_append] at e
  conv => lhs; unfold readN
  rw [List.dropWhile_cons, hs.1]
  simp only [Bool.false_eq_true, if_false]
  rw [if_neg hs.2.1, if_neg hs.2.2, e.1, e.2]
  obtain ⟨y, t, rfl⟩ : ∃ y t, v = y :: t := by
    cases v with
    | nil => exact absurd rfl hne
    | cons y t => exact ⟨y, t, rfl⟩
  obtain ⟨p1, p2, p3, p4, p5, p6⟩ := plain_facts y (hv y (by simp))
  have hval : valueL (b1 ++ 61 :: (b2 ++ (y :: t ++ m))) = some (y :: t, m) := by
    unfold valueL
    have e1 := all_app (p := space) (a := b1) (m := 61 :: (b2 ++ (y :: t ++ m))) hb1 (Hd.cons (by decide) _)
    have e2 := all_app (p := space) (a := b2) (m := y :: t ++ m) hb2 (Hd.cons p1 _)
    rw [e1.2]
    simp only [if_true]
    rw [e2.2, List.cons_append]
    unfold valueTo
    simp only
    have e3 := all_app (p := nend [62]) (a := t) (m := m) (fun c hc => plain_nend c (hv c (by simp [hc]))) hm
    rw [if_neg (fun h => h.elim p3 p4), if_neg p2, e3.1, e3.2]
  simp only [hval]
  rw [decode_same true (y :: t) (List.count_eq_zero.2 fun hm => (plain_facts 38 (hv 38 hm)).2.2.2.2.1 rfl), clean_none (fun d hd => (plain_facts d (hv d hd)).2.2.2.2.2)]
/-- A name, with nothing behind it. -/
theorem readN_bare (n : Nat) (x : UInt8) (m : Bs) (acc : List Att) (hx : nend [47, 62, 61] x = true) :
    readN (n + 1) (x :: 62 :: m) acc = readN n (62 :: m) (add acc (clean (lower [x])) []) := by
  have hs : space x = false ∧ x ≠ 62 ∧ x ≠ 47 := by
    have := byteAll (fun x => !(nend [47, 62, 61] x) || (!(space x) && x != 62 && x != 47)) (by decide +kernel) x
    rw [hx] at this; simpa [and_assoc] using this
  conv => lhs; unfold readN
  rw [List.dropWhile_cons, hs.1]
  simp only [Bool.false_eq_true, if_false]
  rw [if_neg hs.2.1, if_neg hs.2.2, List.takeWhile_cons, List.dropWhile_cons, show nend [47, 62, 61] 62 = false from by decide]
  rfl
theorem readN_end (n : Nat) (m : Bs) (acc : List Att) : readN (n + 1) (62 :: m) acc = some (acc, false, m) := by
  unfold readN
  rw [List.dropWhile_cons, show space 62 = false from by decide]
  rfl
theorem readN_blank (n : Nat) (c : UInt8) (hc : space c = true) (l : Bs) (acc : List Att) : readN n (c :: l) acc = readN n l acc := by
  cases n with
  | zero => rfl
  | succ n => unfold readN; rw [List.dropWhile_cons, hc]; rfl
/-! Blanks, and strokes. -/
theorem readL_blank (l : Bs) : readL (32 :: l) = readL l := by
  rw [readL_eq (n := l.length + 2) (by simp), readN_blank _ 32 (by decide)]
  exact (readL_eq (by omega)).symm
theorem readL_stroke (l : Bs) : readL (32 :: 47 :: 10 :: l) = readL l := by
  rw [readL_eq (n := l.length + 5) (by simp), readN_blank _ 32 (by decide)]
  have : readN (l.length + 5) (47 :: 10 :: l) [] = readN (l.length + 4) (10 :: l) [] := by
    conv => lhs; unfold readN
    rw [List.dropWhile_cons, show space 47 = false from by decide]
    simp [headIs]
  rw [this, readN_blank _ 10 (by decide)]
  exact (readL_eq (by omega)).symm
def strokes : Nat → Bs
  | 0 => []
  | n + 1 => strokes n ++ [32, 47, 10]
theorem readL_strokes : ∀ (n : Nat) (l : Bs), readL (strokes n ++ l) = readL l
  | 0, l => rfl
  | n + 1, l => by
    show readL ((strokes n ++ [32, 47, 10]) ++ l) = _
    rw [List.append_assoc, readL_strokes n]
    exact readL_stroke l
theorem strokes_len (n : Nat) : (strokes n).length = 3 * n := by
  induction n with
  | zero => rfl
  | succ n ih => show (strokes n ++ [32, 47, 10]).length = _; rw [List.length_append, ih]; simp; omega
end Go.Proofs.YtfhjfidkcdcjnaaDoor.Fl

namespace Go.Proofs.YtfhjfidkcdcjnaaDoor.Q
open Go.RowKit Go.Proofs.YtfhjfidkcdcjnaaDoorW.PrintWords Go.Proofs.YtfhjfidkcdcjnaaDoorW.PrintLast Go.Proofs.YtfhjfidkcdcjnaaDoorW.PrintMore
attribute [local go_sem] max2_int min2_int max_two min_two max_three min_three max_four min_four   -- for this text's walks alone
set_option linter.unusedVariables false
set_option linter.unusedSimpArgs false

/-! ### flaillaw08_AttrsWritten: function 4 -/
mutual
noncomputable def flaillaw08_AttrsWritten.j0 : Nat → List Int → List ByteArray → Bool → Bool → Bool → Option (Bool)
  | 0, _, _, _, _, _ => none
  | k + 1, x0, x1, x2, x7, x39 => if x39 = true then (some x7) else (if x2 = true then (flaillaw08_AttrsWritten.j1 k x0 x1 x7 (⟨#[]⟩ : ByteArray) (⟨#[39]⟩ : ByteArray)) else (flaillaw08_AttrsWritten.j1 k x0 x1 x7 (⟨#[]⟩ : ByteArray) (⟨#[34]⟩ : ByteArray)))
noncomputable def flaillaw08_AttrsWritten.j1 : Nat → List Int → List ByteArray → Bool → ByteArray → ByteArray → Option (Bool)
  | 0, _, _, _, _, _ => none
  | k + 1, x0, x1, x7, x8, x9 => flaillaw08_AttrsWritten.l0 k x0 x1 x7 x8 x9 ([] : List (S27)) 0
noncomputable def flaillaw08_AttrsWritten.l0 : Nat → List Int → List ByteArray → Bool → ByteArray → ByteArray → List (S27) → Int → Option (Bool)
  | 0, _, _, _, _, _, _, _ => none
  | k + 1, x0, x1, x7, x8, x9, x10, x11 => if x11 < (x0.length : Int) then (if 0 ≤ x11 then (if x11 < (x1.length : Int) then (if ((rdOf ByteArray.empty x1 x11).size : Int) > 60 then (some x7) else (flaillaw08_AttrsWritten.l1 k x0 x1 x7 x8 x9 x10 x11 (rdOf ByteArray.empty x1 x11) 0)) else (none)) else (none)) else (if x8.size + 1 ≤ 9223372036854775807 then ((attrs_Read.f (x8 ++ (⟨#[62]⟩ : ByteArray)) 0).bind fun bt186 => (if x8.size + 3 ≤ 9223372036854775807 then ((attrs_Read.f (x8 ++ (⟨#[32, 47, 62]⟩ : ByteArray)) 0).bind fun bt192 => ((attrs_Read.f x8 0).bind fun bt198 => (if x7 = true then (if bt186.2.2.2 = true then (if bt192.2.2.2 = true then (if bt198.2.2.2 = true then (some false) else (if bt186.2.1 = true then (some false) else (if bt192.2.1 = true then (if bt186.2.2.1 = (wrap64 ((x8.size : Int) + 1)) then (if bt192.2.2.1 = (wrap64 ((x8.size : Int) + 3)) then ((flailref08_Same.f k bt186.1 x10).bind fun t204 => (if t204 = true then ((flailref08_Same.f k bt192.1 x10).bind fun t205 => (some t205)) else (some false))) else (some false)) else (some false)) else (some false)))) else (some false)) else (some false)) else (some false)))) else (none))) else (none))
noncomputable def flaillaw08_AttrsWritten.l1 : Nat → List Int → List ByteArray → Bool → ByteArray → ByteArray → List (S27) → Int → ByteArray → Int → Option (Bool)
  | 0, _, _, _, _, _, _, _, _, _ => none
  | k + 1, x0, x1, x7, x8, x9, x10, x11, x12, x13 => if x13 < (x12.size : Int) then (if 0 ≤ x13 then (if (bt x12 x13) = 34 then (some x7) else (if (bt x12 x13) = 39 then (some x7) else (if (bt x12 x13) = 38 then (some x7) else (if (bt x12 x13) = 0 then (some x7) else (flaillaw08_AttrsWritten.l1 k x0 x1 x7 x8 x9 x10 x11 x12 (wrap64 (x13 + 1))))))) else (none)) else (if 0 ≤ x11 then (if x11 < (x0.length : Int) then ((some (([(97 + (Int.tmod (rd x0 x11) 5)) % 256, 120] : List Int) : List Int)).bind fun y179 => (if x8.size + 1 ≤ 9223372036854775807 then (if (x8 ++ (⟨#[32]⟩ : ByteArray)).size + (strOfNums y179).size ≤ 9223372036854775807 then (if ((x8 ++ (⟨#[32]⟩ : ByteArray)) ++ (strOfNums y179)).size + 1 ≤ 9223372036854775807 then (if (((x8 ++ (⟨#[32]⟩ : ByteArray)) ++ (strOfNums y179)) ++ (⟨#[61]⟩ : ByteArray)).size + x9.size ≤ 9223372036854775807 then (if ((((x8 ++ (⟨#[32]⟩ : ByteArray)) ++ (strOfNums y179)) ++ (⟨#[61]⟩ : ByteArray)) ++ x9).size + x12.size ≤ 9223372036854775807 then (if (((((x8 ++ (⟨#[32]⟩ : ByteArray)) ++ (strOfNums y179)) ++ (⟨#[61]⟩ : ByteArray)) ++ x9) ++ x12).size + x9.size ≤ 9223372036854775807 then (flaillaw08_AttrsWritten.l2 k x0 x1 x7 ((((((x8 ++ (⟨#[32]⟩ : ByteArray)) ++ (strOfNums y179)) ++ (⟨#[61]⟩ : ByteArray)) ++ x9) ++ x12) ++ x9) x9 x10 x11 x12 (strOfNums y179) false 0) else (none)) else (none)) else (none)) else (none)) else (none)) else (none))) else (none)) else (none))
noncomputable def flaillaw08_AttrsWritten.l2 : Nat → List Int → List ByteArray → Bool → ByteArray → ByteArray → List (S27) → Int → ByteArray → ByteArray → Bool → Int → Option (Bool)
  | 0, _, _, _, _, _, _, _, _, _, _, _ => none
  | k + 1, x0, x1, x7, x8, x9, x10, x11, x12, x14, x15, x16 => if x16 < (x10.length : Int) then (if 0 ≤ x16 then (if ((rd_T27 x10 x16).f0).toList = x14.toList then (flaillaw08_AttrsWritten.l2 k x0 x1 x7 x8 x9 x10 x11 x12 x14 true (wrap64 (x16 + 1))) else (flaillaw08_AttrsWritten.l2 k x0 x1 x7 x8 x9 x10 x11 x12 x14 x15 (wrap64 (x16 + 1)))) else (none)) else (if x15 = true then (flaillaw08_AttrsWritten.l0 k x0 x1 x7 x8 x9 x10 (wrap64 (x11 + 1))) else (if x10.length < 4398046511104 then (flaillaw08_AttrsWritten.l0 k x0 x1 x7 x8 x9 (x10 ++ [(⟨x14, x12⟩ : S27)]) (wrap64 (x11 + 1))) else (none)))
end
noncomputable def flaillaw08_AttrsWritten.f (k : Nat) (l0 : List Int) (l1 : List ByteArray) (a2 : Bool) : Option (Bool) := (flaillaw08_awake.f k).bind fun t176 => (if (l0.length : Int) > 10 then (flaillaw08_AttrsWritten.j0 k l0 l1 a2 t176 true) else (flaillaw08_AttrsWritten.j0 k l0 l1 a2 t176 (decide ((l1.length : Int) < (l0.length : Int)))))
theorem flaillaw08_AttrsWritten.mono_l : ∀ k, (∀ y0 y1 y2 y3 y4, LeO (flaillaw08_AttrsWritten.j0 k y0 y1 y2 y3 y4) (flaillaw08_AttrsWritten.j0 (k + 1) y0 y1 y2 y3 y4)) ∧ (∀ y0 y1 y2 y3 y4, LeO (flaillaw08_AttrsWritten.j1 k y0 y1 y2 y3 y4) (flaillaw08_AttrsWritten.j1 (k + 1) y0 y1 y2 y3 y4)) ∧ (∀ y0 y1 y2 y3 y4 y5 y6, LeO (flaillaw08_AttrsWritten.l0 k y0 y1 y2 y3 y4 y5 y6) (flaillaw08_AttrsWritten.l0 (k + 1) y0 y1 y2 y3 y4 y5 y6)) ∧ (∀ y0 y1 y2 y3 y4 y5 y6 y7 y8, LeO (flaillaw08_AttrsWritten.l1 k y0 y1 y2 y3 y4 y5 y6 y7 y8) (flaillaw08_AttrsWritten.l1 (k + 1) y0 y1 y2 y3 y4 y5 y6 y7 y8)) ∧ (∀ y0 y1 y2 y3 y4 y5 y6 y7 y8 y9 y10, LeO (flaillaw08_AttrsWritten.l2 k y0 y1 y2 y3 y4 y5 y6 y7 y8 y9 y10) (flaillaw08_AttrsWritten.l2 (k + 1) y0 y1 y2 y3 y4 y5 y6 y7 y8 y9 y10))
  | 0 => ⟨fun _ _ _ _ _ r h => by simp [flaillaw08_AttrsWritten.j0] at h, fun _ _ _ _ _ r h => by simp [flaillaw08_AttrsWritten.j1] at h, fun _ _ _ _ _ _ _ r h => by simp [flaillaw08_AttrsWritten.l0] at h, fun _ _ _ _ _ _ _ _ _ r h => by simp [flaillaw08_AttrsWritten.l1] at h, fun _ _ _ _ _ _ _ _ _ _ _ r h => by simp [flaillaw08_AttrsWritten.l2] at h⟩
  | k + 1 => by
    obtain ⟨ih0, ih1, ih2, ih3, ih4⟩ := flaillaw08_AttrsWritten.mono_l k
    refine ⟨?_, ?_, ?_, ?_, ?_⟩
    · intro y0 y1 y2 y3 y4
      unfold flaillaw08_AttrsWritten.j0
      repeat' first
      | (with_reducible exact ih0 _ _ _ _ _)
      | (with_reducible exact ih1 _ _ _ _ _)
      | (with_reducible exact ih2 _ _ _ _ _ _ _)
      | (with_reducible exact ih3 _ _ _ _ _ _ _ _ _)
      | (with_reducible exact ih4 _ _ _ _ _ _ _ _ _ _ _)
      | (with_reducible exact flaillaw08_awake.mono _)
      | (with_reducible exact flailref08_Same.mono _ _ _)
      | (with_reducible exact LeO.refl _)
      | (with_reducible exact LeO.none _)
      | (with_reducible refine LeO.ite ?_ ?_)
      | (with_reducible refine LeO.bind ?_ (fun _ => ?_))
      | exact ih0 _ _ _ _ _
      | exact ih1 _ _ _ _ _
      | exact ih2 _ _ _ _ _ _ _
      | exact ih3 _ _ _ _ _ _ _ _ _
      | exact ih4 _ _ _ _ _ _ _ _ _ _ _
      | exact flaillaw08_awake.mono _
      | exact flailref08_Same.mono _ _ _
      | exact LeO.none _
      | refine LeO.ite ?_ ?_
      | refine LeO.bind ?_ (fun _ => ?_)
    · intro y0 y1 y2 y3 y4
      unfold flaillaw08_AttrsWritten.j1
      repeat' first
      | (with_reducible exact ih0 _ _ _ _ _)
      | (with_reducible exact ih1 _ _ _ _ _)
      | (with_reducible exact ih2 _ _ _ _ _ _ _)
      | (with_reducible exact ih3 _ _ _ _ _ _ _ _ _)
      | (with_reducible exact ih4 _ _ _ _ _ _ _ _ _ _ _)
      | (with_reducible exact flaillaw08_awake.mono _)
      | (with_reducible exact flailref08_Same.mono _ _ _)
      | (with_reducible exact LeO.refl _)
      | (with_reducible exact LeO.none _)
      | (with_reducible refine LeO.ite ?_ ?_)
      | (with_reducible refine LeO.bind ?_ (fun _ => ?_))
      | exact ih0 _ _ _ _ _
      | exact ih1 _ _ _ _ _
      | exact ih2 _ _ _ _ _ _ _
      | exact ih3 _ _ _ _ _ _ _ _ _
      | exact ih4 _ _ _ _ _ _ _ _ _ _ _
      | exact flaillaw08_awake.mono _
      | exact flailref08_Same.mono _ _ _
      | exact LeO.none _
      | refine LeO.ite ?_ ?_
      | refine LeO.bind ?_ (fun _ => ?_)
    · intro y0 y1 y2 y3 y4 y5 y6
      unfold flaillaw08_AttrsWritten.l0
      repeat' first
      | (with_reducible exact ih0 _ _ _ _ _)
      | (with_reducible exact ih1 _ _ _ _ _)
      | (with_reducible exact ih2 _ _ _ _ _ _ _)
      | (with_reducible exact ih3 _ _ _ _ _ _ _ _ _)
      | (with_reducible exact ih4 _ _ _ _ _ _ _ _ _ _ _)
      | (with_reducible exact flaillaw08_awake.mono _)
      | (with_reducible exact flailref08_Same.mono _ _ _)
      | (with_reducible exact LeO.refl _)
      | (with_reducible exact LeO.none _)
      | (with_reducible refine LeO.ite ?_ ?_)
      | (with_reducible refine LeO.bind ?_ (fun _ => ?_))
      | exact ih0 _ _ _ _ _
      | exact ih1 _ _ _ _ _
      | exact ih2 _ _ _ _ _ _ _
      | exact ih3 _ _ _ _ _ _ _ _ _
      | exact ih4 _ _ _ _ _ _ _ _ _ _ _
      | exact flaillaw08_awake.mono _
      | exact flailref08_Same.mono _ _ _
      | exact LeO.none _
      | refine LeO.ite ?_ ?_
      | refine LeO.bind ?_ (fun _ => ?_)
    · intro y0 y1 y2 y3 y4 y5 y6 y7 y8
      unfold flaillaw08_AttrsWritten.l1
      repeat' first
      | (with_reducible exact ih0 _ _ _ _ _)
      | (with_reducible exact ih1 _ _ _ _ _)
      | (with_reducible exact ih2 _ _ _ _ _ _ _)
      | (with_reducible exact ih3 _ _ _ _ _ _ _ _ _)
      | (with_reducible exact ih4 _ _ _ _ _ _ _ _ _ _ _)
      | (with_reducible exact flaillaw08_awake.mono _)
      | (with_reducible exact flailref08_Same.mono _ _ _)
      | (with_reducible exact LeO.refl _)
      | (with_reducible exact LeO.none _)
      | (with_reducible refine LeO.ite ?_ ?_)
      | (with_reducible refine LeO.bind ?_ (fun _ => ?_))
      | exact ih0 _ _ _ _ _
      | exact ih1 _ _ _ _ _
      | exact ih2 _ _ _ _ _ _ _
      | exact ih3 _ _ _ _ _ _ _ _ _
      | exact ih4 _ _ _ _ _ _ _ _ _ _ _
      | exact flaillaw08_awake.mono _
      | exact flailref08_Same.mono _ _ _
      | exact LeO.none _
      | refine LeO.ite ?_ ?_
      | refine LeO.bind ?_ (fun _ => ?_)
    · intro y0 y1 y2 y3 y4 y5 y6 y7 y8 y9 y10
      unfold flaillaw08_AttrsWritten.l2
      repeat' first
      | (with_reducible exact ih0 _ _ _ _ _)
      | (with_reducible exact ih1 _ _ _ _ _)
      | (with_reducible exact ih2 _ _ _ _ _ _ _)
      | (with_reducible exact ih3 _ _ _ _ _ _ _ _ _)
      | (with_reducible exact ih4 _ _ _ _ _ _ _ _ _ _ _)
      | (with_reducible exact flaillaw08_awake.mono _)
      | (with_reducible exact flailref08_Same.mono _ _ _)
      | (with_reducible exact LeO.refl _)
      | (with_reducible exact LeO.none _)
      | (with_reducible refine LeO.ite ?_ ?_)
      | (with_reducible refine LeO.bind ?_ (fun _ => ?_))
      | exact ih0 _ _ _ _ _
      | exact ih1 _ _ _ _ _
      | exact ih2 _ _ _ _ _ _ _
      | exact ih3 _ _ _ _ _ _ _ _ _
      | exact ih4 _ _ _ _ _ _ _ _ _ _ _
      | exact flaillaw08_awake.mono _
      | exact flailref08_Same.mono _ _ _
      | exact LeO.none _
      | refine LeO.ite ?_ ?_
      | refine LeO.bind ?_ (fun _ => ?_)
theorem flaillaw08_AttrsWritten.mono : ∀ a0 a1 a2 k, LeO (flaillaw08_AttrsWritten.f k a0 a1 a2) (flaillaw08_AttrsWritten.f (k + 1) a0 a1 a2) := by
  intro a0 a1 a2 k
  obtain ⟨ih0, ih1, ih2, ih3, ih4⟩ := flaillaw08_AttrsWritten.mono_l k
  unfold flaillaw08_AttrsWritten.f
  repeat' first
      | (with_reducible exact ih0 _ _ _ _ _)
      | (with_reducible exact ih1 _ _ _ _ _)
      | (with_reducible exact ih2 _ _ _ _ _ _ _)
      | (with_reducible exact ih3 _ _ _ _ _ _ _ _ _)
      | (with_reducible exact ih4 _ _ _ _ _ _ _ _ _ _ _)
      | (with_reducible exact flaillaw08_awake.mono _)
      | (with_reducible exact flailref08_Same.mono _ _ _)
      | (with_reducible exact LeO.refl _)
      | (with_reducible exact LeO.none _)
      | (with_reducible refine LeO.ite ?_ ?_)
      | (with_reducible refine LeO.bind ?_ (fun _ => ?_))
      | exact ih0 _ _ _ _ _
      | exact ih1 _ _ _ _ _
      | exact ih2 _ _ _ _ _ _ _
      | exact ih3 _ _ _ _ _ _ _ _ _
      | exact ih4 _ _ _ _ _ _ _ _ _ _ _
      | exact flaillaw08_awake.mono _
      | exact flailref08_Same.mono _ _ _
      | exact LeO.none _
      | refine LeO.ite ?_ ?_
      | refine LeO.bind ?_ (fun _ => ?_)
set_option maxHeartbeats 8000000 in
set_option maxRecDepth 100000 in
theorem flaillaw08_AttrsWritten.calls (k : Nat) (A0 : Option Addr) (c0 : Nat) (l0 : List Int) (A1 : Option Addr) (c1 : Nat) (l1 : List ByteArray) (a2 : Bool) (r : Bool) (w : World) (hG : Gl w) (hr0 : Kd.C (Kd.int .u8) w A0 l0.length l0) (hc0 : l0.length ≤ c0) (hr1 : Kd.C Kd.string w A1 l1.length l1) (hc1 : l1.length ≤ c1) (h : flaillaw08_AttrsWritten.f k l0 l1 a2 = some r) (ht : r = true) :
    Calls Tryd.prog 4 #[.slice A0 l0.length c0, .slice A1 l1.length c1, .bool a2] w fun e w' => e = .returned (.bool r) ∧ Below w.heap.size w w' := by
  have hu27 := Tryd.underlying27
  have HR0 := Aside0.mk hr0
  have HC0 := Aside0.mk hc0
  clear hr0 hc0
  have HR1 := Aside0.mk hr1
  have HC1 := Aside0.mk hc1
  clear hr1 hc1
  have HB := Aside0.mk (Below.refl w.heap.size w)
  have HG := Aside0.mk hG
  clear hG
  have HT := Aside0.mk ht
  clear ht
  have H : ((flaillaw08_awake.f k).bind fun t176 => (if (l0.length : Int) > 10 then (flaillaw08_AttrsWritten.j0 k l0 l1 a2 t176 true) else (flaillaw08_AttrsWritten.j0 k l0 l1 a2 t176 (decide ((l1.length : Int) < (l0.length : Int)))))) = some r := h
  clear h
  replace H := Option.bind_eq_some_iff.mp H
  obtain ⟨t176, A40, H⟩ := H
  replace H : (if (l0.length : Int) > 10 then (flaillaw08_AttrsWritten.j0 k l0 l1 a2 t176 true) else (flaillaw08_AttrsWritten.j0 k l0 l1 a2 t176 (decide ((l1.length : Int) < (l0.length : Int))))) = some r := H
  have A4 := Aside0.mk A40
  clear A40
  have HC5 := Aside0.mk H
  clear H
  go_enter Tryd.func4, Tryd.ntmps4
  go_upto_region 2 with (first | ((with_reducible refine gate_callee (f := 12) rfl ?_); refine goesL_ (some 29) rfl rfl Tryd.func12 (by kernel_rfl) rfl #[] rfl (by (try simp only [List.map_toArray, List.map_cons, List.map_nil]); first | done | rfl | (simp only [List.length_drop, List.length_take]; rfl)) ?_; (with_reducible refine (flaillaw08_awake.calls k  t176 _ ?side1 A4.out).mono ?_); (case side1 => first | (with_reducible exact HG.out) | exact Gl.below HG.out (by repeat (first | (with_reducible first | exact HB.out | apply below_alloc | apply pw_below_drewN | apply below_drew1) | exact HB.out)) | exact HG.out); rintro e w6 ⟨rfl, hb⟩; refine ⟨_, rfl, ?_⟩; have n0_ := Aside0.mk (below_step (by repeat (first | (with_reducible first | exact HB.out | apply below_alloc | apply pw_below_drewN | apply below_drew1) | exact HB.out)) hb); clear HB; have HB := n0_; clear n0_; (try clear hb); (try clear hb2); (try clear hk); (try clear hi)))
  (try simp only [Act.put, List.setIfInBounds_toArray, List.set_cons_zero, List.set_cons_succ])
  go_cut [39] (fun v39 wc => ∃ (kq : Nat) (x39_4 : Bool), v39 = .bool x39_4 ∧ Aside0 (flaillaw08_AttrsWritten.j0 kq l0 l1 a2 t176 x39_4 = some r) ∧ Aside0 (kq ≤ k) ∧ Aside0 (Below w.heap.size w wc))
  case first =>
    have H := HC5.out
    clear HC5
    by_cases c7 : (l0.length : Int) > 10
    · rw [if_pos c7] at H
      have c7b0 : decide (10 < (l0.length : Int)) = true := decide_eq_true c7
      have c7b1 : decide (10 < l0.length) = true := decide_eq_true (by omega)
      clear c7
      (first | rw [c7b0] | (simp only [i64_w, i32_w]; rw [c7b0]) | skip)
      have H' := Aside0.mk H
      clear H
      go_wp2
      go_meet
      case rel => exact ⟨_, (true), (by first | rfl | (simp; done) | (simp [*]; done)), H', ⟨by first | omega | exact Nat.le_refl _⟩, ⟨by repeat (first | (with_reducible first | exact HB.out | apply below_alloc | apply pw_below_drewN | apply below_drew1) | exact HB.out)⟩⟩
    · rw [if_neg c7] at H
      have c7b0 : decide (10 < (l0.length : Int)) = false := decide_eq_false c7
      have c7b1 : decide (10 < l0.length) = false := decide_eq_false (by omega)
      clear c7
      (first | rw [c7b0] | (simp only [i64_w, i32_w]; rw [c7b0]) | skip)
      have H' := Aside0.mk H
      clear H
      go_wp2
      go_meet
      case rel => exact ⟨_, (decide ((l1.length : Int) < (l0.length : Int))), (by first | rfl | (simp; done) | (simp [*]; done)), H', ⟨by first | omega | exact Nat.le_refl _⟩, ⟨by repeat (first | (with_reducible first | exact HB.out | apply below_alloc | apply pw_below_drewN | apply below_drew1) | exact HB.out)⟩⟩
  case rest =>
    clear HC5
    try clear c1
    try clear p2
    try clear c4
    try clear c7
    try clear c7b0
    try clear c7b1
    obtain ⟨kq, x39_4, rfl, HA, HJ4, HB⟩ := hcut
    cases kq with
    | zero => exact absurd HA.out (by simp [flaillaw08_AttrsWritten.j0])
    | succ kj4 =>
      have H := HA.out
      clear HA
      simp only [flaillaw08_AttrsWritten.j0] at H
      by_cases c8 : x39_4 = true
      · subst c8
        have H1 : (some t176) = some r := by rw [if_pos rfl] at H; exact H
        clear H
        have H := H1
        clear H1
        obtain rfl := Option.some.inj H
        go_wp2
        go_ret
        exact ⟨by first | rfl | (simp [errW_none, errW_some] <;> rfl) | (simp [*, errW_none, errW_some] <;> rfl), by repeat (first | (with_reducible first | exact HB.out | apply below_alloc | apply pw_below_drewN | apply below_drew1) | exact HB.out)⟩
      · replace c8 := Bool.eq_false_iff.mpr c8
        subst c8
        have H1 : (if a2 = true then (flaillaw08_AttrsWritten.j1 kj4 l0 l1 t176 (⟨#[]⟩ : ByteArray) (⟨#[39]⟩ : ByteArray)) else (flaillaw08_AttrsWritten.j1 kj4 l0 l1 t176 (⟨#[]⟩ : ByteArray) (⟨#[34]⟩ : ByteArray))) = some r := by rw [if_neg (show ¬ (false = true) by decide)] at H; exact H
        clear H
        have H := H1
        clear H1
        have HC9 := Aside0.mk H
        clear H
        go_upto_if 41 with (fail)
        go_cut [9] (fun v9 wc => ∃ (kq : Nat) (x9_8 : ByteArray), v9 = .string x9_8 ∧ Aside0 (flaillaw08_AttrsWritten.j1 kq l0 l1 t176 (⟨#[]⟩ : ByteArray) x9_8 = some r) ∧ Aside0 (kq ≤ kj4) ∧ Aside0 (Below w.heap.size w wc))
        case first =>
          have H := HC9.out
          clear HC9
          by_cases c10 : a2 = true
          · subst c10
            have H1 : (flaillaw08_AttrsWritten.j1 kj4 l0 l1 t176 (⟨#[]⟩ : ByteArray) (⟨#[39]⟩ : ByteArray)) = some r := by rw [if_pos rfl] at H; exact H
            clear H
            have H := H1
            clear H1
            have H' := Aside0.mk H
            clear H
            go_wp2
            go_meet
            case rel => exact ⟨_, ((⟨#[39]⟩ : ByteArray)), (by first | rfl | (simp; done) | (simp [*]; done)), H', ⟨by have := HJ4.out; first | omega | exact Nat.le_refl _⟩, ⟨by repeat (first | (with_reducible first | exact HB.out | apply below_alloc | apply pw_below_drewN | apply below_drew1) | exact HB.out)⟩⟩
          · replace c10 := Bool.eq_false_iff.mpr c10
            subst c10
            have H1 : (flaillaw08_AttrsWritten.j1 kj4 l0 l1 t176 (⟨#[]⟩ : ByteArray) (⟨#[34]⟩ : ByteArray)) = some r := by rw [if_neg (show ¬ (false = true) by decide)] at H; exact H
            clear H
            have H := H1
            clear H1
            have H' := Aside0.mk H
            clear H
            go_wp2
            go_meet
            case rel => exact ⟨_, ((⟨#[34]⟩ : ByteArray)), (by first | rfl | (simp; done) | (simp [*]; done)), H', ⟨by have := HJ4.out; first | omega | exact Nat.le_refl _⟩, ⟨by repeat (first | (with_reducible first | exact HB.out | apply below_alloc | apply pw_below_drewN | apply below_drew1) | exact HB.out)⟩⟩
        case rest =>
          clear HC9
          try clear c1
          try clear p2
          try clear c4
          try clear c7
          try clear c7b0
          try clear c7b1
          try clear c8
          try clear c10
          try clear p2
          obtain ⟨kq, x9_8, rfl, HA, HJ8, HB⟩ := hcut
          cases kq with
          | zero => exact absurd HA.out (by simp [flaillaw08_AttrsWritten.j1])
          | succ kj8 =>
            have H := HA.out
            clear HA
            simp only [flaillaw08_AttrsWritten.j1] at H
            have H' := Aside0.mk H
            clear H
            go_wp2
            go_loopg [8, 10, 11] kj8 (fun kq v8 v10 v11 w' => ∃ (x8_3 : ByteArray) (x10_3 : List (S27)) (x11_3 : Int), v8 = .string x8_3 ∧ v11 = .int .i64 x11_3 ∧ Aside0 (flaillaw08_AttrsWritten.l0 kq l0 l1 t176 x8_3 x9_8 x10_3 x11_3 = some r) ∧ Aside0 (kq ≤ kj8) ∧ Aside0 (Kd.R k27 27 w' w.heap.size (fun _ => True) v10 x10_3) ∧ Aside0 (Below w.heap.size w w'))
            case atStart => exact ⟨((⟨#[]⟩ : ByteArray)), (([] : List (S27))), (0), (by first | rfl | (simp; done) | (simp [*]; done)), (by first | rfl | (simp; done) | (simp [*]; done)), H', ⟨Nat.le_refl _⟩, ⟨by first | exact Kd.R_nil _ _ _ _ _ | exact Kd.N_nil _ _ _ _ _ | exact Kd.V_nil _ _ _ _ _ | exact Kd.Q_nil _ _ _ _ _ | exact Kd.S_nil _ _ _ _ _⟩, ⟨by repeat (first | (with_reducible first | exact HB.out | apply below_alloc | apply pw_below_drewN | apply below_drew1) | exact HB.out)⟩⟩
            case round =>
              clear H'
              try clear c1
              try clear p2
              try clear c4
              try clear c7
              try clear c7b0
              try clear c7b1
              try clear c8
              try clear c10
              try clear p2
              obtain ⟨x8_3, x10_3, x11_3, rfl, rfl, HA, HK3, HO_10, HB⟩ := hrel
              cases gk with
              | zero => exact absurd HA.out (by simp [flaillaw08_AttrsWritten.l0])
              | succ k3 =>
                have H := HA.out
                clear HA
                simp only [flaillaw08_AttrsWritten.l0] at H
                by_cases c11 : x11_3 < (l0.length : Int)
                · rw [if_pos c11] at H
                  have c11b0 : decide (x11_3 < (l0.length : Int)) = true := decide_eq_true c11
                  clear c11
                  by_cases c12 : 0 ≤ x11_3
                  · rw [if_pos c12] at H
                    have c12b0 : decide (0 ≤ x11_3) = true := decide_eq_true c12
                    clear c12
                    by_cases c13 : x11_3 < (l1.length : Int)
                    · rw [if_pos c13] at H
                      have c13b0 : decide (x11_3 < (l1.length : Int)) = true := decide_eq_true c13
                      clear c13
                      by_cases c14 : ((rdOf ByteArray.empty l1 x11_3).size : Int) > 60
                      · rw [if_pos c14] at H
                        have c14b0 : decide (60 < ((rdOf ByteArray.empty l1 x11_3).size : Int)) = true := decide_eq_true c14
                        have c14b1 : decide (60 < (rdOf ByteArray.empty l1 x11_3).size) = true := decide_eq_true (by omega)
                        clear c14
                        obtain rfl := Option.some.inj H
                        have p177 : 0 ≤ (x11_3 : Int) := of_decide_eq_true (by first | (with_reducible assumption) | assumption)
                        have q177 : x11_3 < (l1.length : Int) := of_decide_eq_true (by first | (with_reducible assumption) | assumption)
                        obtain ⟨ad177, e177, hx177_0⟩ := Kd.at_string HR1.out x11_3 p177 q177
                        cases e177
                        replace hx177_0 := (HB.out.cell (World.block_lt_of_cell? w _ hx177_0)).trans hx177_0
                        replace p177 := eq_true p177
                        replace q177 := eq_true q177
                        go_wp2
                        go_ret
                        exact ⟨by first | rfl | (simp [errW_none, errW_some] <;> rfl) | (simp [*, errW_none, errW_some] <;> rfl), by repeat (first | (with_reducible first | exact HB.out | apply below_alloc | apply pw_below_drewN | apply below_drew1) | exact HB.out)⟩
                      · rw [if_neg c14] at H
                        have c14b0 : decide (60 < ((rdOf ByteArray.empty l1 x11_3).size : Int)) = false := decide_eq_false c14
                        have c14b1 : decide (60 < (rdOf ByteArray.empty l1 x11_3).size) = false := decide_eq_false (by omega)
                        clear c14
                        have H' := Aside0.mk H
                        clear H
                        have p177 : 0 ≤ (x11_3 : Int) := of_decide_eq_true (by first | (with_reducible assumption) | assumption)
                        have q177 : x11_3 < (l1.length : Int) := of_decide_eq_true (by first | (with_reducible assumption) | assumption)
                        obtain ⟨ad177, e177, hx177_0⟩ := Kd.at_string HR1.out x11_3 p177 q177
                        cases e177
                        replace hx177_0 := (HB.out.cell (World.block_lt_of_cell? w _ hx177_0)).trans hx177_0
                        replace p177 := eq_true p177
                        replace q177 := eq_true q177
                        go_wp2
                        go_loopg [13] k3 (fun kq v13 w' => ∃ (x13_4 : Int), v13 = .int .i64 x13_4 ∧ Aside0 (flaillaw08_AttrsWritten.l1 kq l0 l1 t176 x8_3 x9_8 x10_3 x11_3 (rdOf ByteArray.empty l1 x11_3) x13_4 = some r) ∧ Aside0 (kq ≤ k3) ∧ Aside0 (Kd.R k27 27 w' w.heap.size (fun _ => True) u10 x10_3) ∧ Aside0 (Below w.heap.size w w'))
                        case atStart => exact ⟨(0), (by first | rfl | (simp; done) | (simp [*]; done)), H', ⟨Nat.le_refl _⟩, ⟨by (with_reducible repeat (first | apply Kd.R_alloc | apply Kd.R_drewN | apply Kd.R_drew)); exact HO_10.out⟩, ⟨by repeat (first | (with_reducible first | exact HB.out | apply below_alloc | apply pw_below_drewN | apply below_drew1) | exact HB.out)⟩⟩
                        case round =>
                          clear H'
                          try clear c1
                          try clear p1
                          try clear q1
                          try clear hx1
                          try clear p2
                          try clear c4
                          try clear c7
                          try clear c7b0
                          try clear c7b1
                          try clear c8
                          try clear c10
                          try clear c11
                          try clear c11b0
                          try clear c12
                          try clear c12b0
                          try clear c13
                          try clear c13b0
                          try clear c14
                          try clear c14b0
                          try clear c14b1
                          try clear hx177_0
                          try clear p177
                          try clear p2
                          try clear q177
                          obtain ⟨x13_4, rfl, HA, HK4, HO_10, HB⟩ := hrel
                          cases gk with
                          | zero => exact absurd HA.out (by simp [flaillaw08_AttrsWritten.l1])
                          | succ k4 =>
                            have H := HA.out
                            clear HA
                            simp only [flaillaw08_AttrsWritten.l1] at H
                            by_cases c15 : x13_4 < ((rdOf ByteArray.empty l1 x11_3).size : Int)
                            · rw [if_pos c15] at H
                              have c15b0 : decide (x13_4 < ((rdOf ByteArray.empty l1 x11_3).size : Int)) = true := decide_eq_true c15
                              clear c15
                              by_cases c16 : 0 ≤ x13_4
                              · rw [if_pos c16] at H
                                have c16b0 : decide (0 ≤ x13_4) = true := decide_eq_true c16
                                clear c16
                                by_cases c18 : (bt (rdOf ByteArray.empty l1 x11_3) x13_4) = 34
                                · rw [if_pos c18] at H
                                  have c18b0 : ((bt (rdOf ByteArray.empty l1 x11_3) x13_4) == 34) = true := beq_iff_eq.mpr c18
                                  have c18b1 : ((bt (rdOf ByteArray.empty l1 x11_3) x13_4) != 34) = false := bne_eq_false_iff_eq.mpr c18
                                  clear c18
                                  obtain rfl := Option.some.inj H
                                  have p17 : 0 ≤ (x13_4 : Int) := of_decide_eq_true (by first | (with_reducible assumption) | assumption)
                                  have q17 : x13_4 < ((rdOf ByteArray.empty l1 x11_3).size : Int) := of_decide_eq_true (by first | (with_reducible assumption) | assumption)
                                  have hx17 := bt_at (rdOf ByteArray.empty l1 x11_3) x13_4
                                  replace p17 := eq_true p17
                                  replace q17 := eq_true q17
                                  go_wp2
                                  go_ret
                                  exact ⟨by first | rfl | (simp [errW_none, errW_some] <;> rfl) | (simp [*, errW_none, errW_some] <;> rfl), by repeat (first | (with_reducible first | exact HB.out | apply below_alloc | apply pw_below_drewN | apply below_drew1) | exact HB.out)⟩
                                · rw [if_neg c18] at H
                                  have c18b0 : ((bt (rdOf ByteArray.empty l1 x11_3) x13_4) == 34) = false := beq_eq_false_iff_ne.mpr c18
                                  have c18b1 : ((bt (rdOf ByteArray.empty l1 x11_3) x13_4) != 34) = true := bne_iff_ne.mpr c18
                                  by_cases c20 : (bt (rdOf ByteArray.empty l1 x11_3) x13_4) = 39
                                  · rw [if_pos c20] at H
                                    have c20b0 : ((bt (rdOf ByteArray.empty l1 x11_3) x13_4) == 39) = true := beq_iff_eq.mpr c20
                                    have c20b1 : ((bt (rdOf ByteArray.empty l1 x11_3) x13_4) != 39) = false := bne_eq_false_iff_eq.mpr c20
                                    clear c20
                                    obtain rfl := Option.some.inj H
                                    have p17 : 0 ≤ (x13_4 : Int) := of_decide_eq_true (by first | (with_reducible assumption) | assumption)
                                    have q17 : x13_4 < ((rdOf ByteArray.empty l1 x11_3).size : Int) := of_decide_eq_true (by first | (with_reducible assumption) | assumption)
                                    have hx17 := bt_at (rdOf ByteArray.empty l1 x11_3) x13_4
                                    replace p17 := eq_true p17
                                    replace q17 := eq_true q17
                                    have p19 : 0 ≤ (x13_4 : Int) := of_decide_eq_true (by first | (with_reducible assumption) | assumption)
                                    have q19 : x13_4 < ((rdOf ByteArray.empty l1 x11_3).size : Int) := of_decide_eq_true (by first | (with_reducible assumption) | assumption)
                                    have hx19 := bt_at (rdOf ByteArray.empty l1 x11_3) x13_4
                                    replace p19 := eq_true p19
                                    replace q19 := eq_true q19
                                    go_wp2
                                    go_ret
                                    exact ⟨by first | rfl | (simp [errW_none, errW_some] <;> rfl) | (simp [*, errW_none, errW_some] <;> rfl), by repeat (first | (with_reducible first | exact HB.out | apply below_alloc | apply pw_below_drewN | apply below_drew1) | exact HB.out)⟩
                                  · rw [if_neg c20] at H
                                    have c20b0 : ((bt (rdOf ByteArray.empty l1 x11_3) x13_4) == 39) = false := beq_eq_false_iff_ne.mpr c20
                                    have c20b1 : ((bt (rdOf ByteArray.empty l1 x11_3) x13_4) != 39) = true := bne_iff_ne.mpr c20
                                    by_cases c22 : (bt (rdOf ByteArray.empty l1 x11_3) x13_4) = 38
                                    · rw [if_pos c22] at H
                                      have c22b0 : ((bt (rdOf ByteArray.empty l1 x11_3) x13_4) == 38) = true := beq_iff_eq.mpr c22
                                      have c22b1 : ((bt (rdOf ByteArray.empty l1 x11_3) x13_4) != 38) = false := bne_eq_false_iff_eq.mpr c22
                                      clear c22
                                      obtain rfl := Option.some.inj H
                                      have p17 : 0 ≤ (x13_4 : Int) := of_decide_eq_true (by first | (with_reducible assumption) | assumption)
                                      have q17 : x13_4 < ((rdOf ByteArray.empty l1 x11_3).size : Int) := of_decide_eq_true (by first | (with_reducible assumption) | assumption)
                                      have hx17 := bt_at (rdOf ByteArray.empty l1 x11_3) x13_4
                                      replace p17 := eq_true p17
                                      replace q17 := eq_true q17
                                      have p19 : 0 ≤ (x13_4 : Int) := of_decide_eq_true (by first | (with_reducible assumption) | assumption)
                                      have q19 : x13_4 < ((rdOf ByteArray.empty l1 x11_3).size : Int) := of_decide_eq_true (by first | (with_reducible assumption) | assumption)
                                      have hx19 := bt_at (rdOf ByteArray.empty l1 x11_3) x13_4
                                      replace p19 := eq_true p19
                                      replace q19 := eq_true q19
                                      have p21 : 0 ≤ (x13_4 : Int) := of_decide_eq_true (by first | (with_reducible assumption) | assumption)
                                      have q21 : x13_4 < ((rdOf ByteArray.empty l1 x11_3).size : Int) := of_decide_eq_true (by first | (with_reducible assumption) | assumption)
                                      have hx21 := bt_at (rdOf ByteArray.empty l1 x11_3) x13_4
                                      replace p21 := eq_true p21
                                      replace q21 := eq_true q21
                                      go_wp2
                                      go_ret
                                      exact ⟨by first | rfl | (simp [errW_none, errW_some] <;> rfl) | (simp [*, errW_none, errW_some] <;> rfl), by repeat (first | (with_reducible first | exact HB.out | apply below_alloc | apply pw_below_drewN | apply below_drew1) | exact HB.out)⟩
                                    · rw [if_neg c22] at H
                                      have c22b0 : ((bt (rdOf ByteArray.empty l1 x11_3) x13_4) == 38) = false := beq_eq_false_iff_ne.mpr c22
                                      have c22b1 : ((bt (rdOf ByteArray.empty l1 x11_3) x13_4) != 38) = true := bne_iff_ne.mpr c22
                                      by_cases c24 : (bt (rdOf ByteArray.empty l1 x11_3) x13_4) = 0
                                      · rw [if_pos c24] at H
                                        have c24b0 : ((bt (rdOf ByteArray.empty l1 x11_3) x13_4) == 0) = true := beq_iff_eq.mpr c24
                                        have c24b1 : ((bt (rdOf ByteArray.empty l1 x11_3) x13_4) != 0) = false := bne_eq_false_iff_eq.mpr c24
                                        clear c24
                                        obtain rfl := Option.some.inj H
                                        have p17 : 0 ≤ (x13_4 : Int) := of_decide_eq_true (by first | (with_reducible assumption) | assumption)
                                        have q17 : x13_4 < ((rdOf ByteArray.empty l1 x11_3).size : Int) := of_decide_eq_true (by first | (with_reducible assumption) | assumption)
                                        have hx17 := bt_at (rdOf ByteArray.empty l1 x11_3) x13_4
                                        replace p17 := eq_true p17
                                        replace q17 := eq_true q17
                                        have p19 : 0 ≤ (x13_4 : Int) := of_decide_eq_true (by first | (with_reducible assumption) | assumption)
                                        have q19 : x13_4 < ((rdOf ByteArray.empty l1 x11_3).size : Int) := of_decide_eq_true (by first | (with_reducible assumption) | assumption)
                                        have hx19 := bt_at (rdOf ByteArray.empty l1 x11_3) x13_4
                                        replace p19 := eq_true p19
                                        replace q19 := eq_true q19
                                        have p21 : 0 ≤ (x13_4 : Int) := of_decide_eq_true (by first | (with_reducible assumption) | assumption)
                                        have q21 : x13_4 < ((rdOf ByteArray.empty l1 x11_3).size : Int) := of_decide_eq_true (by first | (with_reducible assumption) | assumption)
                                        have hx21 := bt_at (rdOf ByteArray.empty l1 x11_3) x13_4
                                        replace p21 := eq_true p21
                                        replace q21 := eq_true q21
                                        have p23 : 0 ≤ (x13_4 : Int) := of_decide_eq_true (by first | (with_reducible assumption) | assumption)
                                        have q23 : x13_4 < ((rdOf ByteArray.empty l1 x11_3).size : Int) := of_decide_eq_true (by first | (with_reducible assumption) | assumption)
                                        have hx23 := bt_at (rdOf ByteArray.empty l1 x11_3) x13_4
                                        replace p23 := eq_true p23
                                        replace q23 := eq_true q23
                                        go_wp2
                                        go_ret
                                        exact ⟨by first | rfl | (simp [errW_none, errW_some] <;> rfl) | (simp [*, errW_none, errW_some] <;> rfl), by repeat (first | (with_reducible first | exact HB.out | apply below_alloc | apply pw_below_drewN | apply below_drew1) | exact HB.out)⟩
                                      · rw [if_neg c24] at H
                                        have c24b0 : ((bt (rdOf ByteArray.empty l1 x11_3) x13_4) == 0) = false := beq_eq_false_iff_ne.mpr c24
                                        have c24b1 : ((bt (rdOf ByteArray.empty l1 x11_3) x13_4) != 0) = true := bne_iff_ne.mpr c24
                                        have H' := Aside0.mk H
                                        clear H
                                        have p17 : 0 ≤ (x13_4 : Int) := of_decide_eq_true (by first | (with_reducible assumption) | assumption)
                                        have q17 : x13_4 < ((rdOf ByteArray.empty l1 x11_3).size : Int) := of_decide_eq_true (by first | (with_reducible assumption) | assumption)
                                        have hx17 := bt_at (rdOf ByteArray.empty l1 x11_3) x13_4
                                        replace p17 := eq_true p17
                                        replace q17 := eq_true q17
                                        have p19 : 0 ≤ (x13_4 : Int) := of_decide_eq_true (by first | (with_reducible assumption) | assumption)
                                        have q19 : x13_4 < ((rdOf ByteArray.empty l1 x11_3).size : Int) := of_decide_eq_true (by first | (with_reducible assumption) | assumption)
                                        have hx19 := bt_at (rdOf ByteArray.empty l1 x11_3) x13_4
                                        replace p19 := eq_true p19
                                        replace q19 := eq_true q19
                                        have p21 : 0 ≤ (x13_4 : Int) := of_decide_eq_true (by first | (with_reducible assumption) | assumption)
                                        have q21 : x13_4 < ((rdOf ByteArray.empty l1 x11_3).size : Int) := of_decide_eq_true (by first | (with_reducible assumption) | assumption)
                                        have hx21 := bt_at (rdOf ByteArray.empty l1 x11_3) x13_4
                                        replace p21 := eq_true p21
                                        replace q21 := eq_true q21
                                        have p23 : 0 ≤ (x13_4 : Int) := of_decide_eq_true (by first | (with_reducible assumption) | assumption)
                                        have q23 : x13_4 < ((rdOf ByteArray.empty l1 x11_3).size : Int) := of_decide_eq_true (by first | (with_reducible assumption) | assumption)
                                        have hx23 := bt_at (rdOf ByteArray.empty l1 x11_3) x13_4
                                        replace p23 := eq_true p23
                                        replace q23 := eq_true q23
                                        go_wp2
                                        go_roundg k4
                                        case measure => have := HJ4.out; have := HJ8.out; have := HK3.out; have := HK4.out; omega
                                        case rel => exact ⟨(wrap64 (x13_4 + 1)), (by first | rfl | (simp; done) | (simp [*]; done)), H', ⟨by have := HJ4.out; have := HJ8.out; have := HK3.out; have := HK4.out; omega⟩, ⟨by (with_reducible repeat (first | apply Kd.R_alloc | apply Kd.R_drewN | apply Kd.R_drew)); exact HO_10.out⟩, ⟨by repeat (first | (with_reducible first | exact HB.out | apply below_alloc | apply pw_below_drewN | apply below_drew1) | exact HB.out)⟩⟩
                              · rw [if_neg c16] at H
                                exact absurd H (by simp)
                            · rw [if_neg c15] at H
                              have c15b0 : decide (x13_4 < ((rdOf ByteArray.empty l1 x11_3).size : Int)) = false := decide_eq_false c15
                              clear c15
                              by_cases c25 : 0 ≤ x11_3
                              · rw [if_pos c25] at H
                                have c25b0 : decide (0 ≤ x11_3) = true := decide_eq_true c25
                                clear c25
                                by_cases c26 : x11_3 < (l0.length : Int)
                                · rw [if_pos c26] at H
                                  have c26b0 : decide (x11_3 < (l0.length : Int)) = true := decide_eq_true c26
                                  clear c26
                                  obtain ⟨y179, hy179⟩ : ∃ y_ : List Int, y_ = (([(97 + (Int.tmod (rd l0 x11_3) 5)) % 256, 120] : List Int)) := ⟨_, rfl⟩
                                  replace H : (if x8_3.size + 1 ≤ 9223372036854775807 then (if (x8_3 ++ (⟨#[32]⟩ : ByteArray)).size + (strOfNums y179).size ≤ 9223372036854775807 then (if ((x8_3 ++ (⟨#[32]⟩ : ByteArray)) ++ (strOfNums y179)).size + 1 ≤ 9223372036854775807 then (if (((x8_3 ++ (⟨#[32]⟩ : ByteArray)) ++ (strOfNums y179)) ++ (⟨#[61]⟩ : ByteArray)).size + x9_8.size ≤ 9223372036854775807 then (if ((((x8_3 ++ (⟨#[32]⟩ : ByteArray)) ++ (strOfNums y179)) ++ (⟨#[61]⟩ : ByteArray)) ++ x9_8).size + (rdOf ByteArray.empty l1 x11_3).size ≤ 9223372036854775807 then (if (((((x8_3 ++ (⟨#[32]⟩ : ByteArray)) ++ (strOfNums y179)) ++ (⟨#[61]⟩ : ByteArray)) ++ x9_8) ++ (rdOf ByteArray.empty l1 x11_3)).size + x9_8.size ≤ 9223372036854775807 then (flaillaw08_AttrsWritten.l2 k4 l0 l1 t176 ((((((x8_3 ++ (⟨#[32]⟩ : ByteArray)) ++ (strOfNums y179)) ++ (⟨#[61]⟩ : ByteArray)) ++ x9_8) ++ (rdOf ByteArray.empty l1 x11_3)) ++ x9_8) x9_8 x10_3 x11_3 (rdOf ByteArray.empty l1 x11_3) (strOfNums y179) false 0) else (none)) else (none)) else (none)) else (none)) else (none)) else (none)) = some r := by first | (rw [hy179]; with_reducible exact H) | (have H2_ := (Option.bind_some _ _).symm.trans H; rw [hy179]; with_reducible exact H2_) | (have H2_ := (Option.bind_some _ _).symm.trans H; with_reducible exact H2_) | with_reducible exact H | (rw [hy179]; exact H) | exact H
                                  have Ny179 := Aside0.mk hy179
                                  clear hy179
                                  by_cases c27 : x8_3.size + 1 ≤ 9223372036854775807
                                  · rw [if_pos c27] at H
                                    have c27b0 := eq_true c27
                                    have c27b1 : decide (x8_3.size + 1 ≤ 9223372036854775807) = true := decide_eq_true c27
                                    try have c27b2 : (9223372036854775807 < x8_3.size + 1) = False := eq_false (Nat.not_lt.2 c27)
                                    by_cases c28 : (x8_3 ++ (⟨#[32]⟩ : ByteArray)).size + (strOfNums y179).size ≤ 9223372036854775807
                                    · rw [if_pos c28] at H
                                      have c28b0 := eq_true c28
                                      have c28b1 : decide ((x8_3 ++ (⟨#[32]⟩ : ByteArray)).size + (strOfNums y179).size ≤ 9223372036854775807) = true := decide_eq_true c28
                                      try have c28b2 : (9223372036854775807 < (x8_3 ++ (⟨#[32]⟩ : ByteArray)).size + (strOfNums y179).size) = False := eq_false (Nat.not_lt.2 c28)
                                      (try (have c28b3 : (9223372036854775807 < (x8_3.size + 1) + (strOfNums y179).size) = False := eq_false (Nat.not_lt.2 (by have h_ := c28; simp only [ByteArray.size_append] at h_; exact h_))))
                                      (try (have c28b4 : ((x8_3.size + 1) + (strOfNums y179).size ≤ 9223372036854775807) = True := eq_true (by have h_ := c28; simp only [ByteArray.size_append] at h_; exact h_)))
                                      (try (have c28b5 : decide ((x8_3.size + 1) + (strOfNums y179).size ≤ 9223372036854775807) = true := decide_eq_true (by have h_ := c28; simp only [ByteArray.size_append] at h_; exact h_)))
                                      by_cases c29 : ((x8_3 ++ (⟨#[32]⟩ : ByteArray)) ++ (strOfNums y179)).size + 1 ≤ 9223372036854775807
                                      · rw [if_pos c29] at H
                                        have c29b0 := eq_true c29
                                        have c29b1 : decide (((x8_3 ++ (⟨#[32]⟩ : ByteArray)) ++ (strOfNums y179)).size + 1 ≤ 9223372036854775807) = true := decide_eq_true c29
                                        try have c29b2 : (9223372036854775807 < ((x8_3 ++ (⟨#[32]⟩ : ByteArray)) ++ (strOfNums y179)).size + 1) = False := eq_false (Nat.not_lt.2 c29)
                                        (try (have c29b3 : (9223372036854775807 < ((x8_3.size + 1) + (strOfNums y179).size) + 1) = False := eq_false (Nat.not_lt.2 (by have h_ := c29; simp only [ByteArray.size_append] at h_; exact h_))))
                                        (try (have c29b4 : (((x8_3.size + 1) + (strOfNums y179).size) + 1 ≤ 9223372036854775807) = True := eq_true (by have h_ := c29; simp only [ByteArray.size_append] at h_; exact h_)))
                                        (try (have c29b5 : decide (((x8_3.size + 1) + (strOfNums y179).size) + 1 ≤ 9223372036854775807) = true := decide_eq_true (by have h_ := c29; simp only [ByteArray.size_append] at h_; exact h_)))
                                        by_cases c30 : (((x8_3 ++ (⟨#[32]⟩ : ByteArray)) ++ (strOfNums y179)) ++ (⟨#[61]⟩ : ByteArray)).size + x9_8.size ≤ 9223372036854775807
                                        · rw [if_pos c30] at H
                                          have c30b0 := eq_true c30
                                          have c30b1 : decide ((((x8_3 ++ (⟨#[32]⟩ : ByteArray)) ++ (strOfNums y179)) ++ (⟨#[61]⟩ : ByteArray)).size + x9_8.size ≤ 9223372036854775807) = true := decide_eq_true c30
                                          try have c30b2 : (9223372036854775807 < (((x8_3 ++ (⟨#[32]⟩ : ByteArray)) ++ (strOfNums y179)) ++ (⟨#[61]⟩ : ByteArray)).size + x9_8.size) = False := eq_false (Nat.not_lt.2 c30)
                                          (try (have c30b3 : (9223372036854775807 < (((x8_3.size + 1) + (strOfNums y179).size) + 1) + x9_8.size) = False := eq_false (Nat.not_lt.2 (by have h_ := c30; simp only [ByteArray.size_append] at h_; exact h_))))
                                          (try (have c30b4 : ((((x8_3.size + 1) + (strOfNums y179).size) + 1) + x9_8.size ≤ 9223372036854775807) = True := eq_true (by have h_ := c30; simp only [ByteArray.size_append] at h_; exact h_)))
                                          (try (have c30b5 : decide ((((x8_3.size + 1) + (strOfNums y179).size) + 1) + x9_8.size ≤ 9223372036854775807) = true := decide_eq_true (by have h_ := c30; simp only [ByteArray.size_append] at h_; exact h_)))
                                          by_cases c31 : ((((x8_3 ++ (⟨#[32]⟩ : ByteArray)) ++ (strOfNums y179)) ++ (⟨#[61]⟩ : ByteArray)) ++ x9_8).size + (rdOf ByteArray.empty l1 x11_3).size ≤ 9223372036854775807
                                          · rw [if_pos c31] at H
                                            have c31b0 := eq_true c31
                                            have c31b1 : decide (((((x8_3 ++ (⟨#[32]⟩ : ByteArray)) ++ (strOfNums y179)) ++ (⟨#[61]⟩ : ByteArray)) ++ x9_8).size + (rdOf ByteArray.empty l1 x11_3).size ≤ 9223372036854775807) = true := decide_eq_true c31
                                            try have c31b2 : (9223372036854775807 < ((((x8_3 ++ (⟨#[32]⟩ : ByteArray)) ++ (strOfNums y179)) ++ (⟨#[61]⟩ : ByteArray)) ++ x9_8).size + (rdOf ByteArray.empty l1 x11_3).size) = False := eq_false (Nat.not_lt.2 c31)
                                            (try (have c31b3 : (9223372036854775807 < ((((x8_3.size + 1) + (strOfNums y179).size) + 1) + x9_8.size) + (rdOf ByteArray.empty l1 x11_3).size) = False := eq_false (Nat.not_lt.2 (by have h_ := c31; simp only [ByteArray.size_append] at h_; exact h_))))
                                            (try (have c31b4 : (((((x8_3.size + 1) + (strOfNums y179).size) + 1) + x9_8.size) + (rdOf ByteArray.empty l1 x11_3).size ≤ 9223372036854775807) = True := eq_true (by have h_ := c31; simp only [ByteArray.size_append] at h_; exact h_)))
                                            (try (have c31b5 : decide (((((x8_3.size + 1) + (strOfNums y179).size) + 1) + x9_8.size) + (rdOf ByteArray.empty l1 x11_3).size ≤ 9223372036854775807) = true := decide_eq_true (by have h_ := c31; simp only [ByteArray.size_append] at h_; exact h_)))
                                            by_cases c32 : (((((x8_3 ++ (⟨#[32]⟩ : ByteArray)) ++ (strOfNums y179)) ++ (⟨#[61]⟩ : ByteArray)) ++ x9_8) ++ (rdOf ByteArray.empty l1 x11_3)).size + x9_8.size ≤ 9223372036854775807
                                            · rw [if_pos c32] at H
                                              have c32b0 := eq_true c32
                                              have c32b1 : decide ((((((x8_3 ++ (⟨#[32]⟩ : ByteArray)) ++ (strOfNums y179)) ++ (⟨#[61]⟩ : ByteArray)) ++ x9_8) ++ (rdOf ByteArray.empty l1 x11_3)).size + x9_8.size ≤ 9223372036854775807) = true := decide_eq_true c32
                                              try have c32b2 : (9223372036854775807 < (((((x8_3 ++ (⟨#[32]⟩ : ByteArray)) ++ (strOfNums y179)) ++ (⟨#[61]⟩ : ByteArray)) ++ x9_8) ++ (rdOf ByteArray.empty l1 x11_3)).size + x9_8.size) = False := eq_false (Nat.not_lt.2 c32)
                                              (try (have c32b3 : (9223372036854775807 < (((((x8_3.size + 1) + (strOfNums y179).size) + 1) + x9_8.size) + (rdOf ByteArray.empty l1 x11_3).size) + x9_8.size) = False := eq_false (Nat.not_lt.2 (by have h_ := c32; simp only [ByteArray.size_append] at h_; exact h_))))
                                              (try (have c32b4 : ((((((x8_3.size + 1) + (strOfNums y179).size) + 1) + x9_8.size) + (rdOf ByteArray.empty l1 x11_3).size) + x9_8.size ≤ 9223372036854775807) = True := eq_true (by have h_ := c32; simp only [ByteArray.size_append] at h_; exact h_)))
                                              (try (have c32b5 : decide ((((((x8_3.size + 1) + (strOfNums y179).size) + 1) + x9_8.size) + (rdOf ByteArray.empty l1 x11_3).size) + x9_8.size ≤ 9223372036854775807) = true := decide_eq_true (by have h_ := c32; simp only [ByteArray.size_append] at h_; exact h_)))
                                              have H' := Aside0.mk H
                                              clear H
                                              have p178 : 0 ≤ (x11_3 : Int) := of_decide_eq_true (by first | (with_reducible assumption) | assumption)
                                              have q178 : x11_3 < (l0.length : Int) := of_decide_eq_true (by first | (with_reducible assumption) | assumption)
                                              obtain ⟨ad178, e178, hx178_0⟩ := Kd.at_int HR0.out x11_3 p178 q178
                                              cases e178
                                              replace hx178_0 := (HB.out.cell (World.block_lt_of_cell? w _ hx178_0)).trans hx178_0
                                              replace p178 := eq_true p178
                                              replace q178 := eq_true q178
                                              go_wp2_with (first | ((with_reducible refine gate_dst (N := 91) rfl ?_); (try (refine gate_guard (by rfl) ?_; dsimp only)); refine Kd.R_lit (Kd.int .u8) _ 5 ?hg (N := 91) ?hd (xs := ([(97 + (Int.tmod (rd l0 x11_3) 5)) % 256, 120] : List Int)) (inner := [.int .u8 ((97 + (Int.tmod (rd l0 x11_3) 5)) % 256), .int .u8 120]) (ok := fun _ => True) (okp := fun _ => True) ?hr ?hp (fun _ hk => hk) trivial (Below.refl _ _) (Nat.le_refl _) (by simp) ?_; (case hd => rfl); (case hg => rfl); (case hr => first | (go_simp; done) | (go_simp; rfl)); (case hp => exact (Reps.one (show Kd.M (Kd.int .u8) _ _ _ ((97 + (Int.tmod (rd l0 x11_3) 5)) % 256) [.int .u8 ((97 + (Int.tmod (rd l0 x11_3) 5)) % 256)] from rfl) (Reps.one (show Kd.M (Kd.int .u8) _ _ _ 120 [.int .u8 120] from rfl) (Reps.none _ _)))); intro v180 w33 ho34 hb hg_ hnew_; clear hg_ hnew_; (first | rw [← Ny179.out] at ho34 | (simp only [Int.reduceToNat] at ho34; rw [← Ny179.out] at ho34)); have n0_ := Aside0.mk (Kd.R_below (by (with_reducible repeat (first | apply Kd.R_alloc | apply Kd.R_drewN | apply Kd.R_drew)); exact HO_10.out) hb); have n1_ := Aside0.mk (Kd.R_lower ho34 (below_size (by repeat (first | (with_reducible first | exact HB.out | apply below_alloc | apply pw_below_drewN | apply below_drew1) | exact HB.out)))); have n2_ := Aside0.mk (below_step (by repeat (first | (with_reducible first | exact HB.out | apply below_alloc | apply pw_below_drewN | apply below_drew1) | exact HB.out)) hb); clear HO_10; clear HB; have HO_10 := n0_; have HO181 := n1_; have HB := n2_; clear n0_ n1_ n2_; clear hb ho34; have hcv35 := own_string (P := Tryd.prog) Tryd.underlying29 Tryd.underlying5 Tryd.underlying9 (Kd.own_of_R HO181.out)))
                                              go_loopg [15, 16] k4 (fun kq v15 v16 w' => ∃ (x15_5 : Bool) (x16_5 : Int), v15 = .bool x15_5 ∧ v16 = .int .i64 x16_5 ∧ Aside0 (flaillaw08_AttrsWritten.l2 kq l0 l1 t176 ((((((x8_3 ++ (⟨#[32]⟩ : ByteArray)) ++ (strOfNums y179)) ++ (⟨#[61]⟩ : ByteArray)) ++ x9_8) ++ (rdOf ByteArray.empty l1 x11_3)) ++ x9_8) x9_8 x10_3 x11_3 (rdOf ByteArray.empty l1 x11_3) (strOfNums y179) x15_5 x16_5 = some r) ∧ Aside0 (kq ≤ k4) ∧ Aside0 (Kd.R k27 27 w' w.heap.size (fun _ => True) u10 x10_3) ∧ Aside0 (Below w.heap.size w w'))
                                              case atStart => exact ⟨(false), (0), (by first | rfl | (simp; done) | (simp [*]; done)), (by first | rfl | (simp; done) | (simp [*]; done)), H', ⟨Nat.le_refl _⟩, ⟨by (with_reducible repeat (first | apply Kd.R_alloc | apply Kd.R_drewN | apply Kd.R_drew)); exact HO_10.out⟩, ⟨by repeat (first | (with_reducible first | exact HB.out | apply below_alloc | apply pw_below_drewN | apply below_drew1) | exact HB.out)⟩⟩
                                              case round =>
                                                clear H'
                                                try clear c1
                                                try clear p1
                                                try clear q1
                                                try clear hx1
                                                try clear c2
                                                try clear p2
                                                try clear q2
                                                try clear hx2
                                                try clear c3
                                                try clear hcv3
                                                try clear c4
                                                try clear p6
                                                try clear c7
                                                try clear c7b0
                                                try clear c7b1
                                                try clear c8
                                                try clear c10
                                                try clear c11
                                                try clear c11b0
                                                try clear c12
                                                try clear c12b0
                                                try clear c13
                                                try clear c13b0
                                                try clear c14
                                                try clear c14b0
                                                try clear c14b1
                                                try clear c15
                                                try clear c15b0
                                                try clear c16
                                                try clear c16b0
                                                try clear p17
                                                try clear q17
                                                try clear hx17
                                                try clear c18
                                                try clear c18b0
                                                try clear c18b1
                                                try clear p19
                                                try clear q19
                                                try clear hx19
                                                try clear c20
                                                try clear c20b0
                                                try clear c20b1
                                                try clear p21
                                                try clear q21
                                                try clear hx21
                                                try clear c22
                                                try clear c22b0
                                                try clear c22b1
                                                try clear p23
                                                try clear q23
                                                try clear hx23
                                                try clear c24
                                                try clear c24b0
                                                try clear c24b1
                                                try clear c25
                                                try clear c25b0
                                                try clear c26
                                                try clear c26b0
                                                try clear c27
                                                try clear c27b0
                                                try clear c27b1
                                                try clear c27b2
                                                try clear c28
                                                try clear c28b0
                                                try clear c28b1
                                                try clear c28b2
                                                try clear c29
                                                try clear c29b0
                                                try clear c29b1
                                                try clear c29b2
                                                try clear c30
                                                try clear c30b0
                                                try clear c30b1
                                                try clear c30b2
                                                try clear c31
                                                try clear c31b0
                                                try clear c31b1
                                                try clear c31b2
                                                try clear c32
                                                try clear c32b0
                                                try clear c32b1
                                                try clear c32b2
                                                try clear hcv35
                                                try clear hx177_0
                                                try clear hx178_0
                                                try clear p1
                                                try clear p17
                                                try clear p177
                                                try clear p178
                                                try clear p19
                                                try clear p2
                                                try clear p21
                                                try clear p23
                                                try clear q1
                                                try clear q17
                                                try clear q177
                                                try clear q178
                                                try clear q19
                                                try clear q21
                                                try clear q23
                                                obtain ⟨x15_5, x16_5, rfl, rfl, HA, HK5, HO_10, HB⟩ := hrel
                                                cases gk with
                                                | zero => exact absurd HA.out (by simp [flaillaw08_AttrsWritten.l2])
                                                | succ k5 =>
                                                  have H := HA.out
                                                  clear HA
                                                  simp only [flaillaw08_AttrsWritten.l2] at H
                                                  by_cases c36 : x16_5 < (x10_3.length : Int)
                                                  · rw [if_pos c36] at H
                                                    have c36b0 : decide (x16_5 < (x10_3.length : Int)) = true := decide_eq_true c36
                                                    clear c36
                                                    by_cases c37 : 0 ≤ x16_5
                                                    · rw [if_pos c37] at H
                                                      have c37b0 : decide (0 ≤ x16_5) = true := decide_eq_true c37
                                                      clear c37
                                                      by_cases c38 : ((rd_T27 x10_3 x16_5).f0).toList = (strOfNums y179).toList
                                                      · rw [if_pos c38] at H
                                                        have c38b0 : (((rd_T27 x10_3 x16_5).f0).toList == (strOfNums y179).toList) = true := beq_iff_eq.mpr c38
                                                        have c38b1 : (((rd_T27 x10_3 x16_5).f0).toList != (strOfNums y179).toList) = false := bne_eq_false_iff_eq.mpr c38
                                                        clear c38
                                                        have H' := Aside0.mk H
                                                        clear H
                                                        obtain ⟨Ao39, co39, eo39⟩ := Kd.R_slice HO_10.out
                                                        subst eo39
                                                        have p182 : 0 ≤ (x16_5 : Int) := of_decide_eq_true (by first | (with_reducible assumption) | assumption)
                                                        have q182 : x16_5 < (x10_3.length : Int) := of_decide_eq_true (by first | (with_reducible assumption) | assumption)
                                                        obtain ⟨ad182, e182, hx182_0, hx182_1⟩ := at_T27 (Kd.R_reads' HO_10.out).2.2 x16_5 p182 q182
                                                        cases e182
                                                        replace p182 := eq_true p182
                                                        replace q182 := eq_true q182
                                                        go_wp2
                                                        go_roundg k5
                                                        case measure => have := HJ4.out; have := HJ8.out; have := HK3.out; have := HK4.out; have := HK5.out; omega
                                                        case rel => exact ⟨(true), (wrap64 (x16_5 + 1)), (by first | rfl | (simp; done) | (simp [*]; done)), (by first | rfl | (simp; done) | (simp [*]; done)), H', ⟨by have := HJ4.out; have := HJ8.out; have := HK3.out; have := HK4.out; have := HK5.out; omega⟩, ⟨by (with_reducible repeat (first | apply Kd.R_alloc | apply Kd.R_drewN | apply Kd.R_drew)); exact HO_10.out⟩, ⟨by repeat (first | (with_reducible first | exact HB.out | apply below_alloc | apply pw_below_drewN | apply below_drew1) | exact HB.out)⟩⟩
                                                      · rw [if_neg c38] at H
                                                        have c38b0 : (((rd_T27 x10_3 x16_5).f0).toList == (strOfNums y179).toList) = false := beq_eq_false_iff_ne.mpr c38
                                                        have c38b1 : (((rd_T27 x10_3 x16_5).f0).toList != (strOfNums y179).toList) = true := bne_iff_ne.mpr c38
                                                        have H' := Aside0.mk H
                                                        clear H
                                                        obtain ⟨Ao40, co40, eo40⟩ := Kd.R_slice HO_10.out
                                                        subst eo40
                                                        have p182 : 0 ≤ (x16_5 : Int) := of_decide_eq_true (by first | (with_reducible assumption) | assumption)
                                                        have q182 : x16_5 < (x10_3.length : Int) := of_decide_eq_true (by first | (with_reducible assumption) | assumption)
                                                        obtain ⟨ad182, e182, hx182_0, hx182_1⟩ := at_T27 (Kd.R_reads' HO_10.out).2.2 x16_5 p182 q182
                                                        cases e182
                                                        replace p182 := eq_true p182
                                                        replace q182 := eq_true q182
                                                        go_wp2
                                                        go_roundg k5
                                                        case measure => have := HJ4.out; have := HJ8.out; have := HK3.out; have := HK4.out; have := HK5.out; omega
                                                        case rel => exact ⟨(x15_5), (wrap64 (x16_5 + 1)), (by first | rfl | (simp; done) | (simp [*]; done)), (by first | rfl | (simp; done) | (simp [*]; done)), H', ⟨by have := HJ4.out; have := HJ8.out; have := HK3.out; have := HK4.out; have := HK5.out; omega⟩, ⟨by (with_reducible repeat (first | apply Kd.R_alloc | apply Kd.R_drewN | apply Kd.R_drew)); exact HO_10.out⟩, ⟨by repeat (first | (with_reducible first | exact HB.out | apply below_alloc | apply pw_below_drewN | apply below_drew1) | exact HB.out)⟩⟩
                                                    · rw [if_neg c37] at H
                                                      exact absurd H (by simp)
                                                  · rw [if_neg c36] at H
                                                    have c36b0 : decide (x16_5 < (x10_3.length : Int)) = false := decide_eq_false c36
                                                    clear c36
                                                    by_cases c41 : x15_5 = true
                                                    · subst c41
                                                      have H1 : (flaillaw08_AttrsWritten.l0 k5 l0 l1 t176 ((((((x8_3 ++ (⟨#[32]⟩ : ByteArray)) ++ (strOfNums y179)) ++ (⟨#[61]⟩ : ByteArray)) ++ x9_8) ++ (rdOf ByteArray.empty l1 x11_3)) ++ x9_8) x9_8 x10_3 (wrap64 (x11_3 + 1))) = some r := by rw [if_pos rfl] at H; exact H
                                                      clear H
                                                      have H := H1
                                                      clear H1
                                                      have H' := Aside0.mk H
                                                      clear H
                                                      obtain ⟨Ao42, co42, eo42⟩ := Kd.R_slice HO_10.out
                                                      subst eo42
                                                      go_wp2
                                                      go_roundg k5
                                                      case measure => have := HJ4.out; have := HJ8.out; have := HK3.out; have := HK4.out; have := HK5.out; omega
                                                      case rel => exact ⟨(((((((x8_3 ++ (⟨#[32]⟩ : ByteArray)) ++ (strOfNums y179)) ++ (⟨#[61]⟩ : ByteArray)) ++ x9_8) ++ (rdOf ByteArray.empty l1 x11_3)) ++ x9_8)), (x10_3), (wrap64 (x11_3 + 1)), (by first | rfl | (simp; done) | (simp [*]; done)), (by first | rfl | (simp; done) | (simp [*]; done)), H', ⟨by have := HJ4.out; have := HJ8.out; have := HK3.out; have := HK4.out; have := HK5.out; omega⟩, ⟨by (with_reducible repeat (first | apply Kd.R_alloc | apply Kd.R_drewN | apply Kd.R_drew)); exact HO_10.out⟩, ⟨by repeat (first | (with_reducible first | exact HB.out | apply below_alloc | apply pw_below_drewN | apply below_drew1) | exact HB.out)⟩⟩
                                                    · replace c41 := Bool.eq_false_iff.mpr c41
                                                      subst c41
                                                      have H1 : (if x10_3.length < 4398046511104 then (flaillaw08_AttrsWritten.l0 k5 l0 l1 t176 ((((((x8_3 ++ (⟨#[32]⟩ : ByteArray)) ++ (strOfNums y179)) ++ (⟨#[61]⟩ : ByteArray)) ++ x9_8) ++ (rdOf ByteArray.empty l1 x11_3)) ++ x9_8) x9_8 (x10_3 ++ [(⟨(strOfNums y179), (rdOf ByteArray.empty l1 x11_3)⟩ : S27)]) (wrap64 (x11_3 + 1))) else (none)) = some r := by rw [if_neg (show ¬ (false = true) by decide)] at H; exact H
                                                      clear H
                                                      have H := H1
                                                      clear H1
                                                      by_cases c43 : x10_3.length < 4398046511104
                                                      · rw [if_pos c43] at H
                                                        have LMc43 := Aside0.mk c43
                                                        clear c43
                                                        obtain ⟨y183, hy183⟩ : ∃ y_ : List (S27), y_ = (x10_3 ++ [(⟨(strOfNums y179), (rdOf ByteArray.empty l1 x11_3)⟩ : S27)]) := ⟨_, rfl⟩
                                                        replace H : (flaillaw08_AttrsWritten.l0 k5 l0 l1 t176 ((((((x8_3 ++ (⟨#[32]⟩ : ByteArray)) ++ (strOfNums y179)) ++ (⟨#[61]⟩ : ByteArray)) ++ x9_8) ++ (rdOf ByteArray.empty l1 x11_3)) ++ x9_8) x9_8 y183 (wrap64 (x11_3 + 1))) = some r := by first | (rw [hy183]; with_reducible exact H) | (have H2_ := (Option.bind_some _ _).symm.trans H; rw [hy183]; with_reducible exact H2_) | (have H2_ := (Option.bind_some _ _).symm.trans H; with_reducible exact H2_) | with_reducible exact H | (rw [hy183]; exact H) | exact H
                                                        have Ny183 := Aside0.mk hy183
                                                        clear hy183
                                                        have H' := Aside0.mk H
                                                        clear H
                                                        obtain ⟨Ao44, co44, eo44⟩ := Kd.R_slice HO_10.out
                                                        subst eo44
                                                        go_wp2_with (first | ((with_reducible refine gate_builtin (b := .append) (xs := #[.tmp 119, .tmp 123]) rfl ?_); (try (refine gate_guard (by rfl) ?_; dsimp only)); at_builtin; refine Kd.R_append k27 (w0 := w) w.heap.size rfl (.tmp 119) (.tmp 123) 23 27 (.agg #[(.string ⟨#[]⟩), (.string ⟨#[]⟩)]) 32 rfl Tryd.underlying23 info27 rfl (by decide) (by omega) (.slice Ao44 x10_3.length co44) x10_3 (⟨(strOfNums y179), (rdOf ByteArray.empty l1 x11_3)⟩ : S27) [.string (strOfNums y179), .string (rdOf ByteArray.empty l1 x11_3)] (fun _ => True) (fun _ => False) rfl rfl ?aP (fun _ hk => hk.elim) ?aF ?aO ?aB ?aS ?aL ?_; (case aP => exact k27_mkM _ _ _ (⟨(strOfNums y179), (rdOf ByteArray.empty l1 x11_3)⟩ : S27)); (case aB => exact (by repeat (first | (with_reducible first | exact HB.out | apply below_alloc | apply pw_below_drewN | apply below_drew1) | exact HB.out))); (case aF => exact (fun _ _ => trivial)); (case aO => exact (by (with_reducible repeat (first | apply Kd.R_alloc | apply Kd.R_drewN | apply Kd.R_drew)); exact HO_10.out)); (case aS => exact (below_size (by repeat (first | (with_reducible first | exact HB.out | apply below_alloc | apply pw_below_drewN | apply below_drew1) | exact HB.out)))); (case aL => have := LMc43.out; omega); intro v184 w45 ho hb hg hat; rw [← Ny183.out] at ho; have n0_ := Aside0.mk (hb); have n1_ := Aside0.mk (ho); clear HB; clear HO_10; have HB := n0_; have HO185 := n1_; clear n0_ n1_; clear ho hb hg hat))
                                                        go_roundg k5
                                                        case measure => have := HJ4.out; have := HJ8.out; have := HK3.out; have := HK4.out; have := HK5.out; omega
                                                        case rel => exact ⟨(((((((x8_3 ++ (⟨#[32]⟩ : ByteArray)) ++ (strOfNums y179)) ++ (⟨#[61]⟩ : ByteArray)) ++ x9_8) ++ (rdOf ByteArray.empty l1 x11_3)) ++ x9_8)), (y183), (wrap64 (x11_3 + 1)), (by first | rfl | (simp; done) | (simp [*]; done)), (by first | rfl | (simp; done) | (simp [*]; done)), H', ⟨by have := HJ4.out; have := HJ8.out; have := HK3.out; have := HK4.out; have := HK5.out; omega⟩, ⟨by (with_reducible repeat (first | apply Kd.R_alloc | apply Kd.R_drewN | apply Kd.R_drew)); exact HO185.out⟩, ⟨by repeat (first | (with_reducible first | exact HB.out | apply below_alloc | apply pw_below_drewN | apply below_drew1) | exact HB.out)⟩⟩
                                                      · rw [if_neg c43] at H
                                                        exact absurd H (by simp)
                                            · rw [if_neg c32] at H
                                              exact absurd H (by simp)
                                          · rw [if_neg c31] at H
                                            exact absurd H (by simp)
                                        · rw [if_neg c30] at H
                                          exact absurd H (by simp)
                                      · rw [if_neg c29] at H
                                        exact absurd H (by simp)
                                    · rw [if_neg c28] at H
                                      exact absurd H (by simp)
                                  · rw [if_neg c27] at H
                                    exact absurd H (by simp)
                                · rw [if_neg c26] at H
                                  exact absurd H (by simp)
                              · rw [if_neg c25] at H
                                exact absurd H (by simp)
                    · rw [if_neg c13] at H
                      exact absurd H (by simp)
                  · rw [if_neg c12] at H
                    exact absurd H (by simp)
                · rw [if_neg c11] at H
                  have c11b0 : decide (x11_3 < (l0.length : Int)) = false := decide_eq_false c11
                  clear c11
                  by_cases c46 : x8_3.size + 1 ≤ 9223372036854775807
                  · rw [if_pos c46] at H
                    have c46b0 := eq_true c46
                    have c46b1 : decide (x8_3.size + 1 ≤ 9223372036854775807) = true := decide_eq_true c46
                    try have c46b2 : (9223372036854775807 < x8_3.size + 1) = False := eq_false (Nat.not_lt.2 c46)
                    replace H := Option.bind_eq_some_iff.mp H
                    obtain ⟨⟨t186, t187, t188, t189⟩, A470, H⟩ := H
                    replace H : (if x8_3.size + 3 ≤ 9223372036854775807 then ((attrs_Read.f (x8_3 ++ (⟨#[32, 47, 62]⟩ : ByteArray)) 0).bind fun bt192 => ((attrs_Read.f x8_3 0).bind fun bt198 => (if t176 = true then (if t189 = true then (if bt192.2.2.2 = true then (if bt198.2.2.2 = true then (some false) else (if t187 = true then (some false) else (if bt192.2.1 = true then (if t188 = (wrap64 ((x8_3.size : Int) + 1)) then (if bt192.2.2.1 = (wrap64 ((x8_3.size : Int) + 3)) then ((flailref08_Same.f k3 t186 x10_3).bind fun t204 => (if t204 = true then ((flailref08_Same.f k3 bt192.1 x10_3).bind fun t205 => (some t205)) else (some false))) else (some false)) else (some false)) else (some false)))) else (some false)) else (some false)) else (some false)))) else (none)) = some r := H
                    have A47 := Aside0.mk A470
                    clear A470
                    by_cases c48 : x8_3.size + 3 ≤ 9223372036854775807
                    · rw [if_pos c48] at H
                      have c48b0 := eq_true c48
                      have c48b1 : decide (x8_3.size + 3 ≤ 9223372036854775807) = true := decide_eq_true c48
                      try have c48b2 : (9223372036854775807 < x8_3.size + 3) = False := eq_false (Nat.not_lt.2 c48)
                      replace H := Option.bind_eq_some_iff.mp H
                      obtain ⟨⟨t192, t193, t194, t195⟩, A490, H⟩ := H
                      replace H : ((attrs_Read.f x8_3 0).bind fun bt198 => (if t176 = true then (if t189 = true then (if t195 = true then (if bt198.2.2.2 = true then (some false) else (if t187 = true then (some false) else (if t193 = true then (if t188 = (wrap64 ((x8_3.size : Int) + 1)) then (if t194 = (wrap64 ((x8_3.size : Int) + 3)) then ((flailref08_Same.f k3 t186 x10_3).bind fun t204 => (if t204 = true then ((flailref08_Same.f k3 t192 x10_3).bind fun t205 => (some t205)) else (some false))) else (some false)) else (some false)) else (some false)))) else (some false)) else (some false)) else (some false))) = some r := H
                      have A49 := Aside0.mk A490
                      clear A490
                      replace H := Option.bind_eq_some_iff.mp H
                      obtain ⟨⟨t198, t199, t200, t201⟩, A500, H⟩ := H
                      replace H : (if t176 = true then (if t189 = true then (if t195 = true then (if t201 = true then (some false) else (if t187 = true then (some false) else (if t193 = true then (if t188 = (wrap64 ((x8_3.size : Int) + 1)) then (if t194 = (wrap64 ((x8_3.size : Int) + 3)) then ((flailref08_Same.f k3 t186 x10_3).bind fun t204 => (if t204 = true then ((flailref08_Same.f k3 t192 x10_3).bind fun t205 => (some t205)) else (some false))) else (some false)) else (some false)) else (some false)))) else (some false)) else (some false)) else (some false)) = some r := H
                      have A50 := Aside0.mk A500
                      clear A500
                      by_cases c51 : t176 = true
                      · subst c51
                        have H1 : (if t189 = true then (if t195 = true then (if t201 = true then (some false) else (if t187 = true then (some false) else (if t193 = true then (if t188 = (wrap64 ((x8_3.size : Int) + 1)) then (if t194 = (wrap64 ((x8_3.size : Int) + 3)) then ((flailref08_Same.f k3 t186 x10_3).bind fun t204 => (if t204 = true then ((flailref08_Same.f k3 t192 x10_3).bind fun t205 => (some t205)) else (some false))) else (some false)) else (some false)) else (some false)))) else (some false)) else (some false)) = some r := by rw [if_pos rfl] at H; exact H
                        clear H
                        have H := H1
                        clear H1
                        by_cases c52 : t189 = true
                        · subst c52
                          have H1 : (if t195 = true then (if t201 = true then (some false) else (if t187 = true then (some false) else (if t193 = true then (if t188 = (wrap64 ((x8_3.size : Int) + 1)) then (if t194 = (wrap64 ((x8_3.size : Int) + 3)) then ((flailref08_Same.f k3 t186 x10_3).bind fun t204 => (if t204 = true then ((flailref08_Same.f k3 t192 x10_3).bind fun t205 => (some t205)) else (some false))) else (some false)) else (some false)) else (some false)))) else (some false)) = some r := by rw [if_pos rfl] at H; exact H
                          clear H
                          have H := H1
                          clear H1
                          by_cases c53 : t195 = true
                          · subst c53
                            have H1 : (if t201 = true then (some false) else (if t187 = true then (some false) else (if t193 = true then (if t188 = (wrap64 ((x8_3.size : Int) + 1)) then (if t194 = (wrap64 ((x8_3.size : Int) + 3)) then ((flailref08_Same.f k3 t186 x10_3).bind fun t204 => (if t204 = true then ((flailref08_Same.f k3 t192 x10_3).bind fun t205 => (some t205)) else (some false))) else (some false)) else (some false)) else (some false)))) = some r := by rw [if_pos rfl] at H; exact H
                            clear H
                            have H := H1
                            clear H1
                            by_cases c54 : t201 = true
                            · subst c54
                              have H1 : (some false) = some r := by rw [if_pos rfl] at H; exact H
                              clear H
                              have H := H1
                              clear H1
                              exact absurd ((Option.some.inj H).trans HT.out) (by decide)
                            · replace c54 := Bool.eq_false_iff.mpr c54
                              subst c54
                              have H1 : (if t187 = true then (some false) else (if t193 = true then (if t188 = (wrap64 ((x8_3.size : Int) + 1)) then (if t194 = (wrap64 ((x8_3.size : Int) + 3)) then ((flailref08_Same.f k3 t186 x10_3).bind fun t204 => (if t204 = true then ((flailref08_Same.f k3 t192 x10_3).bind fun t205 => (some t205)) else (some false))) else (some false)) else (some false)) else (some false))) = some r := by rw [if_neg (show ¬ (false = true) by decide)] at H; exact H
                              clear H
                              have H := H1
                              clear H1
                              by_cases c55 : t187 = true
                              · subst c55
                                have H1 : (some false) = some r := by rw [if_pos rfl] at H; exact H
                                clear H
                                have H := H1
                                clear H1
                                exact absurd ((Option.some.inj H).trans HT.out) (by decide)
                              · replace c55 := Bool.eq_false_iff.mpr c55
                                subst c55
                                have H1 : (if t193 = true then (if t188 = (wrap64 ((x8_3.size : Int) + 1)) then (if t194 = (wrap64 ((x8_3.size : Int) + 3)) then ((flailref08_Same.f k3 t186 x10_3).bind fun t204 => (if t204 = true then ((flailref08_Same.f k3 t192 x10_3).bind fun t205 => (some t205)) else (some false))) else (some false)) else (some false)) else (some false)) = some r := by rw [if_neg (show ¬ (false = true) by decide)] at H; exact H
                                clear H
                                have H := H1
                                clear H1
                                by_cases c56 : t193 = true
                                · subst c56
                                  have H1 : (if t188 = (wrap64 ((x8_3.size : Int) + 1)) then (if t194 = (wrap64 ((x8_3.size : Int) + 3)) then ((flailref08_Same.f k3 t186 x10_3).bind fun t204 => (if t204 = true then ((flailref08_Same.f k3 t192 x10_3).bind fun t205 => (some t205)) else (some false))) else (some false)) else (some false)) = some r := by rw [if_pos rfl] at H; exact H
                                  clear H
                                  have H := H1
                                  clear H1
                                  by_cases c57 : t188 = (wrap64 ((x8_3.size : Int) + 1))
                                  · rw [if_pos c57] at H
                                    have c57b0 : (t188 == (wrap64 ((x8_3.size : Int) + 1))) = true := beq_iff_eq.mpr c57
                                    have c57b1 : (t188 != (wrap64 ((x8_3.size : Int) + 1))) = false := bne_eq_false_iff_eq.mpr c57
                                    (try (have c57b2 : (t188 == (((x8_3.size : Int) + 1))) = true := by have h_ := c57; rw [IntWalk.wrap64_in ((x8_3.size : Int) + 1) ⟨by omega, by omega⟩] at h_; exact beq_iff_eq.mpr h_))
                                    (try (have c57b3 : (t188 != (((x8_3.size : Int) + 1))) = false := by have h_ := c57; rw [IntWalk.wrap64_in ((x8_3.size : Int) + 1) ⟨by omega, by omega⟩] at h_; exact bne_eq_false_iff_eq.mpr h_))
                                    clear c57
                                    by_cases c58 : t194 = (wrap64 ((x8_3.size : Int) + 3))
                                    · rw [if_pos c58] at H
                                      have c58b0 : (t194 == (wrap64 ((x8_3.size : Int) + 3))) = true := beq_iff_eq.mpr c58
                                      have c58b1 : (t194 != (wrap64 ((x8_3.size : Int) + 3))) = false := bne_eq_false_iff_eq.mpr c58
                                      (try (have c58b2 : (t194 == (((x8_3.size : Int) + 3))) = true := by have h_ := c58; rw [IntWalk.wrap64_in ((x8_3.size : Int) + 3) ⟨by omega, by omega⟩] at h_; exact beq_iff_eq.mpr h_))
                                      (try (have c58b3 : (t194 != (((x8_3.size : Int) + 3))) = false := by have h_ := c58; rw [IntWalk.wrap64_in ((x8_3.size : Int) + 3) ⟨by omega, by omega⟩] at h_; exact bne_eq_false_iff_eq.mpr h_))
                                      clear c58
                                      replace H := Option.bind_eq_some_iff.mp H
                                      obtain ⟨t204, A590, H⟩ := H
                                      replace H : (if t204 = true then ((flailref08_Same.f k3 t192 x10_3).bind fun t205 => (some t205)) else (some false)) = some r := H
                                      have A59 := Aside0.mk A590
                                      clear A590
                                      by_cases c60 : t204 = true
                                      · subst c60
                                        have H1 : ((flailref08_Same.f k3 t192 x10_3).bind fun t205 => (some t205)) = some r := by rw [if_pos rfl] at H; exact H
                                        clear H
                                        have H := H1
                                        clear H1
                                        replace H := Option.bind_eq_some_iff.mp H
                                        obtain ⟨t205, A610, H⟩ := H
                                        replace H : (some t205) = some r := H
                                        have A61 := Aside0.mk A610
                                        clear A610
                                        obtain rfl := Option.some.inj H
                                        go_wp2_with (first | ((with_reducible refine gate_callee (f := 13) rfl ?_); refine goesL_ (some 128) rfl rfl Tryd.func13 (by kernel_rfl) rfl #[.string (x8_3 ++ (⟨#[62]⟩ : ByteArray)), .int .i64 0] rfl (by (try simp only [List.map_toArray, List.map_cons, List.map_nil]); first | done | rfl | (simp only [List.length_drop, List.length_take]; rfl)) ?_; (with_reducible refine (attrs_Read.calls (x8_3 ++ (⟨#[62]⟩ : ByteArray)) 0 t186 false t188 true _ ?side1 A47.out).mono ?_); (case side1 => first | (with_reducible exact HG.out) | exact Gl.below HG.out (by repeat (first | (with_reducible first | exact HB.out | apply below_alloc | apply pw_below_drewN | apply below_drew1) | exact HB.out)) | exact HG.out); rintro e w62 ⟨v190, rfl, ho0, hb⟩; refine ⟨_, rfl, ?_⟩; have n0_ := Aside0.mk (Kd.R_elder' (by (with_reducible repeat (first | apply Kd.R_alloc | apply Kd.R_drewN | apply Kd.R_drew)); exact HO_10.out) (Kd.R_base ho0) hb); have n1_ := Aside0.mk (Kd.R_lower (Kd.R_new' ho0 (Kd.R_lt (by (with_reducible repeat (first | apply Kd.R_alloc | apply Kd.R_drewN | apply Kd.R_drew)); exact HO_10.out))) (below_size (by repeat (first | (with_reducible first | exact HB.out | apply below_alloc | apply pw_below_drewN | apply below_drew1) | exact HB.out)))); have n2_ := Aside0.mk (below_step (by repeat (first | (with_reducible first | exact HB.out | apply below_alloc | apply pw_below_drewN | apply below_drew1) | exact HB.out)) hb); clear HO_10; clear HB; have HO_10 := n0_; have HO191 := n1_; have HB := n2_; clear n0_ n1_ n2_; (try clear hb); (try clear hb2); (try clear hk); (try clear hi); (try clear ho0)) | ((with_reducible refine gate_callee (f := 13) rfl ?_); refine goesL_ (some 136) rfl rfl Tryd.func13 (by kernel_rfl) rfl #[.string (x8_3 ++ (⟨#[32, 47, 62]⟩ : ByteArray)), .int .i64 0] rfl (by (try simp only [List.map_toArray, List.map_cons, List.map_nil]); first | done | rfl | (simp only [List.length_drop, List.length_take]; rfl)) ?_; (with_reducible refine (attrs_Read.calls (x8_3 ++ (⟨#[32, 47, 62]⟩ : ByteArray)) 0 t192 true t194 true _ ?side1 A49.out).mono ?_); (case side1 => first | (with_reducible exact HG.out) | exact Gl.below HG.out (by repeat (first | (with_reducible first | exact HB.out | apply below_alloc | apply pw_below_drewN | apply below_drew1) | exact HB.out)) | exact HG.out); rintro e w63 ⟨v196, rfl, ho0, hb⟩; refine ⟨_, rfl, ?_⟩; have n0_ := Aside0.mk (Kd.R_elder' (by (with_reducible repeat (first | apply Kd.R_alloc | apply Kd.R_drewN | apply Kd.R_drew)); exact HO_10.out) (Kd.R_base ho0) hb); have n1_ := Aside0.mk (Kd.R_elder' (by (with_reducible repeat (first | apply Kd.R_alloc | apply Kd.R_drewN | apply Kd.R_drew)); exact HO191.out) (Kd.R_base ho0) hb); have n2_ := Aside0.mk (Kd.R_lower (Kd.R_new' (Kd.R_new' ho0 (Kd.R_lt (by (with_reducible repeat (first | apply Kd.R_alloc | apply Kd.R_drewN | apply Kd.R_drew)); exact HO_10.out))) (Kd.R_lt (by (with_reducible repeat (first | apply Kd.R_alloc | apply Kd.R_drewN | apply Kd.R_drew)); exact HO191.out))) (below_size (by repeat (first | (with_reducible first | exact HB.out | apply below_alloc | apply pw_below_drewN | apply below_drew1) | exact HB.out)))); have n3_ := Aside0.mk (below_step (by repeat (first | (with_reducible first | exact HB.out | apply below_alloc | apply pw_below_drewN | apply below_drew1) | exact HB.out)) hb); clear HO_10; clear HO191; clear HB; have HO_10 := n0_; have HO191 := n1_; have HO197 := n2_; have HB := n3_; clear n0_ n1_ n2_ n3_; (try clear hb); (try clear hb2); (try clear hk); (try clear hi); (try clear ho0)) | ((with_reducible refine gate_callee (f := 13) rfl ?_); refine goesL_ (some 143) rfl rfl Tryd.func13 (by kernel_rfl) rfl #[.string x8_3, .int .i64 0] rfl (by (try simp only [List.map_toArray, List.map_cons, List.map_nil]); first | done | rfl | (simp only [List.length_drop, List.length_take]; rfl)) ?_; (with_reducible refine (attrs_Read.calls x8_3 0 t198 t199 t200 false _ ?side1 A50.out).mono ?_); (case side1 => first | (with_reducible exact HG.out) | exact Gl.below HG.out (by repeat (first | (with_reducible first | exact HB.out | apply below_alloc | apply pw_below_drewN | apply below_drew1) | exact HB.out)) | exact HG.out); rintro e w64 ⟨v202, rfl, ho0, hb⟩; refine ⟨_, rfl, ?_⟩; have n0_ := Aside0.mk (Kd.R_elder' (by (with_reducible repeat (first | apply Kd.R_alloc | apply Kd.R_drewN | apply Kd.R_drew)); exact HO_10.out) (Kd.R_base ho0) hb); have n1_ := Aside0.mk (Kd.R_elder' (by (with_reducible repeat (first | apply Kd.R_alloc | apply Kd.R_drewN | apply Kd.R_drew)); exact HO191.out) (Kd.R_base ho0) hb); have n2_ := Aside0.mk (Kd.R_elder' (by (with_reducible repeat (first | apply Kd.R_alloc | apply Kd.R_drewN | apply Kd.R_drew)); exact HO197.out) (Kd.R_base ho0) hb); have n3_ := Aside0.mk (Kd.R_lower (Kd.R_new' (Kd.R_new' (Kd.R_new' ho0 (Kd.R_lt (by (with_reducible repeat (first | apply Kd.R_alloc | apply Kd.R_drewN | apply Kd.R_drew)); exact HO_10.out))) (Kd.R_lt (by (with_reducible repeat (first | apply Kd.R_alloc | apply Kd.R_drewN | apply Kd.R_drew)); exact HO191.out))) (Kd.R_lt (by (with_reducible repeat (first | apply Kd.R_alloc | apply Kd.R_drewN | apply Kd.R_drew)); exact HO197.out))) (below_size (by repeat (first | (with_reducible first | exact HB.out | apply below_alloc | apply pw_below_drewN | apply below_drew1) | exact HB.out)))); have n4_ := Aside0.mk (below_step (by repeat (first | (with_reducible first | exact HB.out | apply below_alloc | apply pw_below_drewN | apply below_drew1) | exact HB.out)) hb); clear HO_10; clear HO191; clear HO197; clear HB; have HO_10 := n0_; have HO191 := n1_; have HO197 := n2_; have HO203 := n3_; have HB := n4_; clear n0_ n1_ n2_ n3_ n4_; (try clear hb); (try clear hb2); (try clear hk); (try clear hi); (try clear ho0); obtain ⟨Ao65, co65, eo65⟩ := Kd.R_slice HO191.out; subst eo65; obtain ⟨Ao66, co66, eo66⟩ := Kd.R_slice HO_10.out; subst eo66) | (go_at_call 14; (with_reducible refine (flailref08_Same.calls k3 _ _ t186 _ _ x10_3 true _ ?side1 ?side2 ?side3 ?side4 A59.out).mono ?_); (case side1 => repeat (first | exact (Kd.R_reads' HO191.out).2.2 | (with_reducible refine Kd.C_alloc ?_ _) | (with_reducible refine Kd.C_drewN ?_ _) | (with_reducible refine Kd.C_drew ?_))); (case side2 => exact (Kd.R_reads' HO191.out).2.1); (case side3 => repeat (first | exact (Kd.R_reads' HO_10.out).2.2 | (with_reducible refine Kd.C_alloc ?_ _) | (with_reducible refine Kd.C_drewN ?_ _) | (with_reducible refine Kd.C_drew ?_))); (case side4 => exact (Kd.R_reads' HO_10.out).2.1); rintro e w' ⟨rfl, ⟨nd, rfl⟩⟩; obtain ⟨Ao67, co67, eo67⟩ := Kd.R_slice HO197.out; subst eo67) | (go_at_call 14; (with_reducible refine (flailref08_Same.calls k3 _ _ t192 _ _ x10_3 t205 _ ?side1 ?side2 ?side3 ?side4 A61.out).mono ?_); (case side1 => repeat (first | exact (Kd.R_reads' HO197.out).2.2 | (with_reducible refine Kd.C_alloc ?_ _) | (with_reducible refine Kd.C_drewN ?_ _) | (with_reducible refine Kd.C_drew ?_))); (case side2 => exact (Kd.R_reads' HO197.out).2.1); (case side3 => repeat (first | exact (Kd.R_reads' HO_10.out).2.2 | (with_reducible refine Kd.C_alloc ?_ _) | (with_reducible refine Kd.C_drewN ?_ _) | (with_reducible refine Kd.C_drew ?_))); (case side4 => exact (Kd.R_reads' HO_10.out).2.1); rintro e w' ⟨rfl, ⟨nd, rfl⟩⟩))
                                        go_ret
                                        exact ⟨by first | rfl | (simp [errW_none, errW_some] <;> rfl) | (simp [*, errW_none, errW_some] <;> rfl), by repeat (first | (with_reducible first | exact HB.out | apply below_alloc | apply pw_below_drewN | apply below_drew1) | exact HB.out)⟩
                                      · replace c60 := Bool.eq_false_iff.mpr c60
                                        subst c60
                                        have H1 : (some false) = some r := by rw [if_neg (show ¬ (false = true) by decide)] at H; exact H
                                        clear H
                                        have H := H1
                                        clear H1
                                        exact absurd ((Option.some.inj H).trans HT.out) (by decide)
                                    · rw [if_neg c58] at H
                                      have c58b0 : (t194 == (wrap64 ((x8_3.size : Int) + 3))) = false := beq_eq_false_iff_ne.mpr c58
                                      have c58b1 : (t194 != (wrap64 ((x8_3.size : Int) + 3))) = true := bne_iff_ne.mpr c58
                                      (try (have c58b2 : (t194 == (((x8_3.size : Int) + 3))) = false := by have h_ := c58; rw [IntWalk.wrap64_in ((x8_3.size : Int) + 3) ⟨by omega, by omega⟩] at h_; exact beq_eq_false_iff_ne.mpr h_))
                                      (try (have c58b3 : (t194 != (((x8_3.size : Int) + 3))) = true := by have h_ := c58; rw [IntWalk.wrap64_in ((x8_3.size : Int) + 3) ⟨by omega, by omega⟩] at h_; exact bne_iff_ne.mpr h_))
                                      exact absurd ((Option.some.inj H).trans HT.out) (by decide)
                                  · rw [if_neg c57] at H
                                    have c57b0 : (t188 == (wrap64 ((x8_3.size : Int) + 1))) = false := beq_eq_false_iff_ne.mpr c57
                                    have c57b1 : (t188 != (wrap64 ((x8_3.size : Int) + 1))) = true := bne_iff_ne.mpr c57
                                    (try (have c57b2 : (t188 == (((x8_3.size : Int) + 1))) = false := by have h_ := c57; rw [IntWalk.wrap64_in ((x8_3.size : Int) + 1) ⟨by omega, by omega⟩] at h_; exact beq_eq_false_iff_ne.mpr h_))
                                    (try (have c57b3 : (t188 != (((x8_3.size : Int) + 1))) = true := by have h_ := c57; rw [IntWalk.wrap64_in ((x8_3.size : Int) + 1) ⟨by omega, by omega⟩] at h_; exact bne_iff_ne.mpr h_))
                                    exact absurd ((Option.some.inj H).trans HT.out) (by decide)
                                · replace c56 := Bool.eq_false_iff.mpr c56
                                  subst c56
                                  have H1 : (some false) = some r := by rw [if_neg (show ¬ (false = true) by decide)] at H; exact H
                                  clear H
                                  have H := H1
                                  clear H1
                                  exact absurd ((Option.some.inj H).trans HT.out) (by decide)
                          · replace c53 := Bool.eq_false_iff.mpr c53
                            subst c53
                            have H1 : (some false) = some r := by rw [if_neg (show ¬ (false = true) by decide)] at H; exact H
                            clear H
                            have H := H1
                            clear H1
                            exact absurd ((Option.some.inj H).trans HT.out) (by decide)
                        · replace c52 := Bool.eq_false_iff.mpr c52
                          subst c52
                          have H1 : (some false) = some r := by rw [if_neg (show ¬ (false = true) by decide)] at H; exact H
                          clear H
                          have H := H1
                          clear H1
                          exact absurd ((Option.some.inj H).trans HT.out) (by decide)
                      · replace c51 := Bool.eq_false_iff.mpr c51
                        subst c51
                        have H1 : (some false) = some r := by rw [if_neg (show ¬ (false = true) by decide)] at H; exact H
                        clear H
                        have H := H1
                        clear H1
                        exact absurd ((Option.some.inj H).trans HT.out) (by decide)
                    · rw [if_neg c48] at H
                      exact absurd H (by simp)
                  · rw [if_neg c46] at H
                    exact absurd H (by simp)

end Go.Proofs.YtfhjfidkcdcjnaaDoor.Q

/- AttrsWritten: the pure statement, and the walk over a slice of strings that came in. -/
namespace Go.Proofs.YtfhjfidkcdcjnaaDoor.Pure
open Go Go.RowKit Go.Proofs.YtfhjfidkcdcjnaaDoor.Q Go.Proofs.YtfhjfidkcdcjnaaDoorW.PrintWords Go.Proofs.YtfhjfidkcdcjnaaDoorW.PrintLast Go.Proofs.YtfhjfidkcdcjnaaDoorW.PrintMore
set_option linter.unusedVariables false
set_option linter.unusedSimpArgs false

theorem wr_big {n : Nat} (h : n < 4294967296) : n ≤ 9223372036854775807 := Nat.le_trans (Nat.le_of_lt h) (Nat.le_of_ble_eq_true rfl)
theorem wr_app (a b : ByteArray) : Fl.toL (a ++ b) = Fl.toL a ++ Fl.toL b := by
  unfold Fl.toL
  rw [ByteArray.data_append, Array.toList_append]
theorem wr_inc (a : Nat) (h : a < 2147483648) : wrap64 ((a : Int) + 1) = ((a + 1 : Nat) : Int) := by rw [Fl.wrap_in _ (by omega) (by omega)]; omega
theorem wr_plus (a b : Nat) (h : a < 2147483648) (hb : b < 2147483648) : wrap64 ((a : Int) + (b : Int)) = ((a + b : Nat) : Int) := by rw [Fl.wrap_in _ (by omega) (by omega)]; rfl
/-- What has been written so far is read so: 'acc', in whatever rounds. -/
structure Wrote (s : ByteArray) (acc : List Fl.Att) (i : Nat) : Prop where
  reads : ∀ n X, Fl.readN (n + i) (Fl.toL s ++ X) [] = Fl.readN n X acc
  size : s.size ≤ 70 * i
  count : acc.length ≤ i
/-- A byte that a value of this law may have. -/
def valC (c : UInt8) : Bool := c != 34 && c != 39 && c != 38 && c != 0
theorem val_facts (v : Fl.Bs) (h : ∀ c ∈ v, valC c = true) (q : UInt8) (hq : q = 34 ∨ q = 39) : v.count q = 0 ∧ Fl.clean (Fl.decode true v) = v := by
  have hc : ∀ c ∈ v, c ≠ 34 ∧ c ≠ 39 ∧ c ≠ 38 ∧ c ≠ 0 := fun c hc => by have := h c hc; unfold valC at this; simpa [and_assoc] using this
  refine ⟨List.count_eq_zero.2 fun hm => ?_, ?_⟩
  · rcases hq with rfl | rfl
    · exact (hc _ hm).1 rfl
    · exact (hc _ hm).2.1 rfl
  · rw [Fl.decode_same true v (List.count_eq_zero.2 fun hm => (hc _ hm).2.2.1 rfl), Fl.clean_none fun d hd => (hc d hd).2.2.2]
theorem Wrote.more {s : ByteArray} {acc : List Fl.Att} {i : Nat} (h : Wrote s acc i) (c q : UInt8) (v : ByteArray) (T : ByteArray) (hc : 97 ≤ c.toNat ∧ c.toNat ≤ 101) (hq : q = 34 ∨ q = 39) (hv : ∀ d ∈ Fl.toL v, valC d = true) (hl : v.size ≤ 60)
    (hT : Fl.toL T = Fl.toL s ++ 32 :: (c :: [120] ++ 61 :: q :: Fl.toL v ++ q :: [])) : Wrote T (Fl.add acc [c, 120] (Fl.toL v)) (i + 1) := by
  obtain ⟨h1, h2⟩ := val_facts (Fl.toL v) hv q hq
  have hcc : Fl.nend [47, 62, 61] c = true ∧ Fl.clean (Fl.lower [c, 120]) = [c, 120] := by
    have := List.all_eq_true.1 (show ((List.range 5).all fun n => Fl.nend [47, 62, 61] (UInt8.ofNat (97 + n)) && (Fl.clean (Fl.lower [UInt8.ofNat (97 + n), 120]) == [UInt8.ofNat (97 + n), 120])) = true by decide +kernel) (c.toNat - 97) (List.mem_range.2 (by omega))
    rw [show 97 + (c.toNat - 97) = c.toNat by omega, UInt8.ofNat_toNat] at this
    simpa using this
  refine ⟨fun n X => ?_, ?_, ?_⟩
  · have e := Fl.readN_quoted n [120] (Fl.toL v) X q c acc hcc.1 (by decide) hq h1
    rw [hcc.2, h2] at e
    rw [hT, List.append_assoc, show n + (i + 1) = (n + 1) + i by omega, h.reads, List.cons_append, Fl.readN_blank _ 32 (by decide), ← e]
    congr 1
    simp
  · have := congrArg List.length hT
    rw [Fl.toL_length, List.length_append, Fl.toL_length] at this
    simp at this
    have := h.size
    omega
  · have h3 := h.count
    have : (Fl.add acc [c, 120] (Fl.toL v)).length ≤ acc.length + 1 := by unfold Fl.add; split <;> simp
    omega
theorem written_end (n : Nat) (zs : List Int) (vs : List ByteArray) (q : ByteArray) (s : ByteArray) (acc : List Fl.Att) (hz : zs.length = n) (hn : n ≤ 10) (h : Wrote s acc n) :
    Ev (fun k => flaillaw08_AttrsWritten.l0 k zs vs true s q (acc.map toS) ((n : Nat) : Int)) true := by
  have hsz := h.size
  have hct := h.count
  obtain ⟨T, hT⟩ : ∃ T, s ++ (⟨#[62]⟩ : ByteArray) = T := ⟨_, rfl⟩
  obtain ⟨U, hU⟩ : ∃ U, s ++ (⟨#[32, 47, 62]⟩ : ByteArray) = U := ⟨_, rfl⟩
  have hTl : Fl.toL T = Fl.toL s ++ [62] := by rw [← hT, wr_app]; rfl
  have hUl : Fl.toL U = Fl.toL s ++ [32, 47, 62] := by rw [← hU, wr_app]; rfl
  have hTs : T.size = s.size + 1 := by rw [← hT, ByteArray.size_append]; rfl
  have hUs : U.size = s.size + 3 := by rw [← hU, ByteArray.size_append]; rfl
  have rT : Fl.readL (Fl.toL T) = some (acc, false, []) := by
    rw [Fl.readL_eq (n := (s.size + 1 + 1) + n) (by rw [Fl.toL_length]; omega), hTl, h.reads, Fl.readN_end]
  have rU : Fl.readL (Fl.toL U) = some (acc, true, []) := by
    rw [Fl.readL_eq (n := (s.size + 3 + 1) + n) (by rw [Fl.toL_length]; omega), hUl, h.reads, Fl.readN_blank _ 32 (by decide)]
    unfold Fl.readN
    rw [List.dropWhile_cons, show Fl.space 47 = false from by decide]
    rfl
  have rS : Fl.readL (Fl.toL s) = none := by
    have := h.reads (s.size + 1) []
    rw [List.append_nil] at this
    rw [Fl.readL_eq (n := (s.size + 1) + n) (by rw [Fl.toL_length]; omega), this]
    unfold Fl.readN; rfl
  have pT := read_some (by omega) rT
  have pU := read_some (by omega) rU
  have pS := read_none (by omega) rS
  rw [hTs] at pT
  rw [hUs] at pU
  have hsame := same_ev (acc.map toS) (by rw [List.length_map]; omega)
  have b1 := wr_big (n := s.size + 1) (by omega)
  have b3 := wr_big (n := s.size + 3) (by omega)
  have hlt : ¬ (((n : Nat) : Int) < (zs.length : Int)) := by omega
  have w1 := wr_plus s.size 1 (by omega) (by omega)
  have w3 := wr_plus s.size 3 (by omega) (by omega)
  refine Ev.step (f := fun k => (flailref08_Same.f k (acc.map toS) (acc.map toS)).bind fun t => if t = true then ((flailref08_Same.f k (acc.map toS) (acc.map toS)).bind fun t => some t) else some false) (fun k => ?_) ?_
  · simp only [flaillaw08_AttrsWritten.l0]
    rw [if_neg hlt, if_pos b1, hT, pT, hU, pU, pS, show ((s.size : Int) + 1) = ((s.size : Int) + ((1 : Nat) : Int)) from rfl, show ((s.size : Int) + 3) = ((s.size : Int) + ((3 : Nat) : Int)) from rfl, w1, w3]
    simp only [Option.bind_some]
    rw [if_pos b3]
    simp
  · refine Ev.bind (f := fun k t => if t = true then ((flailref08_Same.f k (acc.map toS) (acc.map toS)).bind fun t => some t) else some false) hsame ?_
    simp only [if_true]
    exact Ev.bind (f := fun _ t => some t) hsame (Ev.now true)
theorem written_l2 (zs : List Int) (vs : List ByteArray) (s q v nm : ByteArray) (acc : List Fl.Att) (i : Nat) (hi : i < 2147483647) (hl : acc.length < 2147483647)
    (next : Ev (fun k => flaillaw08_AttrsWritten.l0 k zs vs true s q ((Fl.add acc (Fl.toL nm) (Fl.toL v)).map toS) ((i + 1 : Nat) : Int)) true) :
    ∀ (d j : Nat), j + d = acc.length → Ev (fun k => flaillaw08_AttrsWritten.l2 k zs vs true s q (acc.map toS) (i : Int) v nm ((acc.take j).any fun a => a.1 == Fl.toL nm) (j : Int)) true := by
  have wi := wr_inc i (by omega)
  intro d
  induction d with
  | zero =>
    intro j hj
    have hjl : ¬ ((j : Int) < ((acc.map toS).length : Int)) := by rw [List.length_map]; omega
    refine Ev.step (f := fun k => flaillaw08_AttrsWritten.l0 k zs vs true s q ((Fl.add acc (Fl.toL nm) (Fl.toL v)).map toS) ((i + 1 : Nat) : Int)) (fun k => ?_) next
    have hlim : (acc.map toS).length < 4398046511104 := by rw [List.length_map]; omega
    simp only [flaillaw08_AttrsWritten.l2]
    rw [if_neg hjl, wi, List.take_of_length_le (by omega)]
    unfold Fl.add Fl.has
    cases hh : acc.any fun a => a.1 == Fl.toL nm with
    | true => rw [if_pos rfl, if_pos rfl]
    | false =>
      rw [if_neg (show ¬ (false = true) by simp), if_pos hlim, if_neg (show ¬ (false = true) by simp), List.map_append]; rfl
  | succ d ih =>
    intro j hj
    have hjl : j < acc.length := by omega
    have hc1 : (j : Int) < ((acc.map toS).length : Int) := by rw [List.length_map]; omega
    have hc2 : (0 : Int) ≤ (j : Int) := by omega
    have wj := wr_inc j (by omega)
    have htake : ((acc.take (j + 1)).any fun a => a.1 == Fl.toL nm) = (((acc.take j).any fun a => a.1 == Fl.toL nm) || (acc[j].1 == Fl.toL nm)) := by
      rw [List.take_succ_eq_append_getElem hjl, List.any_append]; simp
    refine Ev.step (f := fun k => flaillaw08_AttrsWritten.l2 k zs vs true s q (acc.map toS) (i : Int) v nm ((acc.take (j + 1)).any fun a => a.1 == Fl.toL nm) ((j + 1 : Nat) : Int)) (fun k => ?_) (ih (j + 1) (by omega))
    simp only [flaillaw08_AttrsWritten.l2, rd_map acc j hjl]
    rw [if_pos hc1, if_pos hc2, wj, htake, show (toS acc[j]).f0 = Fl.ofL acc[j].1 from rfl, Fl.toList_toL, Fl.toList_toL, Fl.toL_ofL]
    by_cases he : acc[j].1 = Fl.toL nm
    · rw [if_pos he, he]; simp
    · rw [if_neg he, show (acc[j].1 == Fl.toL nm) = false by rw [beq_eq_false_iff_ne]; exact he, Bool.or_false]
theorem written_l1 (zs : List Int) (vs : List ByteArray) (s q v : ByteArray) (qc : UInt8) (hqc : qc = 34 ∨ qc = 39) (hq : q = Fl.ofL [qc]) (acc : List Fl.Att) (i : Nat) (hi : i < zs.length) (hz : zs.length ≤ 10) (hx : ∀ x ∈ zs, 0 ≤ x ∧ x ≤ 255) (h : Wrote s acc i) (hv : v.size ≤ 60)
    (next : ∀ T acc', Wrote T acc' (i + 1) → Ev (fun k => flaillaw08_AttrsWritten.l0 k zs vs true T q (acc'.map toS) ((i + 1 : Nat) : Int)) true) :
    ∀ (d j : Nat), j + d = v.size → (∀ m (hm : m < j) (hv : m < (Fl.toL v).length), valC ((Fl.toL v)[m]) = true) → Ev (fun k => flaillaw08_AttrsWritten.l1 k zs vs true s q (acc.map toS) (i : Int) v (j : Int)) true := by
  have hsz := h.size
  have hct := h.count
  intro d
  induction d with
  | zero =>
    intro j hj hall
    have hvals : ∀ d ∈ Fl.toL v, valC d = true := fun d hd => by
      obtain ⟨m, hm, rfl⟩ := List.getElem_of_mem hd
      exact hall m (by rw [Fl.toL_length] at hm; omega) hm
    have hr : rd zs (i : Int) = zs[i] := by unfold rd; rw [Int.toNat_natCast, List.getD, List.getElem?_eq_getElem hi]; rfl
    have hx' := hx zs[i] (List.getElem_mem _)
    obtain ⟨m, hm⟩ : ∃ m : Nat, zs[i] = m := ⟨zs[i].toNat, by omega⟩
    have hnm : strOfNums [(97 + Int.tmod (rd zs (i : Int)) 5) % 256, 120] = Fl.ofL [UInt8.ofNat (97 + m % 5), 120] := by
      have e2 : (97 + Int.tmod (rd zs (i : Int)) 5) % 256 = ((97 + m % 5 : Nat) : Int) := by
        rw [hr, hm, Int.tmod_eq_emod_of_nonneg (by omega)]; omega
      rw [e2]; rfl
    obtain ⟨T, hT⟩ : ∃ T, ((((((s ++ (⟨#[32]⟩ : ByteArray)) ++ Fl.ofL [UInt8.ofNat (97 + m % 5), 120]) ++ (⟨#[61]⟩ : ByteArray)) ++ q) ++ v) ++ q) = T := ⟨_, rfl⟩
    have hTl : Fl.toL T = Fl.toL s ++ 32 :: (UInt8.ofNat (97 + m % 5) :: [120] ++ 61 :: qc :: Fl.toL v ++ qc :: []) := by
      rw [← hT, wr_app, wr_app, wr_app, wr_app, wr_app, wr_app, hq]
      simp [Fl.toL, Fl.ofL]
    have hmore := h.more (UInt8.ofNat (97 + m % 5)) qc v T (by rw [UInt8.toNat_ofNat_of_lt' (show 97 + m % 5 < 256 by omega)]; omega) hqc hvals hv hTl
    have hl2 := written_l2 zs vs T q v (Fl.ofL [UInt8.ofNat (97 + m % 5), 120]) acc i (by omega) (by omega) (next _ _ hmore) acc.length 0 (by omega)
    have z1 : (s ++ (⟨#[32]⟩ : ByteArray)).size = s.size + 1 := by rw [ByteArray.size_append]; rfl
    have z2 : ((s ++ (⟨#[32]⟩ : ByteArray)) ++ Fl.ofL [UInt8.ofNat (97 + m % 5), 120]).size = s.size + 3 := by rw [ByteArray.size_append, z1]; rfl
    have z3 : (((s ++ (⟨#[32]⟩ : ByteArray)) ++ Fl.ofL [UInt8.ofNat (97 + m % 5), 120]) ++ (⟨#[61]⟩ : ByteArray)).size = s.size + 4 := by rw [ByteArray.size_append, z2]; rfl
    have zq : q.size = 1 := by rw [hq]; rfl
    have z4 : ((((s ++ (⟨#[32]⟩ : ByteArray)) ++ Fl.ofL [UInt8.ofNat (97 + m % 5), 120]) ++ (⟨#[61]⟩ : ByteArray)) ++ q).size = s.size + 5 := by rw [ByteArray.size_append, z3, zq]
    have z5 : (((((s ++ (⟨#[32]⟩ : ByteArray)) ++ Fl.ofL [UInt8.ofNat (97 + m % 5), 120]) ++ (⟨#[61]⟩ : ByteArray)) ++ q) ++ v).size = s.size + 5 + v.size := by rw [ByteArray.size_append, z4]
    have zn : (Fl.ofL [UInt8.ofNat (97 + m % 5), 120]).size = 2 := rfl
    have c0 : ¬ ((j : Int) < (v.size : Int)) := by omega
    have c1 : (0 : Int) ≤ (i : Int) := by omega
    have c2 : (i : Int) < (zs.length : Int) := by omega
    refine Ev.step (f := fun k => flaillaw08_AttrsWritten.l2 k zs vs true T q (acc.map toS) (i : Int) v (Fl.ofL [UInt8.ofNat (97 + m % 5), 120]) false 0) (fun k => ?_) hl2
    simp only [flaillaw08_AttrsWritten.l1, hnm, Option.bind_some]
    rw [if_neg c0, if_pos c1, if_pos c2, if_pos (wr_big (by omega)), if_pos (wr_big (by rw [z1, zn]; omega)), if_pos (wr_big (by rw [z2]; omega)), if_pos (wr_big (by rw [z3, zq]; omega)), if_pos (wr_big (by rw [z4]; omega)), if_pos (wr_big (by rw [z5, zq]; omega)), hT]
  | succ d ih =>
    intro j hj hall
    have hb := bt_toL v j (by omega)
    have c0 : (j : Int) < (v.size : Int) := by omega
    have c1 : (0 : Int) ≤ (j : Int) := by omega
    have wj := wr_inc j (by omega)
    by_cases hok : valC ((Fl.toL v)[j]'(by rw [Fl.toL_length]; omega)) = true
    · have hih := ih (j + 1) (by omega) (fun m hm hvm => by
        rcases Nat.lt_or_ge m j with h | h
        · exact hall m h hvm
        · have : m = j := by omega
          subst this; exact hok)
      have hf : ∀ n : Nat, valC (UInt8.ofNat n) = false → ¬ (bt v (j : Int) = (n : Int) ∧ n < 256) := by
        intro n hn ⟨h, h2⟩
        rw [hb] at h
        have : (Fl.toL v)[j]'(by rw [Fl.toL_length]; omega) = UInt8.ofNat n := by
          apply UInt8.toNat_inj.1
          rw [UInt8.toNat_ofNat_of_lt' h2]; omega
        rw [this, hn] at hok; cases hok
      refine Ev.step (f := fun k => flaillaw08_AttrsWritten.l1 k zs vs true s q (acc.map toS) (i : Int) v ((j + 1 : Nat) : Int)) (fun k => ?_) hih
      simp only [flaillaw08_AttrsWritten.l1]
      rw [if_pos c0, if_pos c1, if_neg (show ¬ bt v (j : Int) = 34 from fun h => hf 34 (by decide) ⟨h, by omega⟩), if_neg (show ¬ bt v (j : Int) = 39 from fun h => hf 39 (by decide) ⟨h, by omega⟩), if_neg (show ¬ bt v (j : Int) = 38 from fun h => hf 38 (by decide) ⟨h, by omega⟩), if_neg (show ¬ bt v (j : Int) = 0 from fun h => hf 0 (by decide) ⟨h, by omega⟩), wj]
    · refine Ev.step (f := fun k => some true) (fun k => ?_) (Ev.now true)
      simp only [flaillaw08_AttrsWritten.l1]
      rw [if_pos c0, if_pos c1, hb]
      have hone : ((Fl.toL v)[j]'(by rw [Fl.toL_length]; omega)) = 34 ∨ ((Fl.toL v)[j]'(by rw [Fl.toL_length]; omega)) = 39 ∨ ((Fl.toL v)[j]'(by rw [Fl.toL_length]; omega)) = 38 ∨ ((Fl.toL v)[j]'(by rw [Fl.toL_length]; omega)) = 0 := by
        rcases Classical.em (((Fl.toL v)[j]'(by rw [Fl.toL_length]; omega)) = 34) with a | a
        · exact Or.inl a
        rcases Classical.em (((Fl.toL v)[j]'(by rw [Fl.toL_length]; omega)) = 39) with b | b
        · exact Or.inr (Or.inl b)
        rcases Classical.em (((Fl.toL v)[j]'(by rw [Fl.toL_length]; omega)) = 38) with c | c
        · exact Or.inr (Or.inr (Or.inl c))
        rcases Classical.em (((Fl.toL v)[j]'(by rw [Fl.toL_length]; omega)) = 0) with d | d
        · exact Or.inr (Or.inr (Or.inr d))
        · exact absurd (by unfold valC; simp [a, b, c, d]) hok
      rcases hone with e | e | e | e <;> rw [e] <;> rfl
theorem written_l0 (zs : List Int) (vs : List ByteArray) (qc : UInt8) (hqc : qc = 34 ∨ qc = 39) (hz : zs.length ≤ 10) (hvs : zs.length ≤ vs.length) (hx : ∀ x ∈ zs, 0 ≤ x ∧ x ≤ 255) :
    ∀ (d i : Nat) (s : ByteArray) (acc : List Fl.Att), i + d = zs.length → Wrote s acc i → Ev (fun k => flaillaw08_AttrsWritten.l0 k zs vs true s (Fl.ofL [qc]) (acc.map toS) (i : Int)) true := by
  intro d
  induction d with
  | zero =>
    intro i s acc hi h
    exact written_end i zs vs (Fl.ofL [qc]) s acc (by omega) (by omega) h
  | succ d ih =>
    intro i s acc hi h
    obtain ⟨v, hv⟩ : ∃ v, rdOf ByteArray.empty vs (i : Int) = v := ⟨_, rfl⟩
    have c0 : (i : Int) < (zs.length : Int) := by omega
    have c1 : (0 : Int) ≤ (i : Int) := by omega
    have c2 : (i : Int) < (vs.length : Int) := by omega
    by_cases hl : (v.size : Int) > 60
    · refine Ev.step (f := fun k => some true) (fun k => ?_) (Ev.now true)
      simp only [flaillaw08_AttrsWritten.l0]
      rw [if_pos c0, if_pos c1, if_pos c2, hv, if_pos hl]
    · have h1 := written_l1 zs vs s (Fl.ofL [qc]) v qc hqc rfl acc i (by omega) hz hx h (by omega) (fun T acc' hw => ih (i + 1) T acc' (by omega) hw) v.size 0 (by omega) (fun m hm => by omega)
      refine Ev.step (f := fun k => flaillaw08_AttrsWritten.l1 k zs vs true s (Fl.ofL [qc]) (acc.map toS) (i : Int) v 0) (fun k => ?_) h1
      simp only [flaillaw08_AttrsWritten.l0]
      rw [if_pos c0, if_pos c1, if_pos c2, hv, if_neg hl]
def AttrsWrittenPure : Prop := ∀ (zs : List Int) (vs : List ByteArray) (single : Bool), (∀ x ∈ zs, (Lit.int .u8 x).wf = true) → ∃ k, flaillaw08_AttrsWritten.f k zs vs single = some true
theorem AttrsWritten : AttrsWrittenPure := by
  intro zs vs single hwf
  have hx : ∀ x ∈ zs, 0 ≤ x ∧ x ≤ 255 := fun x hx => by
    have := hwf x hx
    simp [Lit.wf, show IntKind.u8.min = 0 from rfl, show IntKind.u8.max = 255 from rfl] at this; omega
  apply Ev.rounds
  unfold flaillaw08_AttrsWritten.f
  refine Ev.bind awake_ev ?_
  have hout : Ev (fun k => flaillaw08_AttrsWritten.j0 k zs vs single true true) true := by
    refine Ev.step (f := fun k => some true) (fun k => ?_) (Ev.now true)
    simp only [flaillaw08_AttrsWritten.j0]
    rw [if_pos trivial]
  by_cases hz : (zs.length : Int) > 10
  · simp only [if_pos hz]; exact hout
  · simp only [if_neg hz]
    by_cases hv : (vs.length : Int) < (zs.length : Int)
    · rw [decide_eq_true hv]; exact hout
    · rw [decide_eq_false hv]
      have hw0 : Wrote ⟨#[]⟩ [] 0 := ⟨fun n X => rfl, by decide, by decide⟩
      have key : ∀ qc : UInt8, (qc = 34 ∨ qc = 39) → Ev (fun k => flaillaw08_AttrsWritten.j1 k zs vs true ⟨#[]⟩ (Fl.ofL [qc])) true := by
        intro qc hqc
        refine Ev.step (f := fun k => flaillaw08_AttrsWritten.l0 k zs vs true ⟨#[]⟩ (Fl.ofL [qc]) (([] : List Fl.Att).map toS) ((0 : Nat) : Int)) (fun k => ?_) (written_l0 zs vs qc hqc (by omega) (by omega) hx zs.length 0 ⟨#[]⟩ [] (by omega) hw0)
        simp only [flaillaw08_AttrsWritten.j1]
        rfl
      cases single with
      | true =>
        refine Ev.step (f := fun k => flaillaw08_AttrsWritten.j1 k zs vs true ⟨#[]⟩ (Fl.ofL [39])) (fun k => ?_) (key 39 (Or.inr rfl))
        simp only [flaillaw08_AttrsWritten.j0]
        rw [if_neg (by simp), if_pos trivial]; rfl
      | false =>
        refine Ev.step (f := fun k => flaillaw08_AttrsWritten.j1 k zs vs true ⟨#[]⟩ (Fl.ofL [34])) (fun k => ?_) (key 34 (Or.inl rfl))
        simp only [flaillaw08_AttrsWritten.j0]
        rw [if_neg (by simp), if_neg (by simp)]; rfl
end Go.Proofs.YtfhjfidkcdcjnaaDoor.Pure
namespace Go.Proofs.YtfhjfidkcdcjnaaDoor.Q
open Go.RowKit Go.Proofs.YtfhjfidkcdcjnaaDoorW.PrintWords Go.Proofs.YtfhjfidkcdcjnaaDoorW.PrintLast Go.Proofs.YtfhjfidkcdcjnaaDoorW.PrintMore
/-- A slice of strings that came in, read as a list. -/
theorem strs_row {w : World} {a : Option Addr} {len cap : Nat} {ss : List ByteArray} (h : (a = none ∧ len = 0 ∧ cap = 0 ∧ ss = []) ∨ ∃ x, a = some x ∧ len ≤ cap ∧ cap ≤ maxLen ∧ ss.length = cap ∧ ∀ i, i < ss.length → w.cell? (x.add i) = some (.string (ss.getD i ByteArray.empty))) :
    ∃ l : List ByteArray, len = l.length ∧ Kd.C Kd.string w a l.length l ∧ l.length ≤ cap := by
  rcases h with ⟨rfl, rfl, rfl, rfl⟩ | ⟨x, rfl, hl, hm, hz, hc⟩
  · exact ⟨[], rfl, Kd.C_of_reads (d := ByteArray.empty) ⟨rfl, by decide, fun h => absurd h (by decide)⟩, by decide⟩
  · refine ⟨ss.take len, by rw [List.length_take]; omega, Kd.C_of_reads (d := ByteArray.empty) ⟨rfl, ?_, fun _ => ⟨x, rfl, fun j hj => ?_⟩⟩, by rw [List.length_take]; omega⟩
    · rw [List.length_take]
      unfold maxLen at hm
      omega
    · rw [List.length_take] at hj
      rw [hc j (by omega), List.getD, List.getD, List.getElem?_take_of_lt (by omega)]
theorem flaillaw08_AttrsWritten.walk (P : Pure.AttrsWrittenPure) (a0 : Option Addr) (len0 cap0 : Nat) (z0 : List Int) (a1 : Option Addr) (len1 cap1 : Nat) (z1 : List ByteArray) (a2 : Bool) (w : World) (hG : Gl w)
    (w0 : (a0 = none ∧ len0 = 0 ∧ cap0 = 0 ∧ z0 = []) ∨ ∃ x, a0 = some x ∧ len0 ≤ cap0 ∧ cap0 ≤ maxLen ∧ z0.length = cap0 ∧ (∀ i, i < z0.length → w.cell? (x.add i) = some (.int .u8 (z0.getD i 0))) ∧ ∀ n ∈ z0, (Lit.int .u8 n).wf = true) (y0 : len0 * 1 ≤ 140737488351232)
    (w1 : (a1 = none ∧ len1 = 0 ∧ cap1 = 0 ∧ z1 = []) ∨ ∃ x, a1 = some x ∧ len1 ≤ cap1 ∧ cap1 ≤ maxLen ∧ z1.length = cap1 ∧ ∀ i, i < z1.length → w.cell? (x.add i) = some (.string (z1.getD i ByteArray.empty))) :
    Calls Tryd.prog 4 #[.slice a0 len0 cap0, .slice a1 len1 cap1, .bool a2] w fun e w' => e = .returned (.bool true) ∧ Below w.heap.size w w' := by
  obtain ⟨l0, rfl, hr0, hm0, hw0, hc0⟩ := ReadsInt.ofRowC w0
  obtain ⟨l1, rfl, hr1, hc1⟩ := strs_row w1
  obtain ⟨k, h⟩ := P l0 l1 a2 hw0
  refine (flaillaw08_AttrsWritten.calls k _ _ l0 _ _ l1 a2 true w hG (Kd.C_of_reads (d := (0 : Int)) (h1 := fun _ => rfl) hr0) hc0 hr1 hc1 h rfl).mono ?_
  rintro e w' ⟨rfl, hd⟩
  exact ⟨rfl, hd⟩
end Go.Proofs.YtfhjfidkcdcjnaaDoor.Q

/- The law AttrsWritten: its row and its card. -/
namespace Go.Proofs.YtfhjfidkcdcjnaaDoor.attrsWritten
open Go.ChangeShapes Go.WideShapes Go.ChangeAt Go.RowKit
open Go.ChangeMaps (open_string shut_string)
set_option linter.unusedVariables false
def IsRow (k : IntKind) (w : World) (a : Option Addr) (len cap : Nat) (zs : List Int) : Prop :=
  (a = none ∧ len = 0 ∧ cap = 0 ∧ zs = []) ∨
  ∃ x, a = some x ∧ len ≤ cap ∧ cap ≤ maxLen ∧ zs.length = cap ∧ (∀ i, i < zs.length → w.cell? (x.add i) = some (.int k (zs.getD i 0))) ∧ ∀ n ∈ zs, (Lit.int k n).wf = true
def IsStrs (w : World) (a : Option Addr) (len cap : Nat) (ss : List ByteArray) : Prop :=
  (a = none ∧ len = 0 ∧ cap = 0 ∧ ss = []) ∨
  ∃ x, a = some x ∧ len ≤ cap ∧ cap ≤ maxLen ∧ ss.length = cap ∧ ∀ i, i < ss.length → w.cell? (x.add i) = some (.string (ss.getD i ByteArray.empty))
set_option maxRecDepth 100000 in
theorem lifted (os : Os) (started : os.Started) (H : Type) (enc : TypeId × Value → H) :
    ReturnsInHanded {} Tryd.checked os 4 .any (fun w args => (Rows.attrsWrittenSpec.pre enc Tryd.prog Tryd.f4 Rows.attrsWrittenRow.domain false w args ∧ laidMetH Tryd.prog laid7 w) ∧ sizedMet enc Tryd.prog Tryd.f4 (OpenSpec.ofChange Rows.attrsWrittenSpec) false w args) (Rows.attrsWrittenSpec.post enc Tryd.prog Tryd.f4 false true false false) := by
  refine row_returns started (by kernel_rfl) Tryd.func4 #[.slice none 0 0, .slice none 0 0, .bool false] (by kernel_rfl) (by kernel_rfl) (by kernel_rfl) ?_
  intro W base args ds gs before hval0 hW hsz0 hG
  have hsz : (DataW.weightsEach Tryd.prog (Tryd.f4.params.toList ++ Rows.attrsWrittenSpec.plain.varTypes Tryd.prog) (ds ++ gs)).all (· ≤ reachBytes) = true := hsz0
  have hval : ∀ (j : Nat) t v, Tryd.f4.params[j]? = some t → args[j]? = some v → Value.okWide Tryd.prog W .any base t v := hval0
  have hW' := hW
  obtain ⟨p, q, hA0, hV, rfl, hfz, hnd⟩ := hW
  have hA : DataW.TrodAll enc Tryd.prog W 0 (fun _ => true) true Tryd.f4.params.toList args.toList ds p := hA0
  rw [Tryd.params4] at hA hval hsz
  obtain ⟨v0, vs0, d0, ds0, p0, q0, hargs, rfl, rfl, h0, r0⟩ := trodAll_cons hA
  obtain ⟨v1, vs1, d1, ds1, p1, q1, rfl, rfl, rfl, h1, r1⟩ := trodAll_cons r0
  obtain ⟨v2, vs2, d2, ds2, p2, q2, rfl, rfl, rfl, h2, r2⟩ := trodAll_cons r1
  obtain ⟨rfl, rfl, rfl⟩ := trodAll_nil r2
  obtain rfl : args = #[v0, v1, v2] := by cases args; simp_all
  obtain ⟨rfl, rfl⟩ := trodVars_none hV
  obtain ⟨a0, len0, cap0, rfl⟩ := okWide_slice Tryd.underlying29 (hval 0 29 v0 rfl rfl)
  have k0 := h0
  have lt0 : ∀ x ∈ p0, x.block < W.heap.size := by obtain ⟨m, hm⟩ := k0; exact DataW.trod_lt m _ _ _ hm
  obtain ⟨z0, w0⟩ : ∃ zs, IsRow .u8 W a0 len0 cap0 zs := by
    obtain ⟨fuel, hf⟩ := h0
    rcases open_ints Tryd.underlying29 Tryd.underlying5 (by kernel_rfl) hf with ⟨hcs, _⟩ | ⟨x, l, c, zs, hcs, _, hl, hm, hz, _, hcell, hwz⟩
    · simp [Value.cells] at hcs
      obtain ⟨rfl, rfl, rfl⟩ := hcs
      exact ⟨[], .inl ⟨rfl, rfl, rfl, rfl⟩⟩
    · simp [Value.cells] at hcs
      obtain ⟨rfl, rfl, rfl⟩ := hcs
      exact ⟨zs, .inr ⟨x, rfl, hl, hm, by rw [hz]; rfl, hcell, hwz⟩⟩
  have y0 : len0 * 1 ≤ 140737488351232 := Go.Proofs.YtfhjfidkcdcjnaaDoorW.PrintWords.sized_ints hsz (j := 0) (t := 29) rfl rfl Tryd.underlying29 Tryd.underlying5 (by kernel_rfl) (by kernel_rfl) k0
  obtain ⟨a1, len1, cap1, rfl⟩ := okWide_slice Tryd.underlying30 (hval 1 30 v1 rfl rfl)
  have k1 := h1
  have lt1 : ∀ x ∈ p1, x.block < W.heap.size := by obtain ⟨m, hm⟩ := k1; exact DataW.trod_lt m _ _ _ hm
  obtain ⟨z1, w1⟩ : ∃ ss, IsStrs W a1 len1 cap1 ss := by
    obtain ⟨fuel, hf⟩ := h1
    rcases open_strings Tryd.underlying30 Tryd.underlying9 (by kernel_rfl) hf with ⟨hcs, _⟩ | ⟨x, l, c, ss, hcs, _, hl, hm, hz, _, hcell, _⟩
    · simp [Value.cells] at hcs
      obtain ⟨rfl, rfl, rfl⟩ := hcs
      exact ⟨[], .inl ⟨rfl, rfl, rfl, rfl⟩⟩
    · simp [Value.cells] at hcs
      obtain ⟨rfl, rfl, rfl⟩ := hcs
      exact ⟨ss, .inr ⟨x, rfl, hl, hm, by rw [hz]; rfl, hcell⟩⟩
  obtain ⟨a2, rfl, rfl, rfl⟩ := open_bool Tryd.underlying4 (hval 2 4 v2 rfl rfl) h2
  clear hA0 hval0 hsz0 hsz
  refine (Q.flaillaw08_AttrsWritten.walk Pure.AttrsWritten a0 len0 cap0 z0 a1 len1 cap1 z1 a2 W hG w0 y0 w1).mono fun e W' ⟨he, bel⟩ => ?_
  subst he
  exact ⟨_, rfl, _, _, _, [], _, [], hW', trodAll_mk1 (shut_bool Tryd.underlying4 _), (trodAll_cons_mk (Below.trod laidOut (by kernel_rfl) (of_decide_eq_true (by kernel_rfl)) k0 bel lt0) (trodAll_cons_mk (Below.trod laidOut (by kernel_rfl) (of_decide_eq_true (by kernel_rfl)) k1 bel lt1) (trodAll_cons_mk (shut_bool Tryd.underlying4 _) trodAll_mk0))), rfl, bel.frame _, fun h => by cases h⟩
theorem over : Rows.attrsWrittenRow.holds Tryd.pinned (OpenSpec.ofChange Rows.attrsWrittenSpec) :=
  OpenClaim.holds_of_wide 4 Tryd.f4 rfl rfl rfl rfl rfl rfl rfl ⟨rfl, rfl, rfl, rfl, rfl⟩ rfl rfl rfl rfl rfl (by kernel_rfl) Tryd.func4 (by kernel_rfl)
    (of_decide_eq_true (by kernel_rfl)) (by unfold Func.isWrapper; first | (rw [if_pos (by decide +kernel)]; kernel_rfl) | (rw [if_neg (by decide +kernel)]; exact ⟨rfl, rfl⟩))
    (fun os started H enc _ => lifted os started H enc)
theorem proved : Rows.AttrsWrittenCardSaid :=
  Claim7.holds_tied_plain_at .later [] [.data, .data, .data, .data, .sentinel, .sentinel, .pinned] true Rows.attrsWrittenCard.stood.harness true over (fun _ h => by cases h) (by kernel_rfl) (fun _ h => by cases h) attrsWritten_row_tie rfl ⟨rfl, rfl⟩ (by kernel_rfl) rfl
    (card_in 4 Tryd.func4 (by kernel_rfl) [29, 30, 4] Tryd.params4 (by kernel_rfl) (by kernel_rfl)) (by kernel_rfl)
end Go.Proofs.YtfhjfidkcdcjnaaDoor.attrsWritten
namespace Go.Proofs.YtfhjfidkcdcjnaaDoor
theorem attrsWritten_holds : Rows.AttrsWrittenCardSaid := attrsWritten.proved
#print axioms attrsWritten_holds
end Go.Proofs.YtfhjfidkcdcjnaaDoor
