/- The law AttrsPlain, proved whole (for every input, as the given card says; no condition beyond it): its row and its card, and what they lean on. -/
import Derived.Test.YtfhjfidkcdcjnaaDoorB3
import Derived.Test.YtfhjfidkcdcjnaaDoorTie
import Derived.Test.YtfhjfidkcdcjnaaDoorCards
set_option linter.unusedVariables false
set_option linter.unusedSimpArgs false
set_option linter.unusedSectionVars false

/- Written attributes, and numbers in references: plain laws. No program in sight. -/
namespace Go.Proofs.YtfhjfidkcdcjnaaDoor.Fl
open Go
set_option linter.unusedVariables false
set_option linter.unusedSimpArgs false

/-! A number's digits. -/
def digF : Nat → Nat → Bs
  | 0, _ => []
  | f + 1, n => if n < 10 then [UInt8.ofNat (48 + n)] else digF f (n / 10) ++ [UInt8.ofNat (48 + n % 10)]
def digits (n : Nat) : Bs := digF (n + 1) n
theorem digF_same : ∀ (f g n : Nat), n < f → n < g → digF f n = digF g n := by
  intro f
  induction f with
  | zero => intro g n h; omega
  | succ f ih =>
    intro g n h1 h2
    obtain ⟨g, rfl⟩ : ∃ k, g = k + 1 := ⟨g - 1, by omega⟩
    unfold digF
    split
    · rfl
    · rw [ih g (n / 10) (by omega) (by omega)]
theorem digits_lt {n : Nat} (h : n < 10) : digits n = [UInt8.ofNat (48 + n)] := by
  unfold digits digF; rw [if_pos h]
theorem digits_ge {n : Nat} (h : ¬ n < 10) : digits n = digits (n / 10) ++ [UInt8.ofNat (48 + n % 10)] := by
  show digF (n + 1) n = _
  unfold digF; rw [if_neg h, digF_same n (n / 10 + 1) (n / 10) (by omega) (by omega)]; rfl
theorem digit_dig (d : Nat) (h : d < 10) : dig (UInt8.ofNat (48 + d)) = true ∧ hexv (UInt8.ofNat (48 + d)) = (d : Int) := by
  have := List.all_eq_true.1 (show ((List.range 10).all fun d => dig (UInt8.ofNat (48 + d)) && (hexv (UInt8.ofNat (48 + d)) == (d : Int))) = true by decide +kernel) d (List.mem_range.2 h)
  simpa using this
theorem digits_dig : ∀ (f n : Nat), n < f → ∀ c ∈ digits n, dig c = true := by
  intro f
  induction f with
  | zero => intro n h; omega
  | succ f ih =>
    intro n h c hc
    by_cases hn : n < 10
    · rw [digits_lt hn] at hc
      rw [List.mem_singleton.1 hc]; exact (digit_dig n hn).1
    · rw [digits_ge hn] at hc
      rcases List.mem_append.1 hc with hc | hc
      · exact ih (n / 10) (by omega) c hc
      · rw [List.mem_singleton.1 hc]; exact (digit_dig (n % 10) (by omega)).1
theorem digits_ne (n : Nat) : digits n ≠ [] := by
  by_cases hn : n < 10
  · rw [digits_lt hn]; simp
  · rw [digits_ge hn]; simp
theorem digits_len : ∀ (f n : Nat), n < f → n < 4294967296 → (digits n).length ≤ 10 := by
  intro f
  have key : ∀ (k n : Nat), n < 10 ^ (k + 1) → (digits n).length ≤ k + 1 := by
    intro k
    induction k with
    | zero => intro n h; rw [digits_lt (by omega)]; simp
    | succ k ih =>
      intro n h
      by_cases hn : n < 10
      · rw [digits_lt hn]; simp
      · rw [digits_ge hn, List.length_append]
        have := ih (n / 10) (by rw [Nat.pow_succ] at h; omega)
        simp; omega
  intro n _ h
  exact key 9 n (by omega)
theorem valTo_append (B : Nat) : ∀ (a : Bs) (n : Nat) (b : Bs), valTo B n (a ++ b) = (valTo B n a).bind fun m => valTo B m b
  | [], n, b => rfl
  | c :: a, n, b => by
    rw [List.cons_append]
    show (if hexv c < 0 ∨ (B : Int) ≤ hexv c then none else valTo B _ (a ++ b)) = (if hexv c < 0 ∨ (B : Int) ≤ hexv c then none else valTo B _ a).bind _
    split
    · rfl
    · exact valTo_append B a _ b
theorem valTo_one (n d : Nat) (h : d < 10) : valTo 10 n [UInt8.ofNat (48 + d)] = some (min (n * 10 + d) 1114112) := by
  have e := (digit_dig d h).2
  show (if hexv (UInt8.ofNat (48 + d)) < 0 ∨ ((10 : Nat) : Int) ≤ hexv (UInt8.ofNat (48 + d)) then none else some (min (n * 10 + (hexv (UInt8.ofNat (48 + d))).toNat) 1114112)) = _
  rw [e, if_neg (by omega), Int.toNat_natCast]
theorem digits_val : ∀ (f n : Nat), n < f → valTo 10 0 (digits n) = some (min n 1114112) := by
  intro f
  induction f with
  | zero => intro n h; omega
  | succ f ih =>
    intro n h
    by_cases hn : n < 10
    · rw [digits_lt hn, valTo_one 0 n hn]; simp
    · rw [digits_ge hn, valTo_append, ih (n / 10) (by omega)]
      simp only [Option.bind_some]
      rw [valTo_one _ _ (by omega)]
      congr 1
      omega
theorem while_all {p : UInt8 → Bool} {l : Bs} (h : ∀ c ∈ l, p c = true) : l.takeWhile p = l ∧ l.dropWhile p = [] := by
  have := all_app (p := p) (m := []) h (Hd.nil p)
  simpa using this
/-- A reference by a number, written with ten digits, and nothing behind it. -/
theorem decode_number (n : Nat) (hn : n < 4294967296) : decode true (38 :: 35 :: digits n) = toL (Q.fixB (min n 1114112 : Nat)) := by
  obtain ⟨x, r, hx⟩ : ∃ x r, digits n = x :: r := by
    cases h : digits n with
    | nil => exact absurd h (digits_ne n)
    | cons x r => exact ⟨x, r, rfl⟩
  have hd := digits_dig (n + 1) n (by omega)
  have hisx : isX x = false := by
    have hdx : dig x = true := hd x (by rw [hx]; simp)
    have := byteAll (fun c => !(dig c) || !(isX c)) (by decide +kernel) x
    rw [hdx] at this; simpa using this
  have hw := while_all (p := pdig false) (l := digits n) (fun c hc => by unfold pdig; rw [hd c hc]; rfl)
  have hnt : numTail false (digits n) = some (toL (Q.fixB (min n 1114112 : Nat)), (digits n).length) := by
    unfold numTail
    rw [hw.1]
    have hv : value (digits n) false = ((min n 1114112 : Nat) : Int) := by
      unfold value
      rw [if_neg (digits_ne n)]
      show (match valTo 10 0 (digits n) with | none => _ | some n => _) = _
      rw [digits_val (n + 1) n (by omega)]
    rw [hv, if_neg (by omega), List.drop_length]
    simp [semi]
  have hnr : numRead (35 :: digits n) = some (toL (Q.fixB (min n 1114112 : Nat)), (digits n).length + 1) := by
    unfold numRead
    simp only [if_true]
    rw [hx]
    simp only [hisx]
    rw [← hx, hnt]; rfl
  have hr : refRead true (35 :: digits n) = (toL (Q.fixB (min n 1114112 : Nat)), (digits n).length + 1) := by
    unfold refRead; rw [hnr]
  rw [decode_amp, hr]
  simp only [List.drop_succ_cons, List.drop_length, decode_nil, List.append_nil]
theorem encode_no0 (n : Int) (h0 : 0 < n) : ∀ d ∈ toL (Utf8.encode n), d ≠ 0 := by
  intro d hd
  unfold Utf8.encode at hd
  have hc : 0 < (if Utf8.valid n then n.toNat else Utf8.runeError) ∧ (if Utf8.valid n then n.toNat else Utf8.runeError) < 1114112 := by
    split
    · rename_i hv
      have : n ≤ 1114111 := by
        unfold Utf8.valid at hv
        simp at hv; omega
      omega
    · decide
  obtain ⟨c, hcc⟩ : ∃ c, (if Utf8.valid n then n.toNat else Utf8.runeError) = c := ⟨_, rfl⟩
  rw [hcc] at hd hc
  have hb : ∀ m : Nat, 0 < m → m < 256 → UInt8.ofNat m ≠ 0 := by
    intro m h1 h2 e
    have := congrArg UInt8.toNat e
    rw [UInt8.toNat_ofNat_of_lt' h2] at this
    have : (0 : UInt8).toNat = 0 := rfl
    omega
  dsimp only at hd
  split at hd
  · change d ∈ ([_] : Bs) at hd
    simp only [List.mem_cons, List.not_mem_nil, or_false] at hd
    subst hd; exact hb _ (by omega) (by omega)
  · split at hd
    · change d ∈ ([_, _] : Bs) at hd
      simp only [List.mem_cons, List.not_mem_nil, or_false] at hd
      rcases hd with rfl | rfl <;> exact hb _ (by omega) (by omega)
    · split at hd
      · change d ∈ ([_, _, _] : Bs) at hd
        simp only [List.mem_cons, List.not_mem_nil, or_false] at hd
        rcases hd with rfl | rfl | rfl <;> exact hb _ (by omega) (by omega)
      · change d ∈ ([_, _, _, _] : Bs) at hd
        simp only [List.mem_cons, List.not_mem_nil, or_false] at hd
        rcases hd with rfl | rfl | rfl | rfl <;> exact hb _ (by omega) (by omega)
theorem signB_no0 (n : Int) (h : n ≠ 0) : ∀ d ∈ toL (Q.signB n), d ≠ 0 := by
  unfold Q.signB
  split
  · intro d hd
    have hd' : d ∈ bad := hd
    simp [bad] at hd'; rcases hd' with rfl | rfl | rfl <;> decide
  · exact encode_no0 n (by omega)
theorem fixB_no0 (n : Int) : ∀ d ∈ toL (Q.fixB n), d ≠ 0 := by
  unfold Q.fixB
  split
  · intro d hd
    have hd' : d ∈ bad := hd
    simp [bad] at hd'; rcases hd' with rfl | rfl | rfl <;> decide
  · split
    · rename_i h
      apply signB_no0
      have := List.all_eq_true.1 (show ((List.range 32).all fun j => Q.fixTab.getD j 0 != 0) = true by decide +kernel) (n - 128).toNat (List.mem_range.2 (by omega))
      simpa using this
    · rename_i h _; exact signB_no0 n h
theorem fixB_out (n : Int) (h : 1114111 < n) : Q.fixB n = ofL bad := by
  unfold Q.fixB Q.signB
  rw [if_neg (by omega), if_neg (by omega), if_pos (by omega)]
theorem fixB_top (n : Nat) : Q.fixB ((min n 1114112 : Nat) : Int) = Q.fixB (n : Int) := by
  rcases Nat.lt_or_ge 1114112 n with h | h
  · rw [Nat.min_eq_right (by omega), fixB_out _ (by omega), fixB_out _ (by omega)]
  · rw [Nat.min_eq_left h]
theorem clean_none {l : Bs} (h : ∀ d ∈ l, d ≠ 0) : clean l = l := clean_same (List.count_eq_zero.2 fun hm => h 0 hm rfl)
/-- One attribute, written in quotes. -/
theorem readN_quoted (n : Nat) (nm v r : Bs) (q x : UInt8) (acc : List Att) (hx : nend [47, 62, 61] x = true) (hnm : ∀ c ∈ nm, nend [47, 62, 61] c = true) (hq : q = 34 ∨ q = 39) (hv : v.count q = 0) :
    readN (n + 1) (x :: nm ++ 61 :: q :: v ++ q :: r) acc = readN n r (add acc (clean (lower (x :: nm))) (clean (decode true v))) := by
  have hs : space x = false ∧ x ≠ 62 ∧ x ≠ 47 := by
    have := byteAll (fun x => !(nend [47, 62, 61] x) || (!(space x) && x != 62 && x != 47)) (by decide +kernel) x
    rw [hx] at this; simpa [and_assoc] using this
  have e := all_app (p := nend [47, 62, 61]) (m := 61 :: q :: v ++ q :: r) hnm (Hd.cons (by decide) _)
  rw [show x :: nm ++ 61 :: q :: v ++ q :: r = x :: (nm ++ (61 :: q :: v ++ q :: r)) by simp]
  conv => lhs; unfold readN
  rw [List.dropWhile_cons, hs.1]
  simp only [Bool.false_eq_true, if_false]
  rw [if_neg hs.2.1, if_neg hs.2.2, e.1, e.2]
  have hval : valueL (61 :: q :: v ++ q :: r) = some (v, r) := by
    unfold valueL
    rw [show (61 :: q :: v ++ q :: r : Bs) = 61 :: (q :: (v ++ q :: r)) by simp, List.dropWhile_cons, show space 61 = false from by decide]
    simp only [Bool.false_eq_true, if_false, if_true]
    rw [List.dropWhile_cons, show space q = false by rcases hq with rfl | rfl <;> decide]
    simp only [Bool.false_eq_true, if_false]
    unfold valueTo
    simp only
    rw [if_pos hq, quotedL_app hv]
  simp only [hval]

/-! A value without quotes. -/
def plainC (c : UInt8) : Bool := !(space c) && c != 62 && c != 34 && c != 39 && c != 38 && c != 0
theorem plain_nend (c : UInt8) (h : plainC c = true) : nend [62] c = true := by
  have := byteAll (fun c => !(plainC c) || nend [62] c) (by decide +kernel) c
  rw [h] at this; simpa using this
theorem plain_facts (c : UInt8) (h : plainC c = true) : space c = false ∧ c ≠ 62 ∧ c ≠ 34 ∧ c ≠ 39 ∧ c ≠ 38 ∧ c ≠ 0 := by
  unfold plainC at h
  simpa [and_assoc] using h
/-- A value of plain bytes, behind its name (one byte) and the sign '=' with n blanks behind it, ahead of m. -/
theorem readN_plain (n : Nat) (x : UInt8) (b1 b2 v m : Bs) (acc : List Att) (hx : nend [47, 62, 61] x = true) (hb1 : ∀ c ∈ b1, space c = true) (hb2 : ∀ c ∈ b2, space c = true) (hv : ∀ c ∈ v, plainC c = true) (hne : v ≠ []) (hm : Hd (nend [62]) m) :
    readN (n + 1) (x :: (b1 ++ 61 :: (b2 ++ (v ++ m)))) acc = readN n m (add acc (clean (lower [x])) v) := by
  have hs : space x = false ∧ x ≠ 62 ∧ x ≠ 47 := by
    have := byteAll (fun x => !(nend [47, 62, 61] x) || (!(space x) && x != 62 && x != 47)) (by decide +kernel) x
    rw [hx] at this; simpa [and_assoc] using this
  have hd : Hd (nend [47, 62, 61]) (b1 ++ 61 :: (b2 ++ (v ++ m))) := by
    cases b1 with
    | nil => exact Hd.cons (by decide) _
    | cons c b1 =>
      refine Hd.cons ?_ _
      unfold nend; rw [hb1 c (by simp)]; rfl
  have e := all_app (p := nend [47, 62, 61]) (a := []) (m := b1 ++ 61 :: (b2 ++ (v ++ m))) (by simp) hd
  rw [List.nil_append] at e
  conv => lhs; unfold readN
  rw [List.dropWhile_cons, hs.1]
  simp only [Bool.false_eq_true, if_false]
  rw [if_neg hs.2.1, if_neg hs.2.2, e.1, e.2]
  obtain ⟨y, t, rfl⟩ : ∃ y t, v = y :: t := by
    cases v with
    | nil => exact absurd rfl hne
    | cons y t => exact ⟨y, t, rfl⟩
  obtain ⟨p1, p2, p3, p4, p5, p6⟩ := plain_facts y (hv y (by simp))
  have hval : valueL (b1 ++ 61 :: (b2 ++ (y :: t ++ m))) = some (y :: t, m) := by
    unfold valueL
    have e1 := all_app (p := space) (a := b1) (m := 61 :: (b2 ++ (y :: t ++ m))) hb1 (Hd.cons (by decide) _)
    have e2 := all_app (p := space) (a := b2) (m := y :: t ++ m) hb2 (Hd.cons p1 _)
    rw [e1.2]
    simp only [if_true]
    rw [e2.2, List.cons_append]
    unfold valueTo
    simp only
    have e3 := all_app (p := nend [62]) (a := t) (m := m) (fun c hc => plain_nend c (hv c (by simp [hc]))) hm
    rw [if_neg (fun h => h.elim p3 p4), if_neg p2, e3.1, e3.2]
  simp only [hval]
  rw [decode_same true (y :: t) (List.count_eq_zero.2 fun hm => (plain_facts 38 (hv 38 hm)).2.2.2.2.1 rfl), clean_none (fun d hd => (plain_facts d (hv d hd)).2.2.2.2.2)]
/-- A name, with nothing behind it. -/
theorem readN_bare (n : Nat) (x : UInt8) (m : Bs) (acc : List Att) (hx : nend [47, 62, 61] x = true) :
    readN (n + 1) (x :: 62 :: m) acc = readN n (62 :: m) (add acc (clean (lower [x])) []) := by
  have hs : space x = false ∧ x ≠ 62 ∧ x ≠ 47 := by
    have := byteAll (fun x => !(nend [47, 62, 61] x) || (!(space x) && x != 62 && x != 47)) (by decide +kernel) x
    rw [hx] at this; simpa [and_assoc] using this
  conv => lhs; unfold readN
  rw [List.dropWhile_cons, hs.1]
  simp only [Bool.false_eq_true, if_false]
  rw [if_neg hs.2.1, if_neg hs.2.2, List.takeWhile_cons, List.dropWhile_cons, show nend [47, 62, 61] 62 = false from by decide]
  rfl
theorem readN_end (n : Nat) (m : Bs) (acc : List Att) : readN (n + 1) (62 :: m) acc = some (acc, false, m) := by
  unfold readN
  rw [List.dropWhile_cons, show space 62 = false from by decide]
  rfl
theorem readN_blank (n : Nat) (c : UInt8) (hc : space c = true) (l : Bs) (acc : List Att) : readN n (c :: l) acc = readN n l acc := by
  cases n with
  | zero => rfl
  | succ n => unfold readN; rw [List.dropWhile_cons, hc]; rfl
/-! Blanks, and strokes. -/
theorem readL_blank (l : Bs) : readL (32 :: l) = readL l := by
  rw [readL_eq (n := l.length + 2) (by simp), readN_blank _ 32 (by decide)]
  exact (readL_eq (by omega)).symm
theorem readL_stroke (l : Bs) : readL (32 :: 47 :: 10 :: l) = readL l := by
  rw [readL_eq (n := l.length + 5) (by simp), readN_blank _ 32 (by decide)]
  have : readN (l.length + 5) (47 :: 10 :: l) [] = readN (l.length + 4) (10 :: l) [] := by
    conv => lhs; unfold readN
    rw [List.dropWhile_cons, show space 47 = false from by decide]
    simp [headIs]
  rw [this, readN_blank _ 10 (by decide)]
  exact (readL_eq (by omega)).symm
def strokes : Nat → Bs
  | 0 => []
  | n + 1 => strokes n ++ [32, 47, 10]
theorem readL_strokes : ∀ (n : Nat) (l : Bs), readL (strokes n ++ l) = readL l
  | 0, l => rfl
  | n + 1, l => by
    show readL ((strokes n ++ [32, 47, 10]) ++ l) = _
    rw [List.append_assoc, readL_strokes n]
    exact readL_stroke l
theorem strokes_len (n : Nat) : (strokes n).length = 3 * n := by
  induction n with
  | zero => rfl
  | succ n ih => show (strokes n ++ [32, 47, 10]).length = _; rw [List.length_append, ih]; simp; omega
end Go.Proofs.YtfhjfidkcdcjnaaDoor.Fl

namespace Go.Proofs.YtfhjfidkcdcjnaaDoor.Q
open Go.RowKit Go.Proofs.YtfhjfidkcdcjnaaDoorW.PrintWords Go.Proofs.YtfhjfidkcdcjnaaDoorW.PrintLast Go.Proofs.YtfhjfidkcdcjnaaDoorW.PrintMore
attribute [local go_sem] max2_int min2_int max_two min_two max_three min_three max_four min_four   -- for this text's walks alone
set_option linter.unusedVariables false
set_option linter.unusedSimpArgs false

/-! ### flaillaw08_AttrsPlain: function 6 -/
mutual
noncomputable def flaillaw08_AttrsPlain.j0 : Nat → ByteArray → Bool → Bool → Option (Bool)
  | 0, _, _, _ => none
  | k + 1, x0, x3, x22 => if x22 = true then (some x3) else (flaillaw08_AttrsPlain.l0 k x0 x3 0)
noncomputable def flaillaw08_AttrsPlain.l0 : Nat → ByteArray → Bool → Int → Option (Bool)
  | 0, _, _, _ => none
  | k + 1, x0, x3, x4 => if x4 < (x0.size : Int) then (if 0 ≤ x4 then (if (bt x0 x4) = 32 then (some x3) else (if (bt x0 x4) = 9 then (some x3) else (if (bt x0 x4) = 10 then (some x3) else (if (bt x0 x4) = 12 then (some x3) else (if (bt x0 x4) = 62 then (some x3) else (if (bt x0 x4) = 34 then (some x3) else (if (bt x0 x4) = 39 then (some x3) else (if (bt x0 x4) = 38 then (some x3) else (if (bt x0 x4) = 0 then (some x3) else (flaillaw08_AttrsPlain.l0 k x0 x3 (wrap64 (x4 + 1)))))))))))) else (none)) else (if 2 + x0.size ≤ 9223372036854775807 then (if ((⟨#[117, 61]⟩ : ByteArray) ++ x0).size + 1 ≤ 9223372036854775807 then ((attrs_Read.f (((⟨#[117, 61]⟩ : ByteArray) ++ x0) ++ (⟨#[62]⟩ : ByteArray)) 0).bind fun bt228 => (if 4 + x0.size ≤ 9223372036854775807 then (if ((⟨#[117, 32, 61, 32]⟩ : ByteArray) ++ x0).size + 3 ≤ 9223372036854775807 then ((attrs_Read.f (((⟨#[117, 32, 61, 32]⟩ : ByteArray) ++ x0) ++ (⟨#[32, 119, 62]⟩ : ByteArray)) 0).bind fun bt234 => (if x3 = true then (if bt228.2.2.2 = true then (if bt234.2.2.2 = true then (if bt228.2.1 = true then (some false) else (if bt234.2.1 = true then (some false) else (if bt228.2.2.1 = (wrap64 ((x0.size : Int) + 3)) then (if bt234.2.2.1 = (wrap64 ((x0.size : Int) + 7)) then ((flailref08_Same.f k bt228.1 (([(⟨(⟨#[117]⟩ : ByteArray), x0⟩ : S27)] : List (S27)))).bind fun t243 => (if t243 = true then ((flailref08_Same.f k bt234.1 (([(⟨(⟨#[117]⟩ : ByteArray), x0⟩ : S27), (⟨(⟨#[119]⟩ : ByteArray), (⟨#[]⟩ : ByteArray)⟩ : S27)] : List (S27)))).bind fun t247 => (some t247)) else (some false))) else (some false)) else (some false)))) else (some false)) else (some false)) else (some false))) else (none)) else (none))) else (none)) else (none))
end
noncomputable def flaillaw08_AttrsPlain.f (k : Nat) (a0 : ByteArray) : Option (Bool) := (flaillaw08_awake.f k).bind fun t227 => (if (a0.size : Int) > 60 then (flaillaw08_AttrsPlain.j0 k a0 t227 true) else (flaillaw08_AttrsPlain.j0 k a0 t227 ((a0.size : Int) == 0)))
theorem flaillaw08_AttrsPlain.mono_l : ∀ k, (∀ y0 y1 y2, LeO (flaillaw08_AttrsPlain.j0 k y0 y1 y2) (flaillaw08_AttrsPlain.j0 (k + 1) y0 y1 y2)) ∧ (∀ y0 y1 y2, LeO (flaillaw08_AttrsPlain.l0 k y0 y1 y2) (flaillaw08_AttrsPlain.l0 (k + 1) y0 y1 y2))
  | 0 => ⟨fun _ _ _ r h => by simp [flaillaw08_AttrsPlain.j0] at h, fun _ _ _ r h => by simp [flaillaw08_AttrsPlain.l0] at h⟩
  | k + 1 => by
    obtain ⟨ih0, ih1⟩ := flaillaw08_AttrsPlain.mono_l k
    refine ⟨?_, ?_⟩
    · intro y0 y1 y2
      unfold flaillaw08_AttrsPlain.j0
      repeat' first
      | (with_reducible exact ih0 _ _ _)
      | (with_reducible exact ih1 _ _ _)
      | (with_reducible exact flaillaw08_awake.mono _)
      | (with_reducible exact flailref08_Same.mono _ _ _)
      | (with_reducible exact LeO.refl _)
      | (with_reducible exact LeO.none _)
      | (with_reducible refine LeO.ite ?_ ?_)
      | (with_reducible refine LeO.bind ?_ (fun _ => ?_))
      | exact ih0 _ _ _
      | exact ih1 _ _ _
      | exact flaillaw08_awake.mono _
      | exact flailref08_Same.mono _ _ _
      | exact LeO.none _
      | refine LeO.ite ?_ ?_
      | refine LeO.bind ?_ (fun _ => ?_)
    · intro y0 y1 y2
      unfold flaillaw08_AttrsPlain.l0
      repeat' first
      | (with_reducible exact ih0 _ _ _)
      | (with_reducible exact ih1 _ _ _)
      | (with_reducible exact flaillaw08_awake.mono _)
      | (with_reducible exact flailref08_Same.mono _ _ _)
      | (with_reducible exact LeO.refl _)
      | (with_reducible exact LeO.none _)
      | (with_reducible refine LeO.ite ?_ ?_)
      | (with_reducible refine LeO.bind ?_ (fun _ => ?_))
      | exact ih0 _ _ _
      | exact ih1 _ _ _
      | exact flaillaw08_awake.mono _
      | exact flailref08_Same.mono _ _ _
      | exact LeO.none _
      | refine LeO.ite ?_ ?_
      | refine LeO.bind ?_ (fun _ => ?_)
theorem flaillaw08_AttrsPlain.mono : ∀ a0 k, LeO (flaillaw08_AttrsPlain.f k a0) (flaillaw08_AttrsPlain.f (k + 1) a0) := by
  intro a0 k
  obtain ⟨ih0, ih1⟩ := flaillaw08_AttrsPlain.mono_l k
  unfold flaillaw08_AttrsPlain.f
  repeat' first
      | (with_reducible exact ih0 _ _ _)
      | (with_reducible exact ih1 _ _ _)
      | (with_reducible exact flaillaw08_awake.mono _)
      | (with_reducible exact flailref08_Same.mono _ _ _)
      | (with_reducible exact LeO.refl _)
      | (with_reducible exact LeO.none _)
      | (with_reducible refine LeO.ite ?_ ?_)
      | (with_reducible refine LeO.bind ?_ (fun _ => ?_))
      | exact ih0 _ _ _
      | exact ih1 _ _ _
      | exact flaillaw08_awake.mono _
      | exact flailref08_Same.mono _ _ _
      | exact LeO.none _
      | refine LeO.ite ?_ ?_
      | refine LeO.bind ?_ (fun _ => ?_)
set_option maxHeartbeats 8000000 in
set_option maxRecDepth 100000 in
theorem flaillaw08_AttrsPlain.calls (k : Nat) (a0 : ByteArray) (r : Bool) (w : World) (hG : Gl w) (h : flaillaw08_AttrsPlain.f k a0 = some r) :
    Calls Tryd.prog 6 #[.string a0] w fun e w' => e = .returned (.bool r) ∧ Below w.heap.size w w' := by
  have hu27 := Tryd.underlying27
  have HB := Aside0.mk (Below.refl w.heap.size w)
  have HG := Aside0.mk hG
  clear hG
  have H : ((flaillaw08_awake.f k).bind fun t227 => (if (a0.size : Int) > 60 then (flaillaw08_AttrsPlain.j0 k a0 t227 true) else (flaillaw08_AttrsPlain.j0 k a0 t227 ((a0.size : Int) == 0)))) = some r := h
  clear h
  replace H := Option.bind_eq_some_iff.mp H
  obtain ⟨t227, A20, H⟩ := H
  replace H : (if (a0.size : Int) > 60 then (flaillaw08_AttrsPlain.j0 k a0 t227 true) else (flaillaw08_AttrsPlain.j0 k a0 t227 ((a0.size : Int) == 0))) = some r := H
  have A2 := Aside0.mk A20
  clear A20
  have HC3 := Aside0.mk H
  clear H
  go_enter Tryd.func6, Tryd.ntmps6
  go_upto_region 2 with (first | ((with_reducible refine gate_callee (f := 12) rfl ?_); refine goesL_ (some 14) rfl rfl Tryd.func12 (by kernel_rfl) rfl #[] rfl (by (try simp only [List.map_toArray, List.map_cons, List.map_nil]); first | done | rfl | (simp only [List.length_drop, List.length_take]; rfl)) ?_; (with_reducible refine (flaillaw08_awake.calls k  t227 _ ?side1 A2.out).mono ?_); (case side1 => first | (with_reducible exact HG.out) | exact Gl.below HG.out (by repeat (first | (with_reducible first | exact HB.out | apply below_alloc | apply pw_below_drewN | apply below_drew1) | exact HB.out)) | exact HG.out); rintro e w4 ⟨rfl, hb⟩; refine ⟨_, rfl, ?_⟩; have n0_ := Aside0.mk (below_step (by repeat (first | (with_reducible first | exact HB.out | apply below_alloc | apply pw_below_drewN | apply below_drew1) | exact HB.out)) hb); clear HB; have HB := n0_; clear n0_; (try clear hb); (try clear hb2); (try clear hk); (try clear hi)))
  (try simp only [Act.put, List.setIfInBounds_toArray, List.set_cons_zero, List.set_cons_succ])
  go_cut [22] (fun v22 wc => ∃ (kq : Nat) (x22_2 : Bool), v22 = .bool x22_2 ∧ Aside0 (flaillaw08_AttrsPlain.j0 kq a0 t227 x22_2 = some r) ∧ Aside0 (kq ≤ k) ∧ Aside0 (Below w.heap.size w wc))
  case first =>
    have H := HC3.out
    clear HC3
    by_cases c5 : (a0.size : Int) > 60
    · rw [if_pos c5] at H
      have c5b0 : decide (60 < (a0.size : Int)) = true := decide_eq_true c5
      have c5b1 : decide (60 < a0.size) = true := decide_eq_true (by omega)
      clear c5
      (first | rw [c5b0] | (simp only [i64_w, i32_w]; rw [c5b0]) | skip)
      have H' := Aside0.mk H
      clear H
      go_wp2
      go_meet
      case rel => exact ⟨_, (true), (by first | rfl | (simp; done) | (simp [*]; done)), H', ⟨by first | omega | exact Nat.le_refl _⟩, ⟨by repeat (first | (with_reducible first | exact HB.out | apply below_alloc | apply pw_below_drewN | apply below_drew1) | exact HB.out)⟩⟩
    · rw [if_neg c5] at H
      have c5b0 : decide (60 < (a0.size : Int)) = false := decide_eq_false c5
      have c5b1 : decide (60 < a0.size) = false := decide_eq_false (by omega)
      clear c5
      (first | rw [c5b0] | (simp only [i64_w, i32_w]; rw [c5b0]) | skip)
      have H' := Aside0.mk H
      clear H
      go_wp2
      go_meet
      case rel => exact ⟨_, (((a0.size : Int) == 0)), (by first | rfl | (simp; done) | (simp [*]; done)), H', ⟨by first | omega | exact Nat.le_refl _⟩, ⟨by repeat (first | (with_reducible first | exact HB.out | apply below_alloc | apply pw_below_drewN | apply below_drew1) | exact HB.out)⟩⟩
  case rest =>
    clear HC3
    try clear c1
    try clear p2
    try clear c5
    try clear c5b0
    try clear c5b1
    obtain ⟨kq, x22_2, rfl, HA, HJ2, HB⟩ := hcut
    cases kq with
    | zero => exact absurd HA.out (by simp [flaillaw08_AttrsPlain.j0])
    | succ kj2 =>
      have H := HA.out
      clear HA
      simp only [flaillaw08_AttrsPlain.j0] at H
      by_cases c6 : x22_2 = true
      · subst c6
        have H1 : (some t227) = some r := by rw [if_pos rfl] at H; exact H
        clear H
        have H := H1
        clear H1
        obtain rfl := Option.some.inj H
        go_wp2
        go_ret
        exact ⟨by first | rfl | (simp [errW_none, errW_some] <;> rfl) | (simp [*, errW_none, errW_some] <;> rfl), by repeat (first | (with_reducible first | exact HB.out | apply below_alloc | apply pw_below_drewN | apply below_drew1) | exact HB.out)⟩
      · replace c6 := Bool.eq_false_iff.mpr c6
        subst c6
        have H1 : (flaillaw08_AttrsPlain.l0 kj2 a0 t227 0) = some r := by rw [if_neg (show ¬ (false = true) by decide)] at H; exact H
        clear H
        have H := H1
        clear H1
        have H' := Aside0.mk H
        clear H
        go_wp2
        go_loopg [4] kj2 (fun kq v4 w' => ∃ (x4_2 : Int), v4 = .int .i64 x4_2 ∧ Aside0 (flaillaw08_AttrsPlain.l0 kq a0 t227 x4_2 = some r) ∧ Aside0 (kq ≤ kj2) ∧ Aside0 (Below w.heap.size w w'))
        case atStart => exact ⟨(0), (by first | rfl | (simp; done) | (simp [*]; done)), H', ⟨Nat.le_refl _⟩, ⟨by repeat (first | (with_reducible first | exact HB.out | apply below_alloc | apply pw_below_drewN | apply below_drew1) | exact HB.out)⟩⟩
        case round =>
          clear H'
          try clear c1
          try clear p2
          try clear c5
          try clear c5b0
          try clear c5b1
          try clear c6
          try clear p2
          obtain ⟨x4_2, rfl, HA, HK2, HB⟩ := hrel
          cases gk with
          | zero => exact absurd HA.out (by simp [flaillaw08_AttrsPlain.l0])
          | succ k2 =>
            have H := HA.out
            clear HA
            simp only [flaillaw08_AttrsPlain.l0] at H
            by_cases c7 : x4_2 < (a0.size : Int)
            · rw [if_pos c7] at H
              have c7b0 : decide (x4_2 < (a0.size : Int)) = true := decide_eq_true c7
              clear c7
              by_cases c8 : 0 ≤ x4_2
              · rw [if_pos c8] at H
                have c8b0 : decide (0 ≤ x4_2) = true := decide_eq_true c8
                clear c8
                by_cases c10 : (bt a0 x4_2) = 32
                · rw [if_pos c10] at H
                  have c10b0 : ((bt a0 x4_2) == 32) = true := beq_iff_eq.mpr c10
                  have c10b1 : ((bt a0 x4_2) != 32) = false := bne_eq_false_iff_eq.mpr c10
                  clear c10
                  obtain rfl := Option.some.inj H
                  have p9 : 0 ≤ (x4_2 : Int) := of_decide_eq_true (by first | (with_reducible assumption) | assumption)
                  have q9 : x4_2 < (a0.size : Int) := of_decide_eq_true (by first | (with_reducible assumption) | assumption)
                  have hx9 := bt_at a0 x4_2
                  replace p9 := eq_true p9
                  replace q9 := eq_true q9
                  go_wp2
                  go_ret
                  exact ⟨by first | rfl | (simp [errW_none, errW_some] <;> rfl) | (simp [*, errW_none, errW_some] <;> rfl), by repeat (first | (with_reducible first | exact HB.out | apply below_alloc | apply pw_below_drewN | apply below_drew1) | exact HB.out)⟩
                · rw [if_neg c10] at H
                  have c10b0 : ((bt a0 x4_2) == 32) = false := beq_eq_false_iff_ne.mpr c10
                  have c10b1 : ((bt a0 x4_2) != 32) = true := bne_iff_ne.mpr c10
                  by_cases c11 : (bt a0 x4_2) = 9
                  · rw [if_pos c11] at H
                    have c11b0 : ((bt a0 x4_2) == 9) = true := beq_iff_eq.mpr c11
                    have c11b1 : ((bt a0 x4_2) != 9) = false := bne_eq_false_iff_eq.mpr c11
                    clear c11
                    obtain rfl := Option.some.inj H
                    have p9 : 0 ≤ (x4_2 : Int) := of_decide_eq_true (by first | (with_reducible assumption) | assumption)
                    have q9 : x4_2 < (a0.size : Int) := of_decide_eq_true (by first | (with_reducible assumption) | assumption)
                    have hx9 := bt_at a0 x4_2
                    replace p9 := eq_true p9
                    replace q9 := eq_true q9
                    go_wp2
                    go_ret
                    exact ⟨by first | rfl | (simp [errW_none, errW_some] <;> rfl) | (simp [*, errW_none, errW_some] <;> rfl), by repeat (first | (with_reducible first | exact HB.out | apply below_alloc | apply pw_below_drewN | apply below_drew1) | exact HB.out)⟩
                  · rw [if_neg c11] at H
                    have c11b0 : ((bt a0 x4_2) == 9) = false := beq_eq_false_iff_ne.mpr c11
                    have c11b1 : ((bt a0 x4_2) != 9) = true := bne_iff_ne.mpr c11
                    by_cases c12 : (bt a0 x4_2) = 10
                    · rw [if_pos c12] at H
                      have c12b0 : ((bt a0 x4_2) == 10) = true := beq_iff_eq.mpr c12
                      have c12b1 : ((bt a0 x4_2) != 10) = false := bne_eq_false_iff_eq.mpr c12
                      clear c12
                      obtain rfl := Option.some.inj H
                      have p9 : 0 ≤ (x4_2 : Int) := of_decide_eq_true (by first | (with_reducible assumption) | assumption)
                      have q9 : x4_2 < (a0.size : Int) := of_decide_eq_true (by first | (with_reducible assumption) | assumption)
                      have hx9 := bt_at a0 x4_2
                      replace p9 := eq_true p9
                      replace q9 := eq_true q9
                      go_wp2
                      go_ret
                      exact ⟨by first | rfl | (simp [errW_none, errW_some] <;> rfl) | (simp [*, errW_none, errW_some] <;> rfl), by repeat (first | (with_reducible first | exact HB.out | apply below_alloc | apply pw_below_drewN | apply below_drew1) | exact HB.out)⟩
                    · rw [if_neg c12] at H
                      have c12b0 : ((bt a0 x4_2) == 10) = false := beq_eq_false_iff_ne.mpr c12
                      have c12b1 : ((bt a0 x4_2) != 10) = true := bne_iff_ne.mpr c12
                      by_cases c13 : (bt a0 x4_2) = 12
                      · rw [if_pos c13] at H
                        have c13b0 : ((bt a0 x4_2) == 12) = true := beq_iff_eq.mpr c13
                        have c13b1 : ((bt a0 x4_2) != 12) = false := bne_eq_false_iff_eq.mpr c13
                        clear c13
                        obtain rfl := Option.some.inj H
                        have p9 : 0 ≤ (x4_2 : Int) := of_decide_eq_true (by first | (with_reducible assumption) | assumption)
                        have q9 : x4_2 < (a0.size : Int) := of_decide_eq_true (by first | (with_reducible assumption) | assumption)
                        have hx9 := bt_at a0 x4_2
                        replace p9 := eq_true p9
                        replace q9 := eq_true q9
                        go_wp2
                        go_ret
                        exact ⟨by first | rfl | (simp [errW_none, errW_some] <;> rfl) | (simp [*, errW_none, errW_some] <;> rfl), by repeat (first | (with_reducible first | exact HB.out | apply below_alloc | apply pw_below_drewN | apply below_drew1) | exact HB.out)⟩
                      · rw [if_neg c13] at H
                        have c13b0 : ((bt a0 x4_2) == 12) = false := beq_eq_false_iff_ne.mpr c13
                        have c13b1 : ((bt a0 x4_2) != 12) = true := bne_iff_ne.mpr c13
                        by_cases c14 : (bt a0 x4_2) = 62
                        · rw [if_pos c14] at H
                          have c14b0 : ((bt a0 x4_2) == 62) = true := beq_iff_eq.mpr c14
                          have c14b1 : ((bt a0 x4_2) != 62) = false := bne_eq_false_iff_eq.mpr c14
                          clear c14
                          obtain rfl := Option.some.inj H
                          have p9 : 0 ≤ (x4_2 : Int) := of_decide_eq_true (by first | (with_reducible assumption) | assumption)
                          have q9 : x4_2 < (a0.size : Int) := of_decide_eq_true (by first | (with_reducible assumption) | assumption)
                          have hx9 := bt_at a0 x4_2
                          replace p9 := eq_true p9
                          replace q9 := eq_true q9
                          go_wp2
                          go_ret
                          exact ⟨by first | rfl | (simp [errW_none, errW_some] <;> rfl) | (simp [*, errW_none, errW_some] <;> rfl), by repeat (first | (with_reducible first | exact HB.out | apply below_alloc | apply pw_below_drewN | apply below_drew1) | exact HB.out)⟩
                        · rw [if_neg c14] at H
                          have c14b0 : ((bt a0 x4_2) == 62) = false := beq_eq_false_iff_ne.mpr c14
                          have c14b1 : ((bt a0 x4_2) != 62) = true := bne_iff_ne.mpr c14
                          by_cases c15 : (bt a0 x4_2) = 34
                          · rw [if_pos c15] at H
                            have c15b0 : ((bt a0 x4_2) == 34) = true := beq_iff_eq.mpr c15
                            have c15b1 : ((bt a0 x4_2) != 34) = false := bne_eq_false_iff_eq.mpr c15
                            clear c15
                            obtain rfl := Option.some.inj H
                            have p9 : 0 ≤ (x4_2 : Int) := of_decide_eq_true (by first | (with_reducible assumption) | assumption)
                            have q9 : x4_2 < (a0.size : Int) := of_decide_eq_true (by first | (with_reducible assumption) | assumption)
                            have hx9 := bt_at a0 x4_2
                            replace p9 := eq_true p9
                            replace q9 := eq_true q9
                            go_wp2
                            go_ret
                            exact ⟨by first | rfl | (simp [errW_none, errW_some] <;> rfl) | (simp [*, errW_none, errW_some] <;> rfl), by repeat (first | (with_reducible first | exact HB.out | apply below_alloc | apply pw_below_drewN | apply below_drew1) | exact HB.out)⟩
                          · rw [if_neg c15] at H
                            have c15b0 : ((bt a0 x4_2) == 34) = false := beq_eq_false_iff_ne.mpr c15
                            have c15b1 : ((bt a0 x4_2) != 34) = true := bne_iff_ne.mpr c15
                            by_cases c16 : (bt a0 x4_2) = 39
                            · rw [if_pos c16] at H
                              have c16b0 : ((bt a0 x4_2) == 39) = true := beq_iff_eq.mpr c16
                              have c16b1 : ((bt a0 x4_2) != 39) = false := bne_eq_false_iff_eq.mpr c16
                              clear c16
                              obtain rfl := Option.some.inj H
                              have p9 : 0 ≤ (x4_2 : Int) := of_decide_eq_true (by first | (with_reducible assumption) | assumption)
                              have q9 : x4_2 < (a0.size : Int) := of_decide_eq_true (by first | (with_reducible assumption) | assumption)
                              have hx9 := bt_at a0 x4_2
                              replace p9 := eq_true p9
                              replace q9 := eq_true q9
                              go_wp2
                              go_ret
                              exact ⟨by first | rfl | (simp [errW_none, errW_some] <;> rfl) | (simp [*, errW_none, errW_some] <;> rfl), by repeat (first | (with_reducible first | exact HB.out | apply below_alloc | apply pw_below_drewN | apply below_drew1) | exact HB.out)⟩
                            · rw [if_neg c16] at H
                              have c16b0 : ((bt a0 x4_2) == 39) = false := beq_eq_false_iff_ne.mpr c16
                              have c16b1 : ((bt a0 x4_2) != 39) = true := bne_iff_ne.mpr c16
                              by_cases c17 : (bt a0 x4_2) = 38
                              · rw [if_pos c17] at H
                                have c17b0 : ((bt a0 x4_2) == 38) = true := beq_iff_eq.mpr c17
                                have c17b1 : ((bt a0 x4_2) != 38) = false := bne_eq_false_iff_eq.mpr c17
                                clear c17
                                obtain rfl := Option.some.inj H
                                have p9 : 0 ≤ (x4_2 : Int) := of_decide_eq_true (by first | (with_reducible assumption) | assumption)
                                have q9 : x4_2 < (a0.size : Int) := of_decide_eq_true (by first | (with_reducible assumption) | assumption)
                                have hx9 := bt_at a0 x4_2
                                replace p9 := eq_true p9
                                replace q9 := eq_true q9
                                go_wp2
                                go_ret
                                exact ⟨by first | rfl | (simp [errW_none, errW_some] <;> rfl) | (simp [*, errW_none, errW_some] <;> rfl), by repeat (first | (with_reducible first | exact HB.out | apply below_alloc | apply pw_below_drewN | apply below_drew1) | exact HB.out)⟩
                              · rw [if_neg c17] at H
                                have c17b0 : ((bt a0 x4_2) == 38) = false := beq_eq_false_iff_ne.mpr c17
                                have c17b1 : ((bt a0 x4_2) != 38) = true := bne_iff_ne.mpr c17
                                by_cases c18 : (bt a0 x4_2) = 0
                                · rw [if_pos c18] at H
                                  have c18b0 : ((bt a0 x4_2) == 0) = true := beq_iff_eq.mpr c18
                                  have c18b1 : ((bt a0 x4_2) != 0) = false := bne_eq_false_iff_eq.mpr c18
                                  clear c18
                                  obtain rfl := Option.some.inj H
                                  have p9 : 0 ≤ (x4_2 : Int) := of_decide_eq_true (by first | (with_reducible assumption) | assumption)
                                  have q9 : x4_2 < (a0.size : Int) := of_decide_eq_true (by first | (with_reducible assumption) | assumption)
                                  have hx9 := bt_at a0 x4_2
                                  replace p9 := eq_true p9
                                  replace q9 := eq_true q9
                                  go_wp2
                                  go_ret
                                  exact ⟨by first | rfl | (simp [errW_none, errW_some] <;> rfl) | (simp [*, errW_none, errW_some] <;> rfl), by repeat (first | (with_reducible first | exact HB.out | apply below_alloc | apply pw_below_drewN | apply below_drew1) | exact HB.out)⟩
                                · rw [if_neg c18] at H
                                  have c18b0 : ((bt a0 x4_2) == 0) = false := beq_eq_false_iff_ne.mpr c18
                                  have c18b1 : ((bt a0 x4_2) != 0) = true := bne_iff_ne.mpr c18
                                  have H' := Aside0.mk H
                                  clear H
                                  have p9 : 0 ≤ (x4_2 : Int) := of_decide_eq_true (by first | (with_reducible assumption) | assumption)
                                  have q9 : x4_2 < (a0.size : Int) := of_decide_eq_true (by first | (with_reducible assumption) | assumption)
                                  have hx9 := bt_at a0 x4_2
                                  replace p9 := eq_true p9
                                  replace q9 := eq_true q9
                                  go_wp2
                                  go_roundg k2
                                  case measure => have := HJ2.out; have := HK2.out; omega
                                  case rel => exact ⟨(wrap64 (x4_2 + 1)), (by first | rfl | (simp; done) | (simp [*]; done)), H', ⟨by have := HJ2.out; have := HK2.out; omega⟩, ⟨by repeat (first | (with_reducible first | exact HB.out | apply below_alloc | apply pw_below_drewN | apply below_drew1) | exact HB.out)⟩⟩
              · rw [if_neg c8] at H
                exact absurd H (by simp)
            · rw [if_neg c7] at H
              have c7b0 : decide (x4_2 < (a0.size : Int)) = false := decide_eq_false c7
              clear c7
              by_cases c19 : 2 + a0.size ≤ 9223372036854775807
              · rw [if_pos c19] at H
                have c19b0 := eq_true c19
                have c19b1 : decide (2 + a0.size ≤ 9223372036854775807) = true := decide_eq_true c19
                try have c19b2 : (9223372036854775807 < 2 + a0.size) = False := eq_false (Nat.not_lt.2 c19)
                by_cases c20 : ((⟨#[117, 61]⟩ : ByteArray) ++ a0).size + 1 ≤ 9223372036854775807
                · rw [if_pos c20] at H
                  have c20b0 := eq_true c20
                  have c20b1 : decide (((⟨#[117, 61]⟩ : ByteArray) ++ a0).size + 1 ≤ 9223372036854775807) = true := decide_eq_true c20
                  try have c20b2 : (9223372036854775807 < ((⟨#[117, 61]⟩ : ByteArray) ++ a0).size + 1) = False := eq_false (Nat.not_lt.2 c20)
                  (try (have c20b3 : (9223372036854775807 < (2 + a0.size) + 1) = False := eq_false (Nat.not_lt.2 (by have h_ := c20; simp only [ByteArray.size_append] at h_; exact h_))))
                  (try (have c20b4 : ((2 + a0.size) + 1 ≤ 9223372036854775807) = True := eq_true (by have h_ := c20; simp only [ByteArray.size_append] at h_; exact h_)))
                  (try (have c20b5 : decide ((2 + a0.size) + 1 ≤ 9223372036854775807) = true := decide_eq_true (by have h_ := c20; simp only [ByteArray.size_append] at h_; exact h_)))
                  replace H := Option.bind_eq_some_iff.mp H
                  obtain ⟨⟨t228, t229, t230, t231⟩, A210, H⟩ := H
                  replace H : (if 4 + a0.size ≤ 9223372036854775807 then (if ((⟨#[117, 32, 61, 32]⟩ : ByteArray) ++ a0).size + 3 ≤ 9223372036854775807 then ((attrs_Read.f (((⟨#[117, 32, 61, 32]⟩ : ByteArray) ++ a0) ++ (⟨#[32, 119, 62]⟩ : ByteArray)) 0).bind fun bt234 => (if t227 = true then (if t231 = true then (if bt234.2.2.2 = true then (if t229 = true then (some false) else (if bt234.2.1 = true then (some false) else (if t230 = (wrap64 ((a0.size : Int) + 3)) then (if bt234.2.2.1 = (wrap64 ((a0.size : Int) + 7)) then ((flailref08_Same.f k2 t228 (([(⟨(⟨#[117]⟩ : ByteArray), a0⟩ : S27)] : List (S27)))).bind fun t243 => (if t243 = true then ((flailref08_Same.f k2 bt234.1 (([(⟨(⟨#[117]⟩ : ByteArray), a0⟩ : S27), (⟨(⟨#[119]⟩ : ByteArray), (⟨#[]⟩ : ByteArray)⟩ : S27)] : List (S27)))).bind fun t247 => (some t247)) else (some false))) else (some false)) else (some false)))) else (some false)) else (some false)) else (some false))) else (none)) else (none)) = some r := H
                  have A21 := Aside0.mk A210
                  clear A210
                  by_cases c22 : 4 + a0.size ≤ 9223372036854775807
                  · rw [if_pos c22] at H
                    have c22b0 := eq_true c22
                    have c22b1 : decide (4 + a0.size ≤ 9223372036854775807) = true := decide_eq_true c22
                    try have c22b2 : (9223372036854775807 < 4 + a0.size) = False := eq_false (Nat.not_lt.2 c22)
                    by_cases c23 : ((⟨#[117, 32, 61, 32]⟩ : ByteArray) ++ a0).size + 3 ≤ 9223372036854775807
                    · rw [if_pos c23] at H
                      have c23b0 := eq_true c23
                      have c23b1 : decide (((⟨#[117, 32, 61, 32]⟩ : ByteArray) ++ a0).size + 3 ≤ 9223372036854775807) = true := decide_eq_true c23
                      try have c23b2 : (9223372036854775807 < ((⟨#[117, 32, 61, 32]⟩ : ByteArray) ++ a0).size + 3) = False := eq_false (Nat.not_lt.2 c23)
                      (try (have c23b3 : (9223372036854775807 < (4 + a0.size) + 3) = False := eq_false (Nat.not_lt.2 (by have h_ := c23; simp only [ByteArray.size_append] at h_; exact h_))))
                      (try (have c23b4 : ((4 + a0.size) + 3 ≤ 9223372036854775807) = True := eq_true (by have h_ := c23; simp only [ByteArray.size_append] at h_; exact h_)))
                      (try (have c23b5 : decide ((4 + a0.size) + 3 ≤ 9223372036854775807) = true := decide_eq_true (by have h_ := c23; simp only [ByteArray.size_append] at h_; exact h_)))
                      replace H := Option.bind_eq_some_iff.mp H
                      obtain ⟨⟨t234, t235, t236, t237⟩, A240, H⟩ := H
                      replace H : (if t227 = true then (if t231 = true then (if t237 = true then (if t229 = true then (some false) else (if t235 = true then (some false) else (if t230 = (wrap64 ((a0.size : Int) + 3)) then (if t236 = (wrap64 ((a0.size : Int) + 7)) then ((flailref08_Same.f k2 t228 (([(⟨(⟨#[117]⟩ : ByteArray), a0⟩ : S27)] : List (S27)))).bind fun t243 => (if t243 = true then ((flailref08_Same.f k2 t234 (([(⟨(⟨#[117]⟩ : ByteArray), a0⟩ : S27), (⟨(⟨#[119]⟩ : ByteArray), (⟨#[]⟩ : ByteArray)⟩ : S27)] : List (S27)))).bind fun t247 => (some t247)) else (some false))) else (some false)) else (some false)))) else (some false)) else (some false)) else (some false)) = some r := H
                      have A24 := Aside0.mk A240
                      clear A240
                      by_cases c25 : t227 = true
                      · subst c25
                        have H1 : (if t231 = true then (if t237 = true then (if t229 = true then (some false) else (if t235 = true then (some false) else (if t230 = (wrap64 ((a0.size : Int) + 3)) then (if t236 = (wrap64 ((a0.size : Int) + 7)) then ((flailref08_Same.f k2 t228 (([(⟨(⟨#[117]⟩ : ByteArray), a0⟩ : S27)] : List (S27)))).bind fun t243 => (if t243 = true then ((flailref08_Same.f k2 t234 (([(⟨(⟨#[117]⟩ : ByteArray), a0⟩ : S27), (⟨(⟨#[119]⟩ : ByteArray), (⟨#[]⟩ : ByteArray)⟩ : S27)] : List (S27)))).bind fun t247 => (some t247)) else (some false))) else (some false)) else (some false)))) else (some false)) else (some false)) = some r := by rw [if_pos rfl] at H; exact H
                        clear H
                        have H := H1
                        clear H1
                        by_cases c26 : t231 = true
                        · subst c26
                          have H1 : (if t237 = true then (if t229 = true then (some false) else (if t235 = true then (some false) else (if t230 = (wrap64 ((a0.size : Int) + 3)) then (if t236 = (wrap64 ((a0.size : Int) + 7)) then ((flailref08_Same.f k2 t228 (([(⟨(⟨#[117]⟩ : ByteArray), a0⟩ : S27)] : List (S27)))).bind fun t243 => (if t243 = true then ((flailref08_Same.f k2 t234 (([(⟨(⟨#[117]⟩ : ByteArray), a0⟩ : S27), (⟨(⟨#[119]⟩ : ByteArray), (⟨#[]⟩ : ByteArray)⟩ : S27)] : List (S27)))).bind fun t247 => (some t247)) else (some false))) else (some false)) else (some false)))) else (some false)) = some r := by rw [if_pos rfl] at H; exact H
                          clear H
                          have H := H1
                          clear H1
                          by_cases c27 : t237 = true
                          · subst c27
                            have H1 : (if t229 = true then (some false) else (if t235 = true then (some false) else (if t230 = (wrap64 ((a0.size : Int) + 3)) then (if t236 = (wrap64 ((a0.size : Int) + 7)) then ((flailref08_Same.f k2 t228 (([(⟨(⟨#[117]⟩ : ByteArray), a0⟩ : S27)] : List (S27)))).bind fun t243 => (if t243 = true then ((flailref08_Same.f k2 t234 (([(⟨(⟨#[117]⟩ : ByteArray), a0⟩ : S27), (⟨(⟨#[119]⟩ : ByteArray), (⟨#[]⟩ : ByteArray)⟩ : S27)] : List (S27)))).bind fun t247 => (some t247)) else (some false))) else (some false)) else (some false)))) = some r := by rw [if_pos rfl] at H; exact H
                            clear H
                            have H := H1
                            clear H1
                            by_cases c28 : t229 = true
                            · subst c28
                              have H1 : (some false) = some r := by rw [if_pos rfl] at H; exact H
                              clear H
                              have H := H1
                              clear H1
                              obtain rfl := Option.some.inj H
                              go_wp2_with (first | ((with_reducible refine gate_callee (f := 13) rfl ?_); refine goesL_ (some 72) rfl rfl Tryd.func13 (by kernel_rfl) rfl #[.string (((⟨#[117, 61]⟩ : ByteArray) ++ a0) ++ (⟨#[62]⟩ : ByteArray)), .int .i64 0] rfl (by (try simp only [List.map_toArray, List.map_cons, List.map_nil]); first | done | rfl | (simp only [List.length_drop, List.length_take]; rfl)) ?_; (with_reducible refine (attrs_Read.calls (((⟨#[117, 61]⟩ : ByteArray) ++ a0) ++ (⟨#[62]⟩ : ByteArray)) 0 t228 true t230 true _ ?side1 A21.out).mono ?_); (case side1 => first | (with_reducible exact HG.out) | exact Gl.below HG.out (by repeat (first | (with_reducible first | exact HB.out | apply below_alloc | apply pw_below_drewN | apply below_drew1) | exact HB.out)) | exact HG.out); rintro e w29 ⟨v232, rfl, ho0, hb⟩; refine ⟨_, rfl, ?_⟩; have n0_ := Aside0.mk (Kd.R_lower ho0 (below_size (by repeat (first | (with_reducible first | exact HB.out | apply below_alloc | apply pw_below_drewN | apply below_drew1) | exact HB.out)))); have n1_ := Aside0.mk (below_step (by repeat (first | (with_reducible first | exact HB.out | apply below_alloc | apply pw_below_drewN | apply below_drew1) | exact HB.out)) hb); clear HB; have HO233 := n0_; have HB := n1_; clear n0_ n1_; (try clear hb); (try clear hb2); (try clear hk); (try clear hi); (try clear ho0)) | ((with_reducible refine gate_callee (f := 13) rfl ?_); refine goesL_ (some 81) rfl rfl Tryd.func13 (by kernel_rfl) rfl #[.string (((⟨#[117, 32, 61, 32]⟩ : ByteArray) ++ a0) ++ (⟨#[32, 119, 62]⟩ : ByteArray)), .int .i64 0] rfl (by (try simp only [List.map_toArray, List.map_cons, List.map_nil]); first | done | rfl | (simp only [List.length_drop, List.length_take]; rfl)) ?_; (with_reducible refine (attrs_Read.calls (((⟨#[117, 32, 61, 32]⟩ : ByteArray) ++ a0) ++ (⟨#[32, 119, 62]⟩ : ByteArray)) 0 t234 t235 t236 true _ ?side1 A24.out).mono ?_); (case side1 => first | (with_reducible exact HG.out) | exact Gl.below HG.out (by repeat (first | (with_reducible first | exact HB.out | apply below_alloc | apply pw_below_drewN | apply below_drew1) | exact HB.out)) | exact HG.out); rintro e w30 ⟨v238, rfl, ho0, hb⟩; refine ⟨_, rfl, ?_⟩; have n0_ := Aside0.mk (Kd.R_elder' (by (with_reducible repeat (first | apply Kd.R_alloc | apply Kd.R_drewN | apply Kd.R_drew)); exact HO233.out) (Kd.R_base ho0) hb); have n1_ := Aside0.mk (Kd.R_lower (Kd.R_new' ho0 (Kd.R_lt (by (with_reducible repeat (first | apply Kd.R_alloc | apply Kd.R_drewN | apply Kd.R_drew)); exact HO233.out))) (below_size (by repeat (first | (with_reducible first | exact HB.out | apply below_alloc | apply pw_below_drewN | apply below_drew1) | exact HB.out)))); have n2_ := Aside0.mk (below_step (by repeat (first | (with_reducible first | exact HB.out | apply below_alloc | apply pw_below_drewN | apply below_drew1) | exact HB.out)) hb); clear HO233; clear HB; have HO233 := n0_; have HO239 := n1_; have HB := n2_; clear n0_ n1_ n2_; (try clear hb); (try clear hb2); (try clear hk); (try clear hi); (try clear ho0)))
                              go_ret
                              exact ⟨by first | rfl | (simp [errW_none, errW_some] <;> rfl) | (simp [*, errW_none, errW_some] <;> rfl), by repeat (first | (with_reducible first | exact HB.out | apply below_alloc | apply pw_below_drewN | apply below_drew1) | exact HB.out)⟩
                            · replace c28 := Bool.eq_false_iff.mpr c28
                              subst c28
                              have H1 : (if t235 = true then (some false) else (if t230 = (wrap64 ((a0.size : Int) + 3)) then (if t236 = (wrap64 ((a0.size : Int) + 7)) then ((flailref08_Same.f k2 t228 (([(⟨(⟨#[117]⟩ : ByteArray), a0⟩ : S27)] : List (S27)))).bind fun t243 => (if t243 = true then ((flailref08_Same.f k2 t234 (([(⟨(⟨#[117]⟩ : ByteArray), a0⟩ : S27), (⟨(⟨#[119]⟩ : ByteArray), (⟨#[]⟩ : ByteArray)⟩ : S27)] : List (S27)))).bind fun t247 => (some t247)) else (some false))) else (some false)) else (some false))) = some r := by rw [if_neg (show ¬ (false = true) by decide)] at H; exact H
                              clear H
                              have H := H1
                              clear H1
                              by_cases c31 : t235 = true
                              · subst c31
                                have H1 : (some false) = some r := by rw [if_pos rfl] at H; exact H
                                clear H
                                have H := H1
                                clear H1
                                obtain rfl := Option.some.inj H
                                go_wp2_with (first | ((with_reducible refine gate_callee (f := 13) rfl ?_); refine goesL_ (some 72) rfl rfl Tryd.func13 (by kernel_rfl) rfl #[.string (((⟨#[117, 61]⟩ : ByteArray) ++ a0) ++ (⟨#[62]⟩ : ByteArray)), .int .i64 0] rfl (by (try simp only [List.map_toArray, List.map_cons, List.map_nil]); first | done | rfl | (simp only [List.length_drop, List.length_take]; rfl)) ?_; (with_reducible refine (attrs_Read.calls (((⟨#[117, 61]⟩ : ByteArray) ++ a0) ++ (⟨#[62]⟩ : ByteArray)) 0 t228 false t230 true _ ?side1 A21.out).mono ?_); (case side1 => first | (with_reducible exact HG.out) | exact Gl.below HG.out (by repeat (first | (with_reducible first | exact HB.out | apply below_alloc | apply pw_below_drewN | apply below_drew1) | exact HB.out)) | exact HG.out); rintro e w32 ⟨v232, rfl, ho0, hb⟩; refine ⟨_, rfl, ?_⟩; have n0_ := Aside0.mk (Kd.R_lower ho0 (below_size (by repeat (first | (with_reducible first | exact HB.out | apply below_alloc | apply pw_below_drewN | apply below_drew1) | exact HB.out)))); have n1_ := Aside0.mk (below_step (by repeat (first | (with_reducible first | exact HB.out | apply below_alloc | apply pw_below_drewN | apply below_drew1) | exact HB.out)) hb); clear HB; have HO233 := n0_; have HB := n1_; clear n0_ n1_; (try clear hb); (try clear hb2); (try clear hk); (try clear hi); (try clear ho0)) | ((with_reducible refine gate_callee (f := 13) rfl ?_); refine goesL_ (some 81) rfl rfl Tryd.func13 (by kernel_rfl) rfl #[.string (((⟨#[117, 32, 61, 32]⟩ : ByteArray) ++ a0) ++ (⟨#[32, 119, 62]⟩ : ByteArray)), .int .i64 0] rfl (by (try simp only [List.map_toArray, List.map_cons, List.map_nil]); first | done | rfl | (simp only [List.length_drop, List.length_take]; rfl)) ?_; (with_reducible refine (attrs_Read.calls (((⟨#[117, 32, 61, 32]⟩ : ByteArray) ++ a0) ++ (⟨#[32, 119, 62]⟩ : ByteArray)) 0 t234 true t236 true _ ?side1 A24.out).mono ?_); (case side1 => first | (with_reducible exact HG.out) | exact Gl.below HG.out (by repeat (first | (with_reducible first | exact HB.out | apply below_alloc | apply pw_below_drewN | apply below_drew1) | exact HB.out)) | exact HG.out); rintro e w33 ⟨v238, rfl, ho0, hb⟩; refine ⟨_, rfl, ?_⟩; have n0_ := Aside0.mk (Kd.R_elder' (by (with_reducible repeat (first | apply Kd.R_alloc | apply Kd.R_drewN | apply Kd.R_drew)); exact HO233.out) (Kd.R_base ho0) hb); have n1_ := Aside0.mk (Kd.R_lower (Kd.R_new' ho0 (Kd.R_lt (by (with_reducible repeat (first | apply Kd.R_alloc | apply Kd.R_drewN | apply Kd.R_drew)); exact HO233.out))) (below_size (by repeat (first | (with_reducible first | exact HB.out | apply below_alloc | apply pw_below_drewN | apply below_drew1) | exact HB.out)))); have n2_ := Aside0.mk (below_step (by repeat (first | (with_reducible first | exact HB.out | apply below_alloc | apply pw_below_drewN | apply below_drew1) | exact HB.out)) hb); clear HO233; clear HB; have HO233 := n0_; have HO239 := n1_; have HB := n2_; clear n0_ n1_ n2_; (try clear hb); (try clear hb2); (try clear hk); (try clear hi); (try clear ho0)))
                                go_ret
                                exact ⟨by first | rfl | (simp [errW_none, errW_some] <;> rfl) | (simp [*, errW_none, errW_some] <;> rfl), by repeat (first | (with_reducible first | exact HB.out | apply below_alloc | apply pw_below_drewN | apply below_drew1) | exact HB.out)⟩
                              · replace c31 := Bool.eq_false_iff.mpr c31
                                subst c31
                                have H1 : (if t230 = (wrap64 ((a0.size : Int) + 3)) then (if t236 = (wrap64 ((a0.size : Int) + 7)) then ((flailref08_Same.f k2 t228 (([(⟨(⟨#[117]⟩ : ByteArray), a0⟩ : S27)] : List (S27)))).bind fun t243 => (if t243 = true then ((flailref08_Same.f k2 t234 (([(⟨(⟨#[117]⟩ : ByteArray), a0⟩ : S27), (⟨(⟨#[119]⟩ : ByteArray), (⟨#[]⟩ : ByteArray)⟩ : S27)] : List (S27)))).bind fun t247 => (some t247)) else (some false))) else (some false)) else (some false)) = some r := by rw [if_neg (show ¬ (false = true) by decide)] at H; exact H
                                clear H
                                have H := H1
                                clear H1
                                by_cases c34 : t230 = (wrap64 ((a0.size : Int) + 3))
                                · rw [if_pos c34] at H
                                  have c34b0 : (t230 == (wrap64 ((a0.size : Int) + 3))) = true := beq_iff_eq.mpr c34
                                  have c34b1 : (t230 != (wrap64 ((a0.size : Int) + 3))) = false := bne_eq_false_iff_eq.mpr c34
                                  (try (have c34b2 : (t230 == (((a0.size : Int) + 3))) = true := by have h_ := c34; rw [IntWalk.wrap64_in ((a0.size : Int) + 3) ⟨by omega, by omega⟩] at h_; exact beq_iff_eq.mpr h_))
                                  (try (have c34b3 : (t230 != (((a0.size : Int) + 3))) = false := by have h_ := c34; rw [IntWalk.wrap64_in ((a0.size : Int) + 3) ⟨by omega, by omega⟩] at h_; exact bne_eq_false_iff_eq.mpr h_))
                                  clear c34
                                  by_cases c35 : t236 = (wrap64 ((a0.size : Int) + 7))
                                  · rw [if_pos c35] at H
                                    have c35b0 : (t236 == (wrap64 ((a0.size : Int) + 7))) = true := beq_iff_eq.mpr c35
                                    have c35b1 : (t236 != (wrap64 ((a0.size : Int) + 7))) = false := bne_eq_false_iff_eq.mpr c35
                                    (try (have c35b2 : (t236 == (((a0.size : Int) + 7))) = true := by have h_ := c35; rw [IntWalk.wrap64_in ((a0.size : Int) + 7) ⟨by omega, by omega⟩] at h_; exact beq_iff_eq.mpr h_))
                                    (try (have c35b3 : (t236 != (((a0.size : Int) + 7))) = false := by have h_ := c35; rw [IntWalk.wrap64_in ((a0.size : Int) + 7) ⟨by omega, by omega⟩] at h_; exact bne_eq_false_iff_eq.mpr h_))
                                    clear c35
                                    obtain ⟨y240, hy240⟩ : ∃ y_ : List (S27), y_ = (([(⟨(⟨#[117]⟩ : ByteArray), a0⟩ : S27)] : List (S27))) := ⟨_, rfl⟩
                                    replace H : ((flailref08_Same.f k2 t228 y240).bind fun t243 => (if t243 = true then ((flailref08_Same.f k2 t234 (([(⟨(⟨#[117]⟩ : ByteArray), a0⟩ : S27), (⟨(⟨#[119]⟩ : ByteArray), (⟨#[]⟩ : ByteArray)⟩ : S27)] : List (S27)))).bind fun t247 => (some t247)) else (some false))) = some r := by first | (rw [hy240]; with_reducible exact H) | (have H2_ := (Option.bind_some _ _).symm.trans H; rw [hy240]; with_reducible exact H2_) | (have H2_ := (Option.bind_some _ _).symm.trans H; with_reducible exact H2_) | with_reducible exact H | (rw [hy240]; exact H) | exact H
                                    have Ny240 := Aside0.mk hy240
                                    clear hy240
                                    replace H := Option.bind_eq_some_iff.mp H
                                    obtain ⟨t243, A360, H⟩ := H
                                    replace H : (if t243 = true then ((flailref08_Same.f k2 t234 (([(⟨(⟨#[117]⟩ : ByteArray), a0⟩ : S27), (⟨(⟨#[119]⟩ : ByteArray), (⟨#[]⟩ : ByteArray)⟩ : S27)] : List (S27)))).bind fun t247 => (some t247)) else (some false)) = some r := H
                                    have A36 := Aside0.mk A360
                                    clear A360
                                    by_cases c37 : t243 = true
                                    · subst c37
                                      have H1 : ((flailref08_Same.f k2 t234 (([(⟨(⟨#[117]⟩ : ByteArray), a0⟩ : S27), (⟨(⟨#[119]⟩ : ByteArray), (⟨#[]⟩ : ByteArray)⟩ : S27)] : List (S27)))).bind fun t247 => (some t247)) = some r := by rw [if_pos rfl] at H; exact H
                                      clear H
                                      have H := H1
                                      clear H1
                                      obtain ⟨y244, hy244⟩ : ∃ y_ : List (S27), y_ = (([(⟨(⟨#[117]⟩ : ByteArray), a0⟩ : S27), (⟨(⟨#[119]⟩ : ByteArray), (⟨#[]⟩ : ByteArray)⟩ : S27)] : List (S27))) := ⟨_, rfl⟩
                                      replace H : ((flailref08_Same.f k2 t234 y244).bind fun t247 => (some t247)) = some r := by first | (rw [hy244]; with_reducible exact H) | (have H2_ := (Option.bind_some _ _).symm.trans H; rw [hy244]; with_reducible exact H2_) | (have H2_ := (Option.bind_some _ _).symm.trans H; with_reducible exact H2_) | with_reducible exact H | (rw [hy244]; exact H) | exact H
                                      have Ny244 := Aside0.mk hy244
                                      clear hy244
                                      replace H := Option.bind_eq_some_iff.mp H
                                      obtain ⟨t247, A380, H⟩ := H
                                      replace H : (some t247) = some r := H
                                      have A38 := Aside0.mk A380
                                      clear A380
                                      obtain rfl := Option.some.inj H
                                      go_wp2_with (first | ((with_reducible refine gate_callee (f := 13) rfl ?_); refine goesL_ (some 72) rfl rfl Tryd.func13 (by kernel_rfl) rfl #[.string (((⟨#[117, 61]⟩ : ByteArray) ++ a0) ++ (⟨#[62]⟩ : ByteArray)), .int .i64 0] rfl (by (try simp only [List.map_toArray, List.map_cons, List.map_nil]); first | done | rfl | (simp only [List.length_drop, List.length_take]; rfl)) ?_; (with_reducible refine (attrs_Read.calls (((⟨#[117, 61]⟩ : ByteArray) ++ a0) ++ (⟨#[62]⟩ : ByteArray)) 0 t228 false t230 true _ ?side1 A21.out).mono ?_); (case side1 => first | (with_reducible exact HG.out) | exact Gl.below HG.out (by repeat (first | (with_reducible first | exact HB.out | apply below_alloc | apply pw_below_drewN | apply below_drew1) | exact HB.out)) | exact HG.out); rintro e w39 ⟨v232, rfl, ho0, hb⟩; refine ⟨_, rfl, ?_⟩; have n0_ := Aside0.mk (Kd.R_lower ho0 (below_size (by repeat (first | (with_reducible first | exact HB.out | apply below_alloc | apply pw_below_drewN | apply below_drew1) | exact HB.out)))); have n1_ := Aside0.mk (below_step (by repeat (first | (with_reducible first | exact HB.out | apply below_alloc | apply pw_below_drewN | apply below_drew1) | exact HB.out)) hb); clear HB; have HO233 := n0_; have HB := n1_; clear n0_ n1_; (try clear hb); (try clear hb2); (try clear hk); (try clear hi); (try clear ho0)) | ((with_reducible refine gate_callee (f := 13) rfl ?_); refine goesL_ (some 81) rfl rfl Tryd.func13 (by kernel_rfl) rfl #[.string (((⟨#[117, 32, 61, 32]⟩ : ByteArray) ++ a0) ++ (⟨#[32, 119, 62]⟩ : ByteArray)), .int .i64 0] rfl (by (try simp only [List.map_toArray, List.map_cons, List.map_nil]); first | done | rfl | (simp only [List.length_drop, List.length_take]; rfl)) ?_; (with_reducible refine (attrs_Read.calls (((⟨#[117, 32, 61, 32]⟩ : ByteArray) ++ a0) ++ (⟨#[32, 119, 62]⟩ : ByteArray)) 0 t234 false t236 true _ ?side1 A24.out).mono ?_); (case side1 => first | (with_reducible exact HG.out) | exact Gl.below HG.out (by repeat (first | (with_reducible first | exact HB.out | apply below_alloc | apply pw_below_drewN | apply below_drew1) | exact HB.out)) | exact HG.out); rintro e w40 ⟨v238, rfl, ho0, hb⟩; refine ⟨_, rfl, ?_⟩; have n0_ := Aside0.mk (Kd.R_elder' (by (with_reducible repeat (first | apply Kd.R_alloc | apply Kd.R_drewN | apply Kd.R_drew)); exact HO233.out) (Kd.R_base ho0) hb); have n1_ := Aside0.mk (Kd.R_lower (Kd.R_new' ho0 (Kd.R_lt (by (with_reducible repeat (first | apply Kd.R_alloc | apply Kd.R_drewN | apply Kd.R_drew)); exact HO233.out))) (below_size (by repeat (first | (with_reducible first | exact HB.out | apply below_alloc | apply pw_below_drewN | apply below_drew1) | exact HB.out)))); have n2_ := Aside0.mk (below_step (by repeat (first | (with_reducible first | exact HB.out | apply below_alloc | apply pw_below_drewN | apply below_drew1) | exact HB.out)) hb); clear HO233; clear HB; have HO233 := n0_; have HO239 := n1_; have HB := n2_; clear n0_ n1_ n2_; (try clear hb); (try clear hb2); (try clear hk); (try clear hi); (try clear ho0)) | ((with_reducible refine gate_dst (N := 119) rfl ?_); (try (refine gate_guard (by rfl) ?_; dsimp only)); refine Kd.R_lit k27 _ 27 ?hg (N := 119) ?hd (xs := ([(⟨(⟨#[117]⟩ : ByteArray), a0⟩ : S27)] : List (S27))) (inner := [.string (⟨#[117]⟩ : ByteArray), .string a0]) (ok := fun _ => True) (okp := fun _ => True) ?hr ?hp (fun _ hk => hk) trivial (Below.refl _ _) (Nat.le_refl _) (by simp) ?_; (case hd => rfl); (case hg => rfl); (case hr => first | (go_simp; done) | (go_simp; rfl)); (case hp => exact (Reps.c2 (show Kd.M k27 _ _ _ (⟨(⟨#[117]⟩ : ByteArray), a0⟩ : S27) [.string (⟨#[117]⟩ : ByteArray), .string a0] from (k27_mkM _ _ _ (⟨(⟨#[117]⟩ : ByteArray), a0⟩ : S27) )) (Reps.none _ _))); intro v241 w41 ho42 hb hg_ hnew_; clear hg_ hnew_; (first | rw [← Ny240.out] at ho42 | (simp only [Int.reduceToNat] at ho42; rw [← Ny240.out] at ho42)); have n0_ := Aside0.mk (Kd.R_elder' (by (with_reducible repeat (first | apply Kd.R_alloc | apply Kd.R_drewN | apply Kd.R_drew)); exact HO233.out) (Kd.R_base ho42) hb); have n1_ := Aside0.mk (Kd.R_elder' (by (with_reducible repeat (first | apply Kd.R_alloc | apply Kd.R_drewN | apply Kd.R_drew)); exact HO239.out) (Kd.R_base ho42) hb); have n2_ := Aside0.mk (Kd.R_lower (Kd.R_new' (Kd.R_new' ho42 (Kd.R_lt (by (with_reducible repeat (first | apply Kd.R_alloc | apply Kd.R_drewN | apply Kd.R_drew)); exact HO233.out))) (Kd.R_lt (by (with_reducible repeat (first | apply Kd.R_alloc | apply Kd.R_drewN | apply Kd.R_drew)); exact HO239.out))) (below_size (by repeat (first | (with_reducible first | exact HB.out | apply below_alloc | apply pw_below_drewN | apply below_drew1) | exact HB.out)))); have n3_ := Aside0.mk (below_step (by repeat (first | (with_reducible first | exact HB.out | apply below_alloc | apply pw_below_drewN | apply below_drew1) | exact HB.out)) hb); clear HO233; clear HO239; clear HB; have HO233 := n0_; have HO239 := n1_; have HO242 := n2_; have HB := n3_; clear n0_ n1_ n2_ n3_; clear hb ho42; obtain ⟨Ao43, co43, eo43⟩ := Kd.R_slice HO233.out; subst eo43; obtain ⟨Ao44, co44, eo44⟩ := Kd.R_slice HO242.out; subst eo44) | (go_at_call 14; (with_reducible refine (flailref08_Same.calls k2 _ _ t228 _ _ y240 true _ ?side1 ?side2 ?side3 ?side4 A36.out).mono ?_); (case side1 => repeat (first | exact (Kd.R_reads' HO233.out).2.2 | (with_reducible refine Kd.C_alloc ?_ _) | (with_reducible refine Kd.C_drewN ?_ _) | (with_reducible refine Kd.C_drew ?_))); (case side2 => exact (Kd.R_reads' HO233.out).2.1); (case side3 => repeat (first | exact (Kd.R_reads' HO242.out).2.2 | (with_reducible refine Kd.C_alloc ?_ _) | (with_reducible refine Kd.C_drewN ?_ _) | (with_reducible refine Kd.C_drew ?_))); (case side4 => exact (Kd.R_reads' HO242.out).2.1); rintro e w' ⟨rfl, ⟨nd, rfl⟩⟩) | ((with_reducible refine gate_dst (N := 127) rfl ?_); (try (refine gate_guard (by rfl) ?_; dsimp only)); refine Kd.R_lit k27 _ 27 ?hg (N := 127) ?hd (xs := ([(⟨(⟨#[117]⟩ : ByteArray), a0⟩ : S27), (⟨(⟨#[119]⟩ : ByteArray), (⟨#[]⟩ : ByteArray)⟩ : S27)] : List (S27))) (inner := [.string (⟨#[117]⟩ : ByteArray), .string a0, .string (⟨#[119]⟩ : ByteArray), .string (⟨#[]⟩ : ByteArray)]) (ok := fun _ => True) (okp := fun _ => True) ?hr ?hp (fun _ hk => hk) trivial (Below.refl _ _) (Nat.le_refl _) (by simp) ?_; (case hd => rfl); (case hg => rfl); (case hr => first | (go_simp; done) | (go_simp; rfl)); (case hp => exact (Reps.c2 (show Kd.M k27 _ _ _ (⟨(⟨#[117]⟩ : ByteArray), a0⟩ : S27) [.string (⟨#[117]⟩ : ByteArray), .string a0] from (k27_mkM _ _ _ (⟨(⟨#[117]⟩ : ByteArray), a0⟩ : S27) )) (Reps.c2 (show Kd.M k27 _ _ _ (⟨(⟨#[119]⟩ : ByteArray), (⟨#[]⟩ : ByteArray)⟩ : S27) [.string (⟨#[119]⟩ : ByteArray), .string (⟨#[]⟩ : ByteArray)] from (k27_mkM _ _ _ (⟨(⟨#[119]⟩ : ByteArray), (⟨#[]⟩ : ByteArray)⟩ : S27) )) (Reps.none _ _)))); intro v245 w45 ho46 hb hg_ hnew_; clear hg_ hnew_; (first | rw [← Ny244.out] at ho46 | (simp only [Int.reduceToNat] at ho46; rw [← Ny244.out] at ho46)); have n0_ := Aside0.mk (Kd.R_elder' (by (with_reducible repeat (first | apply Kd.R_alloc | apply Kd.R_drewN | apply Kd.R_drew)); exact HO233.out) (Kd.R_base ho46) hb); have n1_ := Aside0.mk (Kd.R_elder' (by (with_reducible repeat (first | apply Kd.R_alloc | apply Kd.R_drewN | apply Kd.R_drew)); exact HO239.out) (Kd.R_base ho46) hb); have n2_ := Aside0.mk (Kd.R_elder' (by (with_reducible repeat (first | apply Kd.R_alloc | apply Kd.R_drewN | apply Kd.R_drew)); exact HO242.out) (Kd.R_base ho46) hb); have n3_ := Aside0.mk (Kd.R_lower (Kd.R_new' (Kd.R_new' (Kd.R_new' ho46 (Kd.R_lt (by (with_reducible repeat (first | apply Kd.R_alloc | apply Kd.R_drewN | apply Kd.R_drew)); exact HO233.out))) (Kd.R_lt (by (with_reducible repeat (first | apply Kd.R_alloc | apply Kd.R_drewN | apply Kd.R_drew)); exact HO239.out))) (Kd.R_lt (by (with_reducible repeat (first | apply Kd.R_alloc | apply Kd.R_drewN | apply Kd.R_drew)); exact HO242.out))) (below_size (by repeat (first | (with_reducible first | exact HB.out | apply below_alloc | apply pw_below_drewN | apply below_drew1) | exact HB.out)))); have n4_ := Aside0.mk (below_step (by repeat (first | (with_reducible first | exact HB.out | apply below_alloc | apply pw_below_drewN | apply below_drew1) | exact HB.out)) hb); clear HO233; clear HO239; clear HO242; clear HB; have HO233 := n0_; have HO239 := n1_; have HO242 := n2_; have HO246 := n3_; have HB := n4_; clear n0_ n1_ n2_ n3_ n4_; clear hb ho46; obtain ⟨Ao47, co47, eo47⟩ := Kd.R_slice HO239.out; subst eo47; obtain ⟨Ao48, co48, eo48⟩ := Kd.R_slice HO246.out; subst eo48) | (go_at_call 14; (with_reducible refine (flailref08_Same.calls k2 _ _ t234 _ _ y244 t247 _ ?side1 ?side2 ?side3 ?side4 A38.out).mono ?_); (case side1 => repeat (first | exact (Kd.R_reads' HO239.out).2.2 | (with_reducible refine Kd.C_alloc ?_ _) | (with_reducible refine Kd.C_drewN ?_ _) | (with_reducible refine Kd.C_drew ?_))); (case side2 => exact (Kd.R_reads' HO239.out).2.1); (case side3 => repeat (first | exact (Kd.R_reads' HO246.out).2.2 | (with_reducible refine Kd.C_alloc ?_ _) | (with_reducible refine Kd.C_drewN ?_ _) | (with_reducible refine Kd.C_drew ?_))); (case side4 => exact (Kd.R_reads' HO246.out).2.1); rintro e w' ⟨rfl, ⟨nd, rfl⟩⟩))
                                      go_ret
                                      exact ⟨by first | rfl | (simp [errW_none, errW_some] <;> rfl) | (simp [*, errW_none, errW_some] <;> rfl), by repeat (first | (with_reducible first | exact HB.out | apply below_alloc | apply pw_below_drewN | apply below_drew1) | exact HB.out)⟩
                                    · replace c37 := Bool.eq_false_iff.mpr c37
                                      subst c37
                                      have H1 : (some false) = some r := by rw [if_neg (show ¬ (false = true) by decide)] at H; exact H
                                      clear H
                                      have H := H1
                                      clear H1
                                      obtain rfl := Option.some.inj H
                                      go_wp2_with (first | ((with_reducible refine gate_callee (f := 13) rfl ?_); refine goesL_ (some 72) rfl rfl Tryd.func13 (by kernel_rfl) rfl #[.string (((⟨#[117, 61]⟩ : ByteArray) ++ a0) ++ (⟨#[62]⟩ : ByteArray)), .int .i64 0] rfl (by (try simp only [List.map_toArray, List.map_cons, List.map_nil]); first | done | rfl | (simp only [List.length_drop, List.length_take]; rfl)) ?_; (with_reducible refine (attrs_Read.calls (((⟨#[117, 61]⟩ : ByteArray) ++ a0) ++ (⟨#[62]⟩ : ByteArray)) 0 t228 false t230 true _ ?side1 A21.out).mono ?_); (case side1 => first | (with_reducible exact HG.out) | exact Gl.below HG.out (by repeat (first | (with_reducible first | exact HB.out | apply below_alloc | apply pw_below_drewN | apply below_drew1) | exact HB.out)) | exact HG.out); rintro e w49 ⟨v232, rfl, ho0, hb⟩; refine ⟨_, rfl, ?_⟩; have n0_ := Aside0.mk (Kd.R_lower ho0 (below_size (by repeat (first | (with_reducible first | exact HB.out | apply below_alloc | apply pw_below_drewN | apply below_drew1) | exact HB.out)))); have n1_ := Aside0.mk (below_step (by repeat (first | (with_reducible first | exact HB.out | apply below_alloc | apply pw_below_drewN | apply below_drew1) | exact HB.out)) hb); clear HB; have HO233 := n0_; have HB := n1_; clear n0_ n1_; (try clear hb); (try clear hb2); (try clear hk); (try clear hi); (try clear ho0)) | ((with_reducible refine gate_callee (f := 13) rfl ?_); refine goesL_ (some 81) rfl rfl Tryd.func13 (by kernel_rfl) rfl #[.string (((⟨#[117, 32, 61, 32]⟩ : ByteArray) ++ a0) ++ (⟨#[32, 119, 62]⟩ : ByteArray)), .int .i64 0] rfl (by (try simp only [List.map_toArray, List.map_cons, List.map_nil]); first | done | rfl | (simp only [List.length_drop, List.length_take]; rfl)) ?_; (with_reducible refine (attrs_Read.calls (((⟨#[117, 32, 61, 32]⟩ : ByteArray) ++ a0) ++ (⟨#[32, 119, 62]⟩ : ByteArray)) 0 t234 false t236 true _ ?side1 A24.out).mono ?_); (case side1 => first | (with_reducible exact HG.out) | exact Gl.below HG.out (by repeat (first | (with_reducible first | exact HB.out | apply below_alloc | apply pw_below_drewN | apply below_drew1) | exact HB.out)) | exact HG.out); rintro e w50 ⟨v238, rfl, ho0, hb⟩; refine ⟨_, rfl, ?_⟩; have n0_ := Aside0.mk (Kd.R_elder' (by (with_reducible repeat (first | apply Kd.R_alloc | apply Kd.R_drewN | apply Kd.R_drew)); exact HO233.out) (Kd.R_base ho0) hb); have n1_ := Aside0.mk (Kd.R_lower (Kd.R_new' ho0 (Kd.R_lt (by (with_reducible repeat (first | apply Kd.R_alloc | apply Kd.R_drewN | apply Kd.R_drew)); exact HO233.out))) (below_size (by repeat (first | (with_reducible first | exact HB.out | apply below_alloc | apply pw_below_drewN | apply below_drew1) | exact HB.out)))); have n2_ := Aside0.mk (below_step (by repeat (first | (with_reducible first | exact HB.out | apply below_alloc | apply pw_below_drewN | apply below_drew1) | exact HB.out)) hb); clear HO233; clear HB; have HO233 := n0_; have HO239 := n1_; have HB := n2_; clear n0_ n1_ n2_; (try clear hb); (try clear hb2); (try clear hk); (try clear hi); (try clear ho0)) | ((with_reducible refine gate_dst (N := 119) rfl ?_); (try (refine gate_guard (by rfl) ?_; dsimp only)); refine Kd.R_lit k27 _ 27 ?hg (N := 119) ?hd (xs := ([(⟨(⟨#[117]⟩ : ByteArray), a0⟩ : S27)] : List (S27))) (inner := [.string (⟨#[117]⟩ : ByteArray), .string a0]) (ok := fun _ => True) (okp := fun _ => True) ?hr ?hp (fun _ hk => hk) trivial (Below.refl _ _) (Nat.le_refl _) (by simp) ?_; (case hd => rfl); (case hg => rfl); (case hr => first | (go_simp; done) | (go_simp; rfl)); (case hp => exact (Reps.c2 (show Kd.M k27 _ _ _ (⟨(⟨#[117]⟩ : ByteArray), a0⟩ : S27) [.string (⟨#[117]⟩ : ByteArray), .string a0] from (k27_mkM _ _ _ (⟨(⟨#[117]⟩ : ByteArray), a0⟩ : S27) )) (Reps.none _ _))); intro v241 w51 ho52 hb hg_ hnew_; clear hg_ hnew_; (first | rw [← Ny240.out] at ho52 | (simp only [Int.reduceToNat] at ho52; rw [← Ny240.out] at ho52)); have n0_ := Aside0.mk (Kd.R_elder' (by (with_reducible repeat (first | apply Kd.R_alloc | apply Kd.R_drewN | apply Kd.R_drew)); exact HO233.out) (Kd.R_base ho52) hb); have n1_ := Aside0.mk (Kd.R_elder' (by (with_reducible repeat (first | apply Kd.R_alloc | apply Kd.R_drewN | apply Kd.R_drew)); exact HO239.out) (Kd.R_base ho52) hb); have n2_ := Aside0.mk (Kd.R_lower (Kd.R_new' (Kd.R_new' ho52 (Kd.R_lt (by (with_reducible repeat (first | apply Kd.R_alloc | apply Kd.R_drewN | apply Kd.R_drew)); exact HO233.out))) (Kd.R_lt (by (with_reducible repeat (first | apply Kd.R_alloc | apply Kd.R_drewN | apply Kd.R_drew)); exact HO239.out))) (below_size (by repeat (first | (with_reducible first | exact HB.out | apply below_alloc | apply pw_below_drewN | apply below_drew1) | exact HB.out)))); have n3_ := Aside0.mk (below_step (by repeat (first | (with_reducible first | exact HB.out | apply below_alloc | apply pw_below_drewN | apply below_drew1) | exact HB.out)) hb); clear HO233; clear HO239; clear HB; have HO233 := n0_; have HO239 := n1_; have HO242 := n2_; have HB := n3_; clear n0_ n1_ n2_ n3_; clear hb ho52; obtain ⟨Ao53, co53, eo53⟩ := Kd.R_slice HO233.out; subst eo53; obtain ⟨Ao54, co54, eo54⟩ := Kd.R_slice HO242.out; subst eo54) | (go_at_call 14; (with_reducible refine (flailref08_Same.calls k2 _ _ t228 _ _ y240 false _ ?side1 ?side2 ?side3 ?side4 A36.out).mono ?_); (case side1 => repeat (first | exact (Kd.R_reads' HO233.out).2.2 | (with_reducible refine Kd.C_alloc ?_ _) | (with_reducible refine Kd.C_drewN ?_ _) | (with_reducible refine Kd.C_drew ?_))); (case side2 => exact (Kd.R_reads' HO233.out).2.1); (case side3 => repeat (first | exact (Kd.R_reads' HO242.out).2.2 | (with_reducible refine Kd.C_alloc ?_ _) | (with_reducible refine Kd.C_drewN ?_ _) | (with_reducible refine Kd.C_drew ?_))); (case side4 => exact (Kd.R_reads' HO242.out).2.1); rintro e w' ⟨rfl, ⟨nd, rfl⟩⟩))
                                      go_ret
                                      exact ⟨by first | rfl | (simp [errW_none, errW_some] <;> rfl) | (simp [*, errW_none, errW_some] <;> rfl), by repeat (first | (with_reducible first | exact HB.out | apply below_alloc | apply pw_below_drewN | apply below_drew1) | exact HB.out)⟩
                                  · rw [if_neg c35] at H
                                    have c35b0 : (t236 == (wrap64 ((a0.size : Int) + 7))) = false := beq_eq_false_iff_ne.mpr c35
                                    have c35b1 : (t236 != (wrap64 ((a0.size : Int) + 7))) = true := bne_iff_ne.mpr c35
                                    (try (have c35b2 : (t236 == (((a0.size : Int) + 7))) = false := by have h_ := c35; rw [IntWalk.wrap64_in ((a0.size : Int) + 7) ⟨by omega, by omega⟩] at h_; exact beq_eq_false_iff_ne.mpr h_))
                                    (try (have c35b3 : (t236 != (((a0.size : Int) + 7))) = true := by have h_ := c35; rw [IntWalk.wrap64_in ((a0.size : Int) + 7) ⟨by omega, by omega⟩] at h_; exact bne_iff_ne.mpr h_))
                                    obtain rfl := Option.some.inj H
                                    go_wp2_with (first | ((with_reducible refine gate_callee (f := 13) rfl ?_); refine goesL_ (some 72) rfl rfl Tryd.func13 (by kernel_rfl) rfl #[.string (((⟨#[117, 61]⟩ : ByteArray) ++ a0) ++ (⟨#[62]⟩ : ByteArray)), .int .i64 0] rfl (by (try simp only [List.map_toArray, List.map_cons, List.map_nil]); first | done | rfl | (simp only [List.length_drop, List.length_take]; rfl)) ?_; (with_reducible refine (attrs_Read.calls (((⟨#[117, 61]⟩ : ByteArray) ++ a0) ++ (⟨#[62]⟩ : ByteArray)) 0 t228 false t230 true _ ?side1 A21.out).mono ?_); (case side1 => first | (with_reducible exact HG.out) | exact Gl.below HG.out (by repeat (first | (with_reducible first | exact HB.out | apply below_alloc | apply pw_below_drewN | apply below_drew1) | exact HB.out)) | exact HG.out); rintro e w55 ⟨v232, rfl, ho0, hb⟩; refine ⟨_, rfl, ?_⟩; have n0_ := Aside0.mk (Kd.R_lower ho0 (below_size (by repeat (first | (with_reducible first | exact HB.out | apply below_alloc | apply pw_below_drewN | apply below_drew1) | exact HB.out)))); have n1_ := Aside0.mk (below_step (by repeat (first | (with_reducible first | exact HB.out | apply below_alloc | apply pw_below_drewN | apply below_drew1) | exact HB.out)) hb); clear HB; have HO233 := n0_; have HB := n1_; clear n0_ n1_; (try clear hb); (try clear hb2); (try clear hk); (try clear hi); (try clear ho0)) | ((with_reducible refine gate_callee (f := 13) rfl ?_); refine goesL_ (some 81) rfl rfl Tryd.func13 (by kernel_rfl) rfl #[.string (((⟨#[117, 32, 61, 32]⟩ : ByteArray) ++ a0) ++ (⟨#[32, 119, 62]⟩ : ByteArray)), .int .i64 0] rfl (by (try simp only [List.map_toArray, List.map_cons, List.map_nil]); first | done | rfl | (simp only [List.length_drop, List.length_take]; rfl)) ?_; (with_reducible refine (attrs_Read.calls (((⟨#[117, 32, 61, 32]⟩ : ByteArray) ++ a0) ++ (⟨#[32, 119, 62]⟩ : ByteArray)) 0 t234 false t236 true _ ?side1 A24.out).mono ?_); (case side1 => first | (with_reducible exact HG.out) | exact Gl.below HG.out (by repeat (first | (with_reducible first | exact HB.out | apply below_alloc | apply pw_below_drewN | apply below_drew1) | exact HB.out)) | exact HG.out); rintro e w56 ⟨v238, rfl, ho0, hb⟩; refine ⟨_, rfl, ?_⟩; have n0_ := Aside0.mk (Kd.R_elder' (by (with_reducible repeat (first | apply Kd.R_alloc | apply Kd.R_drewN | apply Kd.R_drew)); exact HO233.out) (Kd.R_base ho0) hb); have n1_ := Aside0.mk (Kd.R_lower (Kd.R_new' ho0 (Kd.R_lt (by (with_reducible repeat (first | apply Kd.R_alloc | apply Kd.R_drewN | apply Kd.R_drew)); exact HO233.out))) (below_size (by repeat (first | (with_reducible first | exact HB.out | apply below_alloc | apply pw_below_drewN | apply below_drew1) | exact HB.out)))); have n2_ := Aside0.mk (below_step (by repeat (first | (with_reducible first | exact HB.out | apply below_alloc | apply pw_below_drewN | apply below_drew1) | exact HB.out)) hb); clear HO233; clear HB; have HO233 := n0_; have HO239 := n1_; have HB := n2_; clear n0_ n1_ n2_; (try clear hb); (try clear hb2); (try clear hk); (try clear hi); (try clear ho0)))
                                    go_ret
                                    exact ⟨by first | rfl | (simp [errW_none, errW_some] <;> rfl) | (simp [*, errW_none, errW_some] <;> rfl), by repeat (first | (with_reducible first | exact HB.out | apply below_alloc | apply pw_below_drewN | apply below_drew1) | exact HB.out)⟩
                                · rw [if_neg c34] at H
                                  have c34b0 : (t230 == (wrap64 ((a0.size : Int) + 3))) = false := beq_eq_false_iff_ne.mpr c34
                                  have c34b1 : (t230 != (wrap64 ((a0.size : Int) + 3))) = true := bne_iff_ne.mpr c34
                                  (try (have c34b2 : (t230 == (((a0.size : Int) + 3))) = false := by have h_ := c34; rw [IntWalk.wrap64_in ((a0.size : Int) + 3) ⟨by omega, by omega⟩] at h_; exact beq_eq_false_iff_ne.mpr h_))
                                  (try (have c34b3 : (t230 != (((a0.size : Int) + 3))) = true := by have h_ := c34; rw [IntWalk.wrap64_in ((a0.size : Int) + 3) ⟨by omega, by omega⟩] at h_; exact bne_iff_ne.mpr h_))
                                  obtain rfl := Option.some.inj H
                                  go_wp2_with (first | ((with_reducible refine gate_callee (f := 13) rfl ?_); refine goesL_ (some 72) rfl rfl Tryd.func13 (by kernel_rfl) rfl #[.string (((⟨#[117, 61]⟩ : ByteArray) ++ a0) ++ (⟨#[62]⟩ : ByteArray)), .int .i64 0] rfl (by (try simp only [List.map_toArray, List.map_cons, List.map_nil]); first | done | rfl | (simp only [List.length_drop, List.length_take]; rfl)) ?_; (with_reducible refine (attrs_Read.calls (((⟨#[117, 61]⟩ : ByteArray) ++ a0) ++ (⟨#[62]⟩ : ByteArray)) 0 t228 false t230 true _ ?side1 A21.out).mono ?_); (case side1 => first | (with_reducible exact HG.out) | exact Gl.below HG.out (by repeat (first | (with_reducible first | exact HB.out | apply below_alloc | apply pw_below_drewN | apply below_drew1) | exact HB.out)) | exact HG.out); rintro e w57 ⟨v232, rfl, ho0, hb⟩; refine ⟨_, rfl, ?_⟩; have n0_ := Aside0.mk (Kd.R_lower ho0 (below_size (by repeat (first | (with_reducible first | exact HB.out | apply below_alloc | apply pw_below_drewN | apply below_drew1) | exact HB.out)))); have n1_ := Aside0.mk (below_step (by repeat (first | (with_reducible first | exact HB.out | apply below_alloc | apply pw_below_drewN | apply below_drew1) | exact HB.out)) hb); clear HB; have HO233 := n0_; have HB := n1_; clear n0_ n1_; (try clear hb); (try clear hb2); (try clear hk); (try clear hi); (try clear ho0)) | ((with_reducible refine gate_callee (f := 13) rfl ?_); refine goesL_ (some 81) rfl rfl Tryd.func13 (by kernel_rfl) rfl #[.string (((⟨#[117, 32, 61, 32]⟩ : ByteArray) ++ a0) ++ (⟨#[32, 119, 62]⟩ : ByteArray)), .int .i64 0] rfl (by (try simp only [List.map_toArray, List.map_cons, List.map_nil]); first | done | rfl | (simp only [List.length_drop, List.length_take]; rfl)) ?_; (with_reducible refine (attrs_Read.calls (((⟨#[117, 32, 61, 32]⟩ : ByteArray) ++ a0) ++ (⟨#[32, 119, 62]⟩ : ByteArray)) 0 t234 false t236 true _ ?side1 A24.out).mono ?_); (case side1 => first | (with_reducible exact HG.out) | exact Gl.below HG.out (by repeat (first | (with_reducible first | exact HB.out | apply below_alloc | apply pw_below_drewN | apply below_drew1) | exact HB.out)) | exact HG.out); rintro e w58 ⟨v238, rfl, ho0, hb⟩; refine ⟨_, rfl, ?_⟩; have n0_ := Aside0.mk (Kd.R_elder' (by (with_reducible repeat (first | apply Kd.R_alloc | apply Kd.R_drewN | apply Kd.R_drew)); exact HO233.out) (Kd.R_base ho0) hb); have n1_ := Aside0.mk (Kd.R_lower (Kd.R_new' ho0 (Kd.R_lt (by (with_reducible repeat (first | apply Kd.R_alloc | apply Kd.R_drewN | apply Kd.R_drew)); exact HO233.out))) (below_size (by repeat (first | (with_reducible first | exact HB.out | apply below_alloc | apply pw_below_drewN | apply below_drew1) | exact HB.out)))); have n2_ := Aside0.mk (below_step (by repeat (first | (with_reducible first | exact HB.out | apply below_alloc | apply pw_below_drewN | apply below_drew1) | exact HB.out)) hb); clear HO233; clear HB; have HO233 := n0_; have HO239 := n1_; have HB := n2_; clear n0_ n1_ n2_; (try clear hb); (try clear hb2); (try clear hk); (try clear hi); (try clear ho0)))
                                  go_ret
                                  exact ⟨by first | rfl | (simp [errW_none, errW_some] <;> rfl) | (simp [*, errW_none, errW_some] <;> rfl), by repeat (first | (with_reducible first | exact HB.out | apply below_alloc | apply pw_below_drewN | apply below_drew1) | exact HB.out)⟩
                          · replace c27 := Bool.eq_false_iff.mpr c27
                            subst c27
                            have H1 : (some false) = some r := by rw [if_neg (show ¬ (false = true) by decide)] at H; exact H
                            clear H
                            have H := H1
                            clear H1
                            obtain rfl := Option.some.inj H
                            go_wp2_with (first | ((with_reducible refine gate_callee (f := 13) rfl ?_); refine goesL_ (some 72) rfl rfl Tryd.func13 (by kernel_rfl) rfl #[.string (((⟨#[117, 61]⟩ : ByteArray) ++ a0) ++ (⟨#[62]⟩ : ByteArray)), .int .i64 0] rfl (by (try simp only [List.map_toArray, List.map_cons, List.map_nil]); first | done | rfl | (simp only [List.length_drop, List.length_take]; rfl)) ?_; (with_reducible refine (attrs_Read.calls (((⟨#[117, 61]⟩ : ByteArray) ++ a0) ++ (⟨#[62]⟩ : ByteArray)) 0 t228 t229 t230 true _ ?side1 A21.out).mono ?_); (case side1 => first | (with_reducible exact HG.out) | exact Gl.below HG.out (by repeat (first | (with_reducible first | exact HB.out | apply below_alloc | apply pw_below_drewN | apply below_drew1) | exact HB.out)) | exact HG.out); rintro e w59 ⟨v232, rfl, ho0, hb⟩; refine ⟨_, rfl, ?_⟩; have n0_ := Aside0.mk (Kd.R_lower ho0 (below_size (by repeat (first | (with_reducible first | exact HB.out | apply below_alloc | apply pw_below_drewN | apply below_drew1) | exact HB.out)))); have n1_ := Aside0.mk (below_step (by repeat (first | (with_reducible first | exact HB.out | apply below_alloc | apply pw_below_drewN | apply below_drew1) | exact HB.out)) hb); clear HB; have HO233 := n0_; have HB := n1_; clear n0_ n1_; (try clear hb); (try clear hb2); (try clear hk); (try clear hi); (try clear ho0)) | ((with_reducible refine gate_callee (f := 13) rfl ?_); refine goesL_ (some 81) rfl rfl Tryd.func13 (by kernel_rfl) rfl #[.string (((⟨#[117, 32, 61, 32]⟩ : ByteArray) ++ a0) ++ (⟨#[32, 119, 62]⟩ : ByteArray)), .int .i64 0] rfl (by (try simp only [List.map_toArray, List.map_cons, List.map_nil]); first | done | rfl | (simp only [List.length_drop, List.length_take]; rfl)) ?_; (with_reducible refine (attrs_Read.calls (((⟨#[117, 32, 61, 32]⟩ : ByteArray) ++ a0) ++ (⟨#[32, 119, 62]⟩ : ByteArray)) 0 t234 t235 t236 false _ ?side1 A24.out).mono ?_); (case side1 => first | (with_reducible exact HG.out) | exact Gl.below HG.out (by repeat (first | (with_reducible first | exact HB.out | apply below_alloc | apply pw_below_drewN | apply below_drew1) | exact HB.out)) | exact HG.out); rintro e w60 ⟨v238, rfl, ho0, hb⟩; refine ⟨_, rfl, ?_⟩; have n0_ := Aside0.mk (Kd.R_elder' (by (with_reducible repeat (first | apply Kd.R_alloc | apply Kd.R_drewN | apply Kd.R_drew)); exact HO233.out) (Kd.R_base ho0) hb); have n1_ := Aside0.mk (Kd.R_lower (Kd.R_new' ho0 (Kd.R_lt (by (with_reducible repeat (first | apply Kd.R_alloc | apply Kd.R_drewN | apply Kd.R_drew)); exact HO233.out))) (below_size (by repeat (first | (with_reducible first | exact HB.out | apply below_alloc | apply pw_below_drewN | apply below_drew1) | exact HB.out)))); have n2_ := Aside0.mk (below_step (by repeat (first | (with_reducible first | exact HB.out | apply below_alloc | apply pw_below_drewN | apply below_drew1) | exact HB.out)) hb); clear HO233; clear HB; have HO233 := n0_; have HO239 := n1_; have HB := n2_; clear n0_ n1_ n2_; (try clear hb); (try clear hb2); (try clear hk); (try clear hi); (try clear ho0)))
                            go_ret
                            exact ⟨by first | rfl | (simp [errW_none, errW_some] <;> rfl) | (simp [*, errW_none, errW_some] <;> rfl), by repeat (first | (with_reducible first | exact HB.out | apply below_alloc | apply pw_below_drewN | apply below_drew1) | exact HB.out)⟩
                        · replace c26 := Bool.eq_false_iff.mpr c26
                          subst c26
                          have H1 : (some false) = some r := by rw [if_neg (show ¬ (false = true) by decide)] at H; exact H
                          clear H
                          have H := H1
                          clear H1
                          obtain rfl := Option.some.inj H
                          go_wp2_with (first | ((with_reducible refine gate_callee (f := 13) rfl ?_); refine goesL_ (some 72) rfl rfl Tryd.func13 (by kernel_rfl) rfl #[.string (((⟨#[117, 61]⟩ : ByteArray) ++ a0) ++ (⟨#[62]⟩ : ByteArray)), .int .i64 0] rfl (by (try simp only [List.map_toArray, List.map_cons, List.map_nil]); first | done | rfl | (simp only [List.length_drop, List.length_take]; rfl)) ?_; (with_reducible refine (attrs_Read.calls (((⟨#[117, 61]⟩ : ByteArray) ++ a0) ++ (⟨#[62]⟩ : ByteArray)) 0 t228 t229 t230 false _ ?side1 A21.out).mono ?_); (case side1 => first | (with_reducible exact HG.out) | exact Gl.below HG.out (by repeat (first | (with_reducible first | exact HB.out | apply below_alloc | apply pw_below_drewN | apply below_drew1) | exact HB.out)) | exact HG.out); rintro e w61 ⟨v232, rfl, ho0, hb⟩; refine ⟨_, rfl, ?_⟩; have n0_ := Aside0.mk (Kd.R_lower ho0 (below_size (by repeat (first | (with_reducible first | exact HB.out | apply below_alloc | apply pw_below_drewN | apply below_drew1) | exact HB.out)))); have n1_ := Aside0.mk (below_step (by repeat (first | (with_reducible first | exact HB.out | apply below_alloc | apply pw_below_drewN | apply below_drew1) | exact HB.out)) hb); clear HB; have HO233 := n0_; have HB := n1_; clear n0_ n1_; (try clear hb); (try clear hb2); (try clear hk); (try clear hi); (try clear ho0)) | ((with_reducible refine gate_callee (f := 13) rfl ?_); refine goesL_ (some 81) rfl rfl Tryd.func13 (by kernel_rfl) rfl #[.string (((⟨#[117, 32, 61, 32]⟩ : ByteArray) ++ a0) ++ (⟨#[32, 119, 62]⟩ : ByteArray)), .int .i64 0] rfl (by (try simp only [List.map_toArray, List.map_cons, List.map_nil]); first | done | rfl | (simp only [List.length_drop, List.length_take]; rfl)) ?_; (with_reducible refine (attrs_Read.calls (((⟨#[117, 32, 61, 32]⟩ : ByteArray) ++ a0) ++ (⟨#[32, 119, 62]⟩ : ByteArray)) 0 t234 t235 t236 t237 _ ?side1 A24.out).mono ?_); (case side1 => first | (with_reducible exact HG.out) | exact Gl.below HG.out (by repeat (first | (with_reducible first | exact HB.out | apply below_alloc | apply pw_below_drewN | apply below_drew1) | exact HB.out)) | exact HG.out); rintro e w62 ⟨v238, rfl, ho0, hb⟩; refine ⟨_, rfl, ?_⟩; have n0_ := Aside0.mk (Kd.R_elder' (by (with_reducible repeat (first | apply Kd.R_alloc | apply Kd.R_drewN | apply Kd.R_drew)); exact HO233.out) (Kd.R_base ho0) hb); have n1_ := Aside0.mk (Kd.R_lower (Kd.R_new' ho0 (Kd.R_lt (by (with_reducible repeat (first | apply Kd.R_alloc | apply Kd.R_drewN | apply Kd.R_drew)); exact HO233.out))) (below_size (by repeat (first | (with_reducible first | exact HB.out | apply below_alloc | apply pw_below_drewN | apply below_drew1) | exact HB.out)))); have n2_ := Aside0.mk (below_step (by repeat (first | (with_reducible first | exact HB.out | apply below_alloc | apply pw_below_drewN | apply below_drew1) | exact HB.out)) hb); clear HO233; clear HB; have HO233 := n0_; have HO239 := n1_; have HB := n2_; clear n0_ n1_ n2_; (try clear hb); (try clear hb2); (try clear hk); (try clear hi); (try clear ho0)))
                          go_ret
                          exact ⟨by first | rfl | (simp [errW_none, errW_some] <;> rfl) | (simp [*, errW_none, errW_some] <;> rfl), by repeat (first | (with_reducible first | exact HB.out | apply below_alloc | apply pw_below_drewN | apply below_drew1) | exact HB.out)⟩
                      · replace c25 := Bool.eq_false_iff.mpr c25
                        subst c25
                        have H1 : (some false) = some r := by rw [if_neg (show ¬ (false = true) by decide)] at H; exact H
                        clear H
                        have H := H1
                        clear H1
                        obtain rfl := Option.some.inj H
                        go_wp2_with (first | ((with_reducible refine gate_callee (f := 13) rfl ?_); refine goesL_ (some 72) rfl rfl Tryd.func13 (by kernel_rfl) rfl #[.string (((⟨#[117, 61]⟩ : ByteArray) ++ a0) ++ (⟨#[62]⟩ : ByteArray)), .int .i64 0] rfl (by (try simp only [List.map_toArray, List.map_cons, List.map_nil]); first | done | rfl | (simp only [List.length_drop, List.length_take]; rfl)) ?_; (with_reducible refine (attrs_Read.calls (((⟨#[117, 61]⟩ : ByteArray) ++ a0) ++ (⟨#[62]⟩ : ByteArray)) 0 t228 t229 t230 t231 _ ?side1 A21.out).mono ?_); (case side1 => first | (with_reducible exact HG.out) | exact Gl.below HG.out (by repeat (first | (with_reducible first | exact HB.out | apply below_alloc | apply pw_below_drewN | apply below_drew1) | exact HB.out)) | exact HG.out); rintro e w63 ⟨v232, rfl, ho0, hb⟩; refine ⟨_, rfl, ?_⟩; have n0_ := Aside0.mk (Kd.R_lower ho0 (below_size (by repeat (first | (with_reducible first | exact HB.out | apply below_alloc | apply pw_below_drewN | apply below_drew1) | exact HB.out)))); have n1_ := Aside0.mk (below_step (by repeat (first | (with_reducible first | exact HB.out | apply below_alloc | apply pw_below_drewN | apply below_drew1) | exact HB.out)) hb); clear HB; have HO233 := n0_; have HB := n1_; clear n0_ n1_; (try clear hb); (try clear hb2); (try clear hk); (try clear hi); (try clear ho0)) | ((with_reducible refine gate_callee (f := 13) rfl ?_); refine goesL_ (some 81) rfl rfl Tryd.func13 (by kernel_rfl) rfl #[.string (((⟨#[117, 32, 61, 32]⟩ : ByteArray) ++ a0) ++ (⟨#[32, 119, 62]⟩ : ByteArray)), .int .i64 0] rfl (by (try simp only [List.map_toArray, List.map_cons, List.map_nil]); first | done | rfl | (simp only [List.length_drop, List.length_take]; rfl)) ?_; (with_reducible refine (attrs_Read.calls (((⟨#[117, 32, 61, 32]⟩ : ByteArray) ++ a0) ++ (⟨#[32, 119, 62]⟩ : ByteArray)) 0 t234 t235 t236 t237 _ ?side1 A24.out).mono ?_); (case side1 => first | (with_reducible exact HG.out) | exact Gl.below HG.out (by repeat (first | (with_reducible first | exact HB.out | apply below_alloc | apply pw_below_drewN | apply below_drew1) | exact HB.out)) | exact HG.out); rintro e w64 ⟨v238, rfl, ho0, hb⟩; refine ⟨_, rfl, ?_⟩; have n0_ := Aside0.mk (Kd.R_elder' (by (with_reducible repeat (first | apply Kd.R_alloc | apply Kd.R_drewN | apply Kd.R_drew)); exact HO233.out) (Kd.R_base ho0) hb); have n1_ := Aside0.mk (Kd.R_lower (Kd.R_new' ho0 (Kd.R_lt (by (with_reducible repeat (first | apply Kd.R_alloc | apply Kd.R_drewN | apply Kd.R_drew)); exact HO233.out))) (below_size (by repeat (first | (with_reducible first | exact HB.out | apply below_alloc | apply pw_below_drewN | apply below_drew1) | exact HB.out)))); have n2_ := Aside0.mk (below_step (by repeat (first | (with_reducible first | exact HB.out | apply below_alloc | apply pw_below_drewN | apply below_drew1) | exact HB.out)) hb); clear HO233; clear HB; have HO233 := n0_; have HO239 := n1_; have HB := n2_; clear n0_ n1_ n2_; (try clear hb); (try clear hb2); (try clear hk); (try clear hi); (try clear ho0)))
                        go_ret
                        exact ⟨by first | rfl | (simp [errW_none, errW_some] <;> rfl) | (simp [*, errW_none, errW_some] <;> rfl), by repeat (first | (with_reducible first | exact HB.out | apply below_alloc | apply pw_below_drewN | apply below_drew1) | exact HB.out)⟩
                    · rw [if_neg c23] at H
                      exact absurd H (by simp)
                  · rw [if_neg c22] at H
                    exact absurd H (by simp)
                · rw [if_neg c20] at H
                  exact absurd H (by simp)
              · rw [if_neg c19] at H
                exact absurd H (by simp)

/-- THE ONE PURE STATEMENT of flaillaw08_AttrsPlain: yours. -/
def flaillaw08_AttrsPlain.Pure : Prop := ∀ (a0 : ByteArray), a0.size ≤ 140737488351232 → ∃ k, flaillaw08_AttrsPlain.f k a0 = some true
theorem flaillaw08_AttrsPlain.walk (P : flaillaw08_AttrsPlain.Pure) (a0 : ByteArray) (w : World) (hG : Gl w) (w0 : a0.size ≤ 140737488351232) :
    Calls Tryd.prog 6 #[.string a0] w fun e w' => e = .returned (.bool true) ∧ Below w.heap.size w w' := by
  obtain ⟨k, h⟩ := P a0 w0
  refine (flaillaw08_AttrsPlain.calls k a0 true w hG h).mono ?_
  rintro e w' ⟨rfl, hd⟩
  exact ⟨rfl, hd⟩

end Go.Proofs.YtfhjfidkcdcjnaaDoor.Q

/- AttrsPlain: the pure statement. -/
namespace Go.Proofs.YtfhjfidkcdcjnaaDoor.Pure
open Go Go.RowKit Go.Proofs.YtfhjfidkcdcjnaaDoor.Q Go.Proofs.YtfhjfidkcdcjnaaDoorW.PrintWords Go.Proofs.YtfhjfidkcdcjnaaDoorW.PrintLast Go.Proofs.YtfhjfidkcdcjnaaDoorW.PrintMore
set_option linter.unusedVariables false
set_option linter.unusedSimpArgs false

theorem plain_big {n : Nat} (h : n < 4294967296) : n ≤ 9223372036854775807 := Nat.le_trans (Nat.le_of_lt h) (Nat.le_of_ble_eq_true rfl)
theorem plain_app (a b : ByteArray) : Fl.toL (a ++ b) = Fl.toL a ++ Fl.toL b := by
  unfold Fl.toL
  rw [ByteArray.data_append, Array.toList_append]
theorem plain_end (v : ByteArray) (h1 : v.size ≤ 60) (h0 : v.size ≠ 0) (hp : ∀ c ∈ Fl.toL v, Fl.plainC c = true) : Ev (fun k => flaillaw08_AttrsPlain.l0 k v true ((v.size : Nat) : Int)) true := by
  have hne : Fl.toL v ≠ [] := by
    intro e; have := congrArg List.length e; rw [Fl.toL_length] at this; exact h0 this
  obtain ⟨T, hT⟩ : ∃ T, ((⟨#[117, 61]⟩ : ByteArray) ++ v) ++ (⟨#[62]⟩ : ByteArray) = T := ⟨_, rfl⟩
  obtain ⟨U, hU⟩ : ∃ U, ((⟨#[117, 32, 61, 32]⟩ : ByteArray) ++ v) ++ (⟨#[32, 119, 62]⟩ : ByteArray) = U := ⟨_, rfl⟩
  have hTl : Fl.toL T = 117 :: ([] ++ 61 :: ([] ++ (Fl.toL v ++ [62]))) := by
    rw [← hT, plain_app, plain_app]; rfl
  have hUl : Fl.toL U = 117 :: ([32] ++ 61 :: ([32] ++ (Fl.toL v ++ [32, 119, 62]))) := by
    rw [← hU, plain_app, plain_app]; rfl
  have hTs : T.size = v.size + 3 := by
    have := congrArg List.length hTl
    rw [Fl.toL_length] at this; simp at this; omega
  have hUs : U.size = v.size + 7 := by
    have := congrArg List.length hUl
    rw [Fl.toL_length] at this; simp at this; omega
  have hrT : Fl.readL (Fl.toL T) = some ([([117], Fl.toL v)], false, []) := by
    rw [Fl.readL_eq (n := v.size + 3 + 1) (by rw [Fl.toL_length]; omega), hTl, Fl.readN_plain _ 117 [] [] (Fl.toL v) [62] [] (by decide) (by simp) (by simp) hp hne (Fl.Hd.cons (by decide) _)]
    rw [show v.size + 3 = (v.size + 2) + 1 by omega, Fl.readN_end]
    rfl
  have hrU : Fl.readL (Fl.toL U) = some ([([117], Fl.toL v), ([119], [])], false, []) := by
    rw [Fl.readL_eq (n := v.size + 7 + 1) (by rw [Fl.toL_length]; omega), hUl, Fl.readN_plain _ 117 [32] [32] (Fl.toL v) [32, 119, 62] [] (by decide) (by decide) (by decide) hp hne (Fl.Hd.cons (by decide) _)]
    rw [Fl.readN_blank _ 32 (by decide), show v.size + 7 = (v.size + 5) + 1 + 1 by omega, Fl.readN_bare _ 119 _ _ (by decide), Fl.readN_end]
    rfl
  have hT2 := read_some (by omega) hrT
  have hU2 := read_some (by omega) hrU
  rw [hTs] at hT2
  rw [hUs] at hU2
  have s1 := same_ev ([([117], Fl.toL v)].map toS) (by simp)
  have s2 := same_ev ([([117], Fl.toL v), ([119], [])].map toS) (by simp)
  have w3 : wrap64 ((v.size : Int) + 3) = ((v.size + 3 : Nat) : Int) := by rw [Fl.wrap_in _ (by omega) (by omega)]; omega
  have w7 : wrap64 ((v.size : Int) + 7) = ((v.size + 7 : Nat) : Int) := by rw [Fl.wrap_in _ (by omega) (by omega)]; omega
  have z1 : ((⟨#[117, 61]⟩ : ByteArray) ++ v).size = 2 + v.size := by rw [ByteArray.size_append]; rfl
  have z2 : ((⟨#[117, 32, 61, 32]⟩ : ByteArray) ++ v).size = 4 + v.size := by rw [ByteArray.size_append]; rfl
  refine Ev.step (f := fun k => (flailref08_Same.f k ([([117], Fl.toL v)].map toS) ([([117], Fl.toL v)].map toS)).bind fun t => if t = true then ((flailref08_Same.f k ([([117], Fl.toL v), ([119], [])].map toS) ([([117], Fl.toL v), ([119], [])].map toS)).bind fun t => some t) else some false) (fun k => ?_) ?_
  · simp only [flaillaw08_AttrsPlain.l0]
    rw [if_neg (by omega), if_pos (plain_big (by omega)), if_pos (plain_big (by rw [z1]; omega)), hT, hT2, w3, w7]
    simp only [Option.bind_some]
    rw [if_pos (plain_big (by omega)), if_pos (plain_big (by rw [z2]; omega)), hU, hU2]
    simp only [Option.bind_some, if_true, List.length_nil, Nat.sub_zero, Bool.false_eq_true, if_false]
    rfl
  · refine Ev.bind (f := fun k t => if t = true then ((flailref08_Same.f k ([([117], Fl.toL v), ([119], [])].map toS) ([([117], Fl.toL v), ([119], [])].map toS)).bind fun t => some t) else some false) s1 ?_
    simp only [if_true]
    exact Ev.bind (f := fun _ t => some t) s2 (Ev.now true)
theorem plainC_of (c : UInt8) (x : Int) (hx : x = (c.toNat : Int)) (a : ¬ x = 32) (b : ¬ x = 9) (d : ¬ x = 10) (e : ¬ x = 12) (f : ¬ x = 62) (g : ¬ x = 34) (h : ¬ x = 39) (i : ¬ x = 38) (j : ¬ x = 0) : Fl.plainC c = true := by
  have := Fl.byteAll (fun c => c.toNat == 32 || c.toNat == 9 || c.toNat == 10 || c.toNat == 12 || c.toNat == 62 || c.toNat == 34 || c.toNat == 39 || c.toNat == 38 || c.toNat == 0 || Fl.plainC c) (by decide +kernel) c
  cases hp : Fl.plainC c with
  | true => rfl
  | false =>
    rw [hp] at this
    simp only [Bool.or_eq_true, beq_iff_eq, Bool.false_eq_true, or_false] at this
    omega
theorem plain_l0 (v : ByteArray) (h1 : v.size ≤ 60) (h0 : v.size ≠ 0) :
    ∀ (d j : Nat), j + d = v.size → (∀ i (hi : i < j) (hv : i < (Fl.toL v).length), Fl.plainC ((Fl.toL v)[i]) = true) → Ev (fun k => flaillaw08_AttrsPlain.l0 k v true (j : Int)) true := by
  intro d
  induction d with
  | zero =>
    intro j hj hp
    have := plain_end v h1 h0 (fun c hc => by
      obtain ⟨i, hi, rfl⟩ := List.getElem_of_mem hc
      exact hp i (by rw [Fl.toL_length] at hi; omega) hi)
    rw [show j = v.size by omega]; exact this
  | succ d ih =>
    intro j hj hp
    have hb := bt_toL v j (by omega)
    obtain ⟨x, hx⟩ : ∃ x, bt v (j : Int) = x := ⟨_, rfl⟩
    by_cases hpl : Fl.plainC ((Fl.toL v)[j]'(by rw [Fl.toL_length]; omega)) = true
    · have hih := ih (j + 1) (by omega) (fun i hi hv => by
        rcases Nat.lt_or_ge i j with h | h
        · exact hp i h hv
        · have : i = j := by omega
          subst this; exact hpl)
      have hf : ∀ n : Nat, Fl.plainC (UInt8.ofNat n) = false → ¬ (bt v (j : Int) = (n : Int) ∧ n < 256) := by
        intro n hn ⟨h, h2⟩
        rw [hb] at h
        have : (Fl.toL v)[j]'(by rw [Fl.toL_length]; omega) = UInt8.ofNat n := by
          apply UInt8.toNat_inj.1
          rw [UInt8.toNat_ofNat_of_lt' h2]; omega
        rw [this, hn] at hpl; cases hpl
      refine Ev.step (f := fun k => flaillaw08_AttrsPlain.l0 k v true ((j + 1 : Nat) : Int)) (fun k => ?_) hih
      simp only [flaillaw08_AttrsPlain.l0]
      rw [if_pos (by omega), if_pos (by omega), if_neg (show ¬ bt v (j : Int) = 32 from fun h => hf 32 (by decide) ⟨h, by omega⟩), if_neg (show ¬ bt v (j : Int) = 9 from fun h => hf 9 (by decide) ⟨h, by omega⟩), if_neg (show ¬ bt v (j : Int) = 10 from fun h => hf 10 (by decide) ⟨h, by omega⟩), if_neg (show ¬ bt v (j : Int) = 12 from fun h => hf 12 (by decide) ⟨h, by omega⟩), if_neg (show ¬ bt v (j : Int) = 62 from fun h => hf 62 (by decide) ⟨h, by omega⟩), if_neg (show ¬ bt v (j : Int) = 34 from fun h => hf 34 (by decide) ⟨h, by omega⟩), if_neg (show ¬ bt v (j : Int) = 39 from fun h => hf 39 (by decide) ⟨h, by omega⟩), if_neg (show ¬ bt v (j : Int) = 38 from fun h => hf 38 (by decide) ⟨h, by omega⟩), if_neg (show ¬ bt v (j : Int) = 0 from fun h => hf 0 (by decide) ⟨h, by omega⟩), Fl.wrap_in _ (by omega) (by omega)]
      rfl
    · refine Ev.step (f := fun k => some true) (fun k => ?_) (Ev.now true)
      simp only [flaillaw08_AttrsPlain.l0]
      rw [if_pos (by omega), if_pos (by omega)]
      rw [hx]
      by_cases a : x = 32
      · rw [if_pos a]
      rw [if_neg a]
      by_cases b : x = 9
      · rw [if_pos b]
      rw [if_neg b]
      by_cases d : x = 10
      · rw [if_pos d]
      rw [if_neg d]
      by_cases e : x = 12
      · rw [if_pos e]
      rw [if_neg e]
      by_cases f : x = 62
      · rw [if_pos f]
      rw [if_neg f]
      by_cases g : x = 34
      · rw [if_pos g]
      rw [if_neg g]
      by_cases h : x = 39
      · rw [if_pos h]
      rw [if_neg h]
      by_cases i : x = 38
      · rw [if_pos i]
      rw [if_neg i]
      by_cases m : x = 0
      · rw [if_pos m]
      exact absurd (plainC_of _ x (by rw [← hx, hb]) a b d e f g h i m) hpl
theorem AttrsPlain : flaillaw08_AttrsPlain.Pure := by
  intro v _
  apply Ev.rounds
  unfold flaillaw08_AttrsPlain.f
  refine Ev.bind awake_ev ?_
  have hout : Ev (fun k => flaillaw08_AttrsPlain.j0 k v true true) true := by
    refine Ev.step (f := fun k => some true) (fun k => ?_) (Ev.now true)
    simp only [flaillaw08_AttrsPlain.j0]
    rw [if_pos trivial]
  by_cases hs : (v.size : Int) > 60
  · simp only [if_pos hs]; exact hout
  · simp only [if_neg hs]
    by_cases h0 : v.size = 0
    · rw [show ((v.size : Int) == 0) = true by rw [h0]; rfl]; exact hout
    · rw [show ((v.size : Int) == 0) = false by rw [beq_eq_false_iff_ne]; omega]
      refine Ev.step (f := fun k => flaillaw08_AttrsPlain.l0 k v true ((0 : Nat) : Int)) (fun k => ?_) (plain_l0 v (by omega) h0 v.size 0 (by omega) (fun i hi => by omega))
      simp only [flaillaw08_AttrsPlain.j0]
      rw [if_neg (by simp)]; rfl
end Go.Proofs.YtfhjfidkcdcjnaaDoor.Pure

/- The law AttrsPlain: its row and its card. -/
namespace Go.Proofs.YtfhjfidkcdcjnaaDoor.attrsPlain
open Go.ChangeShapes Go.WideShapes Go.ChangeAt Go.RowKit
open Go.ChangeMaps (open_string shut_string)
set_option linter.unusedVariables false
set_option maxRecDepth 100000 in
theorem lifted (os : Os) (started : os.Started) (H : Type) (enc : TypeId × Value → H) :
    ReturnsInHanded {} Tryd.checked os 6 .any (fun w args => (Rows.attrsPlainSpec.pre enc Tryd.prog Tryd.f6 Rows.attrsPlainRow.domain false w args ∧ laidMetH Tryd.prog laid7 w) ∧ sizedMet enc Tryd.prog Tryd.f6 (OpenSpec.ofChange Rows.attrsPlainSpec) false w args) (Rows.attrsPlainSpec.post enc Tryd.prog Tryd.f6 false true false false) := by
  refine row_returns started (by kernel_rfl) Tryd.func6 #[.string ByteArray.empty] (by kernel_rfl) (by kernel_rfl) (by kernel_rfl) ?_
  intro W base args ds gs before hval0 hW hsz0 hG
  have hsz : (DataW.weightsEach Tryd.prog (Tryd.f6.params.toList ++ Rows.attrsPlainSpec.plain.varTypes Tryd.prog) (ds ++ gs)).all (· ≤ reachBytes) = true := hsz0
  have hval : ∀ (j : Nat) t v, Tryd.f6.params[j]? = some t → args[j]? = some v → Value.okWide Tryd.prog W .any base t v := hval0
  have hW' := hW
  obtain ⟨p, q, hA0, hV, rfl, hfz, hnd⟩ := hW
  have hA : DataW.TrodAll enc Tryd.prog W 0 (fun _ => true) true Tryd.f6.params.toList args.toList ds p := hA0
  rw [Tryd.params6] at hA hval hsz
  obtain ⟨v0, vs0, d0, ds0, p0, q0, hargs, rfl, rfl, h0, r0⟩ := trodAll_cons hA
  obtain ⟨rfl, rfl, rfl⟩ := trodAll_nil r0
  obtain rfl : args = #[v0] := by cases args; simp_all
  obtain ⟨rfl, rfl⟩ := trodVars_none hV
  obtain ⟨a0, rfl, rfl, rfl, y0⟩ := open_string Tryd.underlying9 (hval 0 9 v0 rfl rfl) h0
  have w0 : a0.size ≤ 140737488351232 := by
    have z := sized_string hsz (j := 0) (t := 9) rfl rfl
    rw [Array.length_toList] at z
    exact z
  clear hA0 hval0 hsz0 hsz
  refine (Q.flaillaw08_AttrsPlain.walk Pure.AttrsPlain a0 W hG w0).mono fun e W' ⟨he, bel⟩ => ?_
  subst he
  exact ⟨_, rfl, _, _, _, [], _, [], hW', trodAll_mk1 (shut_bool Tryd.underlying4 _), (trodAll_cons_mk (shut_string Tryd.underlying9 y0) trodAll_mk0), rfl, bel.frame _, fun h => by cases h⟩
theorem over : Rows.attrsPlainRow.holds Tryd.pinned (OpenSpec.ofChange Rows.attrsPlainSpec) :=
  OpenClaim.holds_of_wide 6 Tryd.f6 rfl rfl rfl rfl rfl rfl rfl ⟨rfl, rfl, rfl, rfl, rfl⟩ rfl rfl rfl rfl rfl (by kernel_rfl) Tryd.func6 (by kernel_rfl)
    (of_decide_eq_true (by kernel_rfl)) (by unfold Func.isWrapper; first | (rw [if_pos (by decide +kernel)]; kernel_rfl) | (rw [if_neg (by decide +kernel)]; exact ⟨rfl, rfl⟩))
    (fun os started H enc _ => lifted os started H enc)
theorem proved : Rows.AttrsPlainCardSaid :=
  Claim7.holds_tied_plain_at .later [] [.data, .data, .data, .data, .sentinel, .sentinel, .pinned] true Rows.attrsPlainCard.stood.harness true over (fun _ h => by cases h) (by kernel_rfl) (fun _ h => by cases h) attrsPlain_row_tie rfl ⟨rfl, rfl⟩ (by kernel_rfl) rfl
    (card_in 6 Tryd.func6 (by kernel_rfl) [9] Tryd.params6 (by kernel_rfl) (by kernel_rfl)) (by kernel_rfl)
end Go.Proofs.YtfhjfidkcdcjnaaDoor.attrsPlain
namespace Go.Proofs.YtfhjfidkcdcjnaaDoor
theorem attrsPlain_holds : Rows.AttrsPlainCardSaid := attrsPlain.proved
#print axioms attrsPlain_holds
end Go.Proofs.YtfhjfidkcdcjnaaDoor
