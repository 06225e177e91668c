/- The law AttrsBlanks, proved whole (for every input, as the given card says; no condition beyond it): its row and its card, and what they lean on. -/
import Derived.Test.YtfhjfidkcdcjnaaDoorB3
import Derived.Test.YtfhjfidkcdcjnaaDoorTie
import Derived.Test.YtfhjfidkcdcjnaaDoorCards
set_option linter.unusedVariables false
set_option linter.unusedSimpArgs false
set_option linter.unusedSectionVars false

/- Written attributes, and numbers in references: plain laws. No program in sight. -/
namespace Go.Proofs.YtfhjfidkcdcjnaaDoor.Fl
open Go
set_option linter.unusedVariables false
set_option linter.unusedSimpArgs false

/-! A number's digits. -/
def digF : Nat → Nat → Bs
  | 0, _ => []
  | f + 1, n => if n < 10 then [UInt8.ofNat (48 + n)] else digF f (n / 10) ++ [UInt8.ofNat (48 + n % 10)]
def digits (n : Nat) : Bs := digF (n + 1) n
theorem digF_same : ∀ (f g n : Nat), n < f → n < g → digF f n = digF g n := by
  intro f
  induction f with
  | zero => intro g n h; omega
  | succ f ih =>
    intro g n h1 h2
    obtain ⟨g, rfl⟩ : ∃ k, g = k + 1 := ⟨g - 1, by omega⟩
    unfold digF
    split
    · rfl
    · rw [ih g (n / 10) (by omega) (by omega)]
theorem digits_lt {n : Nat} (h : n < 10) : digits n = [UInt8.ofNat (48 + n)] := by
  unfold digits digF; rw [if_pos h]
theorem digits_ge {n : Nat} (h : ¬ n < 10) : digits n = digits (n / 10) ++ [UInt8.ofNat (48 + n % 10)] := by
  show digF (n + 1) n = _
  unfold digF; rw [if_neg h, digF_same n (n / 10 + 1) (n / 10) (by omega) (by omega)]; rfl
theorem digit_dig (d : Nat) (h : d < 10) : dig (UInt8.ofNat (48 + d)) = true ∧ hexv (UInt8.ofNat (48 + d)) = (d : Int) := by
  have := List.all_eq_true.1 (show ((List.range 10).all fun d => dig (UInt8.ofNat (48 + d)) && (hexv (UInt8.ofNat (48 + d)) == (d : Int))) = true by decide +kernel) d (List.mem_range.2 h)
  simpa using this
theorem digits_dig : ∀ (f n : Nat), n < f → ∀ c ∈ digits n, dig c = true := by
  intro f
  induction f with
  | zero => intro n h; omega
  | succ f ih =>
    intro n h c hc
    by_cases hn : n < 10
    · rw [digits_lt hn] at hc
      rw [List.mem_singleton.1 hc]; exact (digit_dig n hn).1
    · rw [digits_ge hn] at hc
      rcases List.mem_append.1 hc with hc | hc
      · exact ih (n / 10) (by omega) c hc
      · rw [List.mem_singleton.1 hc]; exact (digit_dig (n % 10) (by omega)).1
theorem digits_ne (n : Nat) : digits n ≠ [] := by
  by_cases hn : n < 10
  · rw [digits_lt hn]; simp
  · rw [digits_ge hn]; simp
theorem digits_len : ∀ (f n : Nat), n < f → n < 4294967296 → (digits n).length ≤ 10 := by
  intro f
  have key : ∀ (k n : Nat), n < 10 ^ (k + 1) → (digits n).length ≤ k + 1 := by
    intro k
    induction k with
    | zero => intro n h; rw [digits_lt (by omega)]; simp
    | succ k ih =>
      intro n h
      by_cases hn : n < 10
      · rw [digits_lt hn]; simp
      · rw [digits_ge hn, List.length_append]
        have := ih (n / 10) (by rw [Nat.pow_succ] at h; omega)
        simp; omega
  intro n _ h
  exact key 9 n (by omega)
theorem valTo_append (B : Nat) : ∀ (a : Bs) (n : Nat) (b : Bs), valTo B n (a ++ b) = (valTo B n a).bind fun m => valTo B m b
  | [], n, b => rfl
  | c :: a, n, b => by
    rw [List.cons_append]
    show (if hexv c < 0 ∨ (B : Int) ≤ hexv c then none else valTo B _ (a ++ b)) = (if hexv c < 0 ∨ (B : Int) ≤ hexv c then none else valTo B _ a).bind _
    split
    · rfl
    · exact valTo_append B a _ b
theorem valTo_one (n d : Nat) (h : d < 10) : valTo 10 n [UInt8.ofNat (48 + d)] = some (min (n * 10 + d) 1114112) := by
  have e := (digit_dig d h).2
  show (if hexv (UInt8.ofNat (48 + d)) < 0 ∨ ((10 : Nat) : Int) ≤ hexv (UInt8.ofNat (48 + d)) then none else some (min (n * 10 + (hexv (UInt8.ofNat (48 + d))).toNat) 1114112)) = _
  rw [e, if_neg (by omega), Int.toNat_natCast]
theorem digits_val : ∀ (f n : Nat), n < f → valTo 10 0 (digits n) = some (min n 1114112) := by
  intro f
  induction f with
  | zero => intro n h; omega
  | succ f ih =>
    intro n h
    by_cases hn : n < 10
    · rw [digits_lt hn, valTo_one 0 n hn]; simp
    · rw [digits_ge hn, valTo_append, ih (n / 10) (by omega)]
      simp only [Option.bind_some]
      rw [valTo_one _ _ (by omega)]
      congr 1
      omega
theorem while_all {p : UInt8 → Bool} {l : Bs} (h : ∀ c ∈ l, p c = true) : l.takeWhile p = l ∧ l.dropWhile p = [] := by
  have := all_app (p := p) (m := []) h (Hd.nil p)
  simpa using this
/-- A reference by a number, written with ten digits, and nothing behind it. -/
theorem decode_number (n : Nat) (hn : n < 4294967296) : decode true (38 :: 35 :: digits n) = toL (Q.fixB (min n 1114112 : Nat)) := by
  obtain ⟨x, r, hx⟩ : ∃ x r, digits n = x :: r := by
    cases h : digits n with
    | nil => exact absurd h (digits_ne n)
    | cons x r => exact ⟨x, r, rfl⟩
  have hd := digits_dig (n + 1) n (by omega)
  have hisx : isX x = false := by
    have hdx : dig x = true := hd x (by rw [hx]; simp)
    have := byteAll (fun c => !(dig c) || !(isX c)) (by decide +kernel) x
    rw [hdx] at this; simpa using this
  have hw := while_all (p := pdig false) (l := digits n) (fun c hc => by unfold pdig; rw [hd c hc]; rfl)
  have hnt : numTail false (digits n) = some (toL (Q.fixB (min n 1114112 : Nat)), (digits n).length) := by
    unfold numTail
    rw [hw.1]
    have hv : value (digits n) false = ((min n 1114112 : Nat) : Int) := by
      unfold value
      rw [if_neg (digits_ne n)]
      show (match valTo 10 0 (digits n) with | none => _ | some n => _) = _
      rw [digits_val (n + 1) n (by omega)]
    rw [hv, if_neg (by omega), List.drop_length]
    simp [semi]
  have hnr : numRead (35 :: digits n) = some (toL (Q.fixB (min n 1114112 : Nat)), (digits n).length + 1) := by
    unfold numRead
    simp only [if_true]
    rw [hx]
    simp only [hisx]
    rw [← hx, hnt]; rfl
  have hr : refRead true (35 :: digits n) = (toL (Q.fixB (min n 1114112 : Nat)), (digits n).length + 1) := by
    unfold refRead; rw [hnr]
  rw [decode_amp, hr]
  simp only [List.drop_succ_cons, List.drop_length, decode_nil, List.append_nil]
theorem encode_no0 (n : Int) (h0 : 0 < n) : ∀ d ∈ toL (Utf8.encode n), d ≠ 0 := by
  intro d hd
  unfold Utf8.encode at hd
  have hc : 0 < (if Utf8.valid n then n.toNat else Utf8.runeError) ∧ (if Utf8.valid n then n.toNat else Utf8.runeError) < 1114112 := by
    split
    · rename_i hv
      have : n ≤ 1114111 := by
        unfold Utf8.valid at hv
        simp at hv; omega
      omega
    · decide
  obtain ⟨c, hcc⟩ : ∃ c, (if Utf8.valid n then n.toNat else Utf8.runeError) = c := ⟨_, rfl⟩
  rw [hcc] at hd hc
  have hb : ∀ m : Nat, 0 < m → m < 256 → UInt8.ofNat m ≠ 0 := by
    intro m h1 h2 e
    have := congrArg UInt8.toNat e
    rw [UInt8.toNat_ofNat_of_lt' h2] at this
    have : (0 : UInt8).toNat = 0 := rfl
    omega
  dsimp only at hd
  split at hd
  · change d ∈ ([_] : Bs) at hd
    simp only [List.mem_cons, List.not_mem_nil, or_false] at hd
    subst hd; exact hb _ (by omega) (by omega)
  · split at hd
    · change d ∈ ([_, _] : Bs) at hd
      simp only [List.mem_cons, List.not_mem_nil, or_false] at hd
      rcases hd with rfl | rfl <;> exact hb _ (by omega) (by omega)
    · split at hd
      · change d ∈ ([_, _, _] : Bs) at hd
        simp only [List.mem_cons, List.not_mem_nil, or_false] at hd
        rcases hd with rfl | rfl | rfl <;> exact hb _ (by omega) (by omega)
      · change d ∈ ([_, _, _, _] : Bs) at hd
        simp only [List.mem_cons, List.not_mem_nil, or_false] at hd
        rcases hd with rfl | rfl | rfl | rfl <;> exact hb _ (by omega) (by omega)
theorem signB_no0 (n : Int) (h : n ≠ 0) : ∀ d ∈ toL (Q.signB n), d ≠ 0 := by
  unfold Q.signB
  split
  · intro d hd
    have hd' : d ∈ bad := hd
    simp [bad] at hd'; rcases hd' with rfl | rfl | rfl <;> decide
  · exact encode_no0 n (by omega)
theorem fixB_no0 (n : Int) : ∀ d ∈ toL (Q.fixB n), d ≠ 0 := by
  unfold Q.fixB
  split
  · intro d hd
    have hd' : d ∈ bad := hd
    simp [bad] at hd'; rcases hd' with rfl | rfl | rfl <;> decide
  · split
    · rename_i h
      apply signB_no0
      have := List.all_eq_true.1 (show ((List.range 32).all fun j => Q.fixTab.getD j 0 != 0) = true by decide +kernel) (n - 128).toNat (List.mem_range.2 (by omega))
      simpa using this
    · rename_i h _; exact signB_no0 n h
theorem fixB_out (n : Int) (h : 1114111 < n) : Q.fixB n = ofL bad := by
  unfold Q.fixB Q.signB
  rw [if_neg (by omega), if_neg (by omega), if_pos (by omega)]
theorem fixB_top (n : Nat) : Q.fixB ((min n 1114112 : Nat) : Int) = Q.fixB (n : Int) := by
  rcases Nat.lt_or_ge 1114112 n with h | h
  · rw [Nat.min_eq_right (by omega), fixB_out _ (by omega), fixB_out _ (by omega)]
  · rw [Nat.min_eq_left h]
theorem clean_none {l : Bs} (h : ∀ d ∈ l, d ≠ 0) : clean l = l := clean_same (List.count_eq_zero.2 fun hm => h 0 hm rfl)
/-- One attribute, written in quotes. -/
theorem readN_quoted (n : Nat) (nm v r : Bs) (q x : UInt8) (acc : List Att) (hx : nend [47, 62, 61] x = true) (hnm : ∀ c ∈ nm, nend [47, 62, 61] c = true) (hq : q = 34 ∨ q = 39) (hv : v.count q = 0) :
    readN (n + 1) (x :: nm ++ 61 :: q :: v ++ q :: r) acc = readN n r (add acc (clean (lower (x :: nm))) (clean (decode true v))) := by
  have hs : space x = false ∧ x ≠ 62 ∧ x ≠ 47 := by
    have := byteAll (fun x => !(nend [47, 62, 61] x) || (!(space x) && x != 62 && x != 47)) (by decide +kernel) x
    rw [hx] at this; simpa [and_assoc] using this
  have e := all_app (p := nend [47, 62, 61]) (m := 61 :: q :: v ++ q :: r) hnm (Hd.cons (by decide) _)
  rw [show x :: nm ++ 61 :: q :: v ++ q :: r = x :: (nm ++ (61 :: q :: v ++ q :: r)) by simp]
  conv => lhs; unfold readN
  rw [List.dropWhile_cons, hs.1]
  simp only [Bool.false_eq_true, if_false]
  rw [if_neg hs.2.1, if_neg hs.2.2, e.1, e.2]
  have hval : valueL (61 :: q :: v ++ q :: r) = some (v, r) := by
    unfold valueL
    rw [show (61 :: q :: v ++ q :: r : Bs) = 61 :: (q :: (v ++ q :: r)) by simp, List.dropWhile_cons, show space 61 = false from by decide]
    simp only [Bool.false_eq_true, if_false, if_true]
    rw [List.dropWhile_cons, show space q = false by rcases hq with rfl | rfl <;> decide]
    simp only [Bool.false_eq_true, if_false]
    unfold valueTo
    simp only
    rw [if_pos hq, quotedL_app hv]
  simp only [hval]

/-! A value without quotes. -/
def plainC (c : UInt8) : Bool := !(space c) && c != 62 && c != 34 && c != 39 && c != 38 && c != 0
theorem plain_nend (c : UInt8) (h : plainC c = true) : nend [62] c = true := by
  have := byteAll (fun c => !(plainC c) || nend [62] c) (by decide +kernel) c
  rw [h] at this; simpa using this
theorem plain_facts (c : UInt8) (h : plainC c = true) : space c = false ∧ c ≠ 62 ∧ c ≠ 34 ∧ c ≠ 39 ∧ c ≠ 38 ∧ c ≠ 0 := by
  unfold plainC at h
  simpa [and_assoc] using h
/-- A value of plain bytes, behind its name (one byte) and the sign '=' with n blanks behind it, ahead of m. -/
theorem readN_plain (n : Nat) (x : UInt8) (b1 b2 v m : Bs) (acc : List Att) (hx : nend [47, 62, 61] x = true) (hb1 : ∀ c ∈ b1, space c = true) (hb2 : ∀ c ∈ b2, space c = true) (hv : ∀ c ∈ v, plainC c = true) (hne : v ≠ []) (hm : Hd (nend [62]) m) :
    readN (n + 1) (x :: (b1 ++ 61 :: (b2 ++ (v ++ m)))) acc = readN n m (add acc (clean (lower [x])) v) := by
  have hs : space x = false ∧ x ≠ 62 ∧ x ≠ 47 := by
    have := byteAll (fun x => !(nend [47, 62, 61] x) || (!(space x) && x != 62 && x != 47)) (by decide +kernel) x
    rw [hx] at this; simpa [and_assoc] using this
  have hd : Hd (nend [47, 62, 61]) (b1 ++ 61 :: (b2 ++ (v ++ m))) := by
    cases b1 with
    | nil => exact Hd.cons (by decide) _
    | cons c b1 =>
      refine Hd.cons ?_ _
      unfold nend; rw [hb1 c (by simp)]; rfl
  have e := all_app (p := nend [47, 62, 61]) (a := []) (m := b1 ++ 61 :: (b2 ++ (v ++ m))) (by simp) hd
  rw [List.nil_append] at e
  conv => lhs; unfold readN
  rw [List.dropWhile_cons, hs.1]
  simp only [Bool.false_eq_true, if_false]
  rw [if_neg hs.2.1, if_neg hs.2.2, e.1, e.2]
  obtain ⟨y, t, rfl⟩ : ∃ y t, v = y :: t := by
    cases v with
    | nil => exact absurd rfl hne
    | cons y t => exact ⟨y, t, rfl⟩
  obtain ⟨p1, p2, p3, p4, p5, p6⟩ := plain_facts y (hv y (by simp))
  have hval : valueL (b1 ++ 61 :: (b2 ++ (y :: t ++ m))) = some (y :: t, m) := by
    unfold valueL
    have e1 := all_app (p := space) (a := b1) (m := 61 :: (b2 ++ (y :: t ++ m))) hb1 (Hd.cons (by decide) _)
    have e2 := all_app (p := space) (a := b2) (m := y :: t ++ m) hb2 (Hd.cons p1 _)
    rw [e1.2]
    simp only [if_true]
    rw [e2.2, List.cons_append]
    unfold valueTo
    simp only
    have e3 := all_app (p := nend [62]) (a := t) (m := m) (fun c hc => plain_nend c (hv c (by simp [hc]))) hm
    rw [if_neg (fun h => h.elim p3 p4), if_neg p2, e3.1, e3.2]
  simp only [hval]
  rw [decode_same true (y :: t) (List.count_eq_zero.2 fun hm => (plain_facts 38 (hv 38 hm)).2.2.2.2.1 rfl), clean_none (fun d hd => (plain_facts d (hv d hd)).2.2.2.2.2)]
/-- A name, with nothing behind it. -/
theorem readN_bare (n : Nat) (x : UInt8) (m : Bs) (acc : List Att) (hx : nend [47, 62, 61] x = true) :
    readN (n + 1) (x :: 62 :: m) acc = readN n (62 :: m) (add acc (clean (lower [x])) []) := by
  have hs : space x = false ∧ x ≠ 62 ∧ x ≠ 47 := by
    have := byteAll (fun x => !(nend [47, 62, 61] x) || (!(space x) && x != 62 && x != 47)) (by decide +kernel) x
    rw [hx] at this; simpa [and_assoc] using this
  conv => lhs; unfold readN
  rw [List.dropWhile_cons, hs.1]
  simp only [Bool.false_eq_true, if_false]
  rw [if_neg hs.2.1, if_neg hs.2.2, List.takeWhile_cons, List.dropWhile_cons, show nend [47, 62, 61] 62 = false from by decide]
  rfl
theorem readN_end (n : Nat) (m : Bs) (acc : List Att) : readN (n + 1) (62 :: m) acc = some (acc, false, m) := by
  unfold readN
  rw [List.dropWhile_cons, show space 62 = false from by decide]
  rfl
theorem readN_blank (n : Nat) (c : UInt8) (hc : space c = true) (l : Bs) (acc : List Att) : readN n (c :: l) acc = readN n l acc := by
  cases n with
  | zero => rfl
  | succ n => unfold readN; rw [List.dropWhile_cons, hc]; rfl
/-! Blanks, and strokes. -/
theorem readL_blank (l : Bs) : readL (32 :: l) = readL l := by
  rw [readL_eq (n := l.length + 2) (by simp), readN_blank _ 32 (by decide)]
  exact (readL_eq (by omega)).symm
theorem readL_stroke (l : Bs) : readL (32 :: 47 :: 10 :: l) = readL l := by
  rw [readL_eq (n := l.length + 5) (by simp), readN_blank _ 32 (by decide)]
  have : readN (l.length + 5) (47 :: 10 :: l) [] = readN (l.length + 4) (10 :: l) [] := by
    conv => lhs; unfold readN
    rw [List.dropWhile_cons, show space 47 = false from by decide]
    simp [headIs]
  rw [this, readN_blank _ 10 (by decide)]
  exact (readL_eq (by omega)).symm
def strokes : Nat → Bs
  | 0 => []
  | n + 1 => strokes n ++ [32, 47, 10]
theorem readL_strokes : ∀ (n : Nat) (l : Bs), readL (strokes n ++ l) = readL l
  | 0, l => rfl
  | n + 1, l => by
    show readL ((strokes n ++ [32, 47, 10]) ++ l) = _
    rw [List.append_assoc, readL_strokes n]
    exact readL_stroke l
theorem strokes_len (n : Nat) : (strokes n).length = 3 * n := by
  induction n with
  | zero => rfl
  | succ n ih => show (strokes n ++ [32, 47, 10]).length = _; rw [List.length_append, ih]; simp; omega
end Go.Proofs.YtfhjfidkcdcjnaaDoor.Fl

namespace Go.Proofs.YtfhjfidkcdcjnaaDoor.Q
open Go.RowKit Go.Proofs.YtfhjfidkcdcjnaaDoorW.PrintWords Go.Proofs.YtfhjfidkcdcjnaaDoorW.PrintLast Go.Proofs.YtfhjfidkcdcjnaaDoorW.PrintMore
attribute [local go_sem] max2_int min2_int max_two min_two max_three min_three max_four min_four   -- for this text's walks alone
set_option linter.unusedVariables false
set_option linter.unusedSimpArgs false

/-! ### flaillaw08_AttrsBlanks: function 5 -/
mutual
noncomputable def flaillaw08_AttrsBlanks.j0 : Nat → ByteArray → ByteArray → Int → Bool → Bool → Option (Bool)
  | 0, _, _, _, _, _ => none
  | k + 1, x0, x1, x2, x7, x30 => if x30 = true then (some x7) else (flaillaw08_AttrsBlanks.l0 k x0 x1 x2 x7 (⟨#[]⟩ : ByteArray) 0)
noncomputable def flaillaw08_AttrsBlanks.l0 : Nat → ByteArray → ByteArray → Int → Bool → ByteArray → Int → Option (Bool)
  | 0, _, _, _, _, _, _ => none
  | k + 1, x0, x1, x2, x7, x8, x9 => if x9 < (wrap64 (Int.tmod x2 9)) then (if x8.size + 3 ≤ 9223372036854775807 then (flaillaw08_AttrsBlanks.l0 k x0 x1 x2 x7 (x8 ++ (⟨#[32, 47, 10]⟩ : ByteArray)) (wrap64 (x9 + 1))) else (none)) else (if x8.size + 1 ≤ 9223372036854775807 then ((attrs_Read.f x0 0).bind fun bt207 => (if (x8 ++ (⟨#[32]⟩ : ByteArray)).size + x0.size ≤ 9223372036854775807 then ((attrs_Read.f ((x8 ++ (⟨#[32]⟩ : ByteArray)) ++ x0) 0).bind fun bt213 => (if bt207.2.2.2 = true then (if 0 ≤ bt207.2.2.1 then (if bt207.2.2.1 ≤ (x0.size : Int) then (if (x0.extract 0 (bt207.2.2.1 : Int).toNat).size + x1.size ≤ 9223372036854775807 then ((attrs_Read.f ((x0.extract 0 (bt207.2.2.1 : Int).toNat) ++ x1) 0).bind fun bt219 => (if x7 = true then (if bt213.2.2.2 = true then (if bt219.2.2.2 = true then ((flailref08_Same.f k bt207.1 bt213.1).bind fun t225 => (if t225 = true then ((flailref08_Same.f k bt207.1 bt219.1).bind fun t226 => (if t226 = true then (if (bt207.2.1 == bt213.2.1) = true then (if (bt207.2.1 == bt219.2.1) = true then (if bt213.2.2.1 = (wrap64 (bt207.2.2.1 + ((x8 ++ (⟨#[32]⟩ : ByteArray)).size : Int))) then (some (bt219.2.2.1 == bt207.2.2.1)) else (some false)) else (some false)) else (some false)) else (some false))) else (some false))) else (some false)) else (some false)) else (some false))) else (none)) else (none)) else (none)) else (if x7 = true then (if bt213.2.2.2 = true then (some false) else (some (bt213.2.2.1 == (wrap64 (((x8 ++ (⟨#[32]⟩ : ByteArray)).size : Int) + (x0.size : Int)))))) else (some false)))) else (none))) else (none))
end
noncomputable def flaillaw08_AttrsBlanks.f (k : Nat) (a0 : ByteArray) (a1 : ByteArray) (a2 : Int) : Option (Bool) := (flaillaw08_awake.f k).bind fun t206 => (if (a0.size : Int) > 300 then (flaillaw08_AttrsBlanks.j0 k a0 a1 a2 t206 true) else (flaillaw08_AttrsBlanks.j0 k a0 a1 a2 t206 (decide ((a1.size : Int) > 300))))
theorem flaillaw08_AttrsBlanks.mono_l : ∀ k, (∀ y0 y1 y2 y3 y4, LeO (flaillaw08_AttrsBlanks.j0 k y0 y1 y2 y3 y4) (flaillaw08_AttrsBlanks.j0 (k + 1) y0 y1 y2 y3 y4)) ∧ (∀ y0 y1 y2 y3 y4 y5, LeO (flaillaw08_AttrsBlanks.l0 k y0 y1 y2 y3 y4 y5) (flaillaw08_AttrsBlanks.l0 (k + 1) y0 y1 y2 y3 y4 y5))
  | 0 => ⟨fun _ _ _ _ _ r h => by simp [flaillaw08_AttrsBlanks.j0] at h, fun _ _ _ _ _ _ r h => by simp [flaillaw08_AttrsBlanks.l0] at h⟩
  | k + 1 => by
    obtain ⟨ih0, ih1⟩ := flaillaw08_AttrsBlanks.mono_l k
    refine ⟨?_, ?_⟩
    · intro y0 y1 y2 y3 y4
      unfold flaillaw08_AttrsBlanks.j0
      repeat' first
      | (with_reducible exact ih0 _ _ _ _ _)
      | (with_reducible exact ih1 _ _ _ _ _ _)
      | (with_reducible exact flaillaw08_awake.mono _)
      | (with_reducible exact flailref08_Same.mono _ _ _)
      | (with_reducible exact LeO.refl _)
      | (with_reducible exact LeO.none _)
      | (with_reducible refine LeO.ite ?_ ?_)
      | (with_reducible refine LeO.bind ?_ (fun _ => ?_))
      | exact ih0 _ _ _ _ _
      | exact ih1 _ _ _ _ _ _
      | exact flaillaw08_awake.mono _
      | exact flailref08_Same.mono _ _ _
      | exact LeO.none _
      | refine LeO.ite ?_ ?_
      | refine LeO.bind ?_ (fun _ => ?_)
    · intro y0 y1 y2 y3 y4 y5
      unfold flaillaw08_AttrsBlanks.l0
      repeat' first
      | (with_reducible exact ih0 _ _ _ _ _)
      | (with_reducible exact ih1 _ _ _ _ _ _)
      | (with_reducible exact flaillaw08_awake.mono _)
      | (with_reducible exact flailref08_Same.mono _ _ _)
      | (with_reducible exact LeO.refl _)
      | (with_reducible exact LeO.none _)
      | (with_reducible refine LeO.ite ?_ ?_)
      | (with_reducible refine LeO.bind ?_ (fun _ => ?_))
      | exact ih0 _ _ _ _ _
      | exact ih1 _ _ _ _ _ _
      | exact flaillaw08_awake.mono _
      | exact flailref08_Same.mono _ _ _
      | exact LeO.none _
      | refine LeO.ite ?_ ?_
      | refine LeO.bind ?_ (fun _ => ?_)
theorem flaillaw08_AttrsBlanks.mono : ∀ a0 a1 a2 k, LeO (flaillaw08_AttrsBlanks.f k a0 a1 a2) (flaillaw08_AttrsBlanks.f (k + 1) a0 a1 a2) := by
  intro a0 a1 a2 k
  obtain ⟨ih0, ih1⟩ := flaillaw08_AttrsBlanks.mono_l k
  unfold flaillaw08_AttrsBlanks.f
  repeat' first
      | (with_reducible exact ih0 _ _ _ _ _)
      | (with_reducible exact ih1 _ _ _ _ _ _)
      | (with_reducible exact flaillaw08_awake.mono _)
      | (with_reducible exact flailref08_Same.mono _ _ _)
      | (with_reducible exact LeO.refl _)
      | (with_reducible exact LeO.none _)
      | (with_reducible refine LeO.ite ?_ ?_)
      | (with_reducible refine LeO.bind ?_ (fun _ => ?_))
      | exact ih0 _ _ _ _ _
      | exact ih1 _ _ _ _ _ _
      | exact flaillaw08_awake.mono _
      | exact flailref08_Same.mono _ _ _
      | exact LeO.none _
      | refine LeO.ite ?_ ?_
      | refine LeO.bind ?_ (fun _ => ?_)
set_option maxHeartbeats 8000000 in
set_option maxRecDepth 100000 in
theorem flaillaw08_AttrsBlanks.calls (k : Nat) (a0 : ByteArray) (a1 : ByteArray) (a2 : Int) (r : Bool) (w : World) (hG : Gl w) (h : flaillaw08_AttrsBlanks.f k a0 a1 a2 = some r) :
    Calls Tryd.prog 5 #[.string a0, .string a1, .int .u8 a2] w fun e w' => e = .returned (.bool r) ∧ Below w.heap.size w w' := by
  have HB := Aside0.mk (Below.refl w.heap.size w)
  have HG := Aside0.mk hG
  clear hG
  have H : ((flaillaw08_awake.f k).bind fun t206 => (if (a0.size : Int) > 300 then (flaillaw08_AttrsBlanks.j0 k a0 a1 a2 t206 true) else (flaillaw08_AttrsBlanks.j0 k a0 a1 a2 t206 (decide ((a1.size : Int) > 300))))) = some r := h
  clear h
  replace H := Option.bind_eq_some_iff.mp H
  obtain ⟨t206, A40, H⟩ := H
  replace H : (if (a0.size : Int) > 300 then (flaillaw08_AttrsBlanks.j0 k a0 a1 a2 t206 true) else (flaillaw08_AttrsBlanks.j0 k a0 a1 a2 t206 (decide ((a1.size : Int) > 300)))) = some r := H
  have A4 := Aside0.mk A40
  clear A40
  have HC5 := Aside0.mk H
  clear H
  go_enter Tryd.func5, Tryd.ntmps5
  go_upto_region 2 with (first | ((with_reducible refine gate_callee (f := 12) rfl ?_); refine goesL_ (some 22) rfl rfl Tryd.func12 (by kernel_rfl) rfl #[] rfl (by (try simp only [List.map_toArray, List.map_cons, List.map_nil]); first | done | rfl | (simp only [List.length_drop, List.length_take]; rfl)) ?_; (with_reducible refine (flaillaw08_awake.calls k  t206 _ ?side1 A4.out).mono ?_); (case side1 => first | (with_reducible exact HG.out) | exact Gl.below HG.out (by repeat (first | (with_reducible first | exact HB.out | apply below_alloc | apply pw_below_drewN | apply below_drew1) | exact HB.out)) | exact HG.out); rintro e w6 ⟨rfl, hb⟩; refine ⟨_, rfl, ?_⟩; have n0_ := Aside0.mk (below_step (by repeat (first | (with_reducible first | exact HB.out | apply below_alloc | apply pw_below_drewN | apply below_drew1) | exact HB.out)) hb); clear HB; have HB := n0_; clear n0_; (try clear hb); (try clear hb2); (try clear hk); (try clear hi)))
  (try simp only [Act.put, List.setIfInBounds_toArray, List.set_cons_zero, List.set_cons_succ])
  go_cut [30] (fun v30 wc => ∃ (kq : Nat) (x30_4 : Bool), v30 = .bool x30_4 ∧ Aside0 (flaillaw08_AttrsBlanks.j0 kq a0 a1 a2 t206 x30_4 = some r) ∧ Aside0 (kq ≤ k) ∧ Aside0 (Below w.heap.size w wc))
  case first =>
    have H := HC5.out
    clear HC5
    by_cases c7 : (a0.size : Int) > 300
    · rw [if_pos c7] at H
      have c7b0 : decide (300 < (a0.size : Int)) = true := decide_eq_true c7
      have c7b1 : decide (300 < a0.size) = true := decide_eq_true (by omega)
      clear c7
      (first | rw [c7b0] | (simp only [i64_w, i32_w]; rw [c7b0]) | skip)
      have H' := Aside0.mk H
      clear H
      go_wp2
      go_meet
      case rel => exact ⟨_, (true), (by first | rfl | (simp; done) | (simp [*]; done)), H', ⟨by first | omega | exact Nat.le_refl _⟩, ⟨by repeat (first | (with_reducible first | exact HB.out | apply below_alloc | apply pw_below_drewN | apply below_drew1) | exact HB.out)⟩⟩
    · rw [if_neg c7] at H
      have c7b0 : decide (300 < (a0.size : Int)) = false := decide_eq_false c7
      have c7b1 : decide (300 < a0.size) = false := decide_eq_false (by omega)
      clear c7
      (first | rw [c7b0] | (simp only [i64_w, i32_w]; rw [c7b0]) | skip)
      have H' := Aside0.mk H
      clear H
      go_wp2
      go_meet
      case rel => exact ⟨_, (decide ((a1.size : Int) > 300)), (by first | rfl | (simp; done) | (simp [*]; done)), H', ⟨by first | omega | exact Nat.le_refl _⟩, ⟨by repeat (first | (with_reducible first | exact HB.out | apply below_alloc | apply pw_below_drewN | apply below_drew1) | exact HB.out)⟩⟩
  case rest =>
    clear HC5
    try clear c1
    try clear p2
    try clear c5
    try clear c7
    try clear c7b0
    try clear c7b1
    obtain ⟨kq, x30_4, rfl, HA, HJ4, HB⟩ := hcut
    cases kq with
    | zero => exact absurd HA.out (by simp [flaillaw08_AttrsBlanks.j0])
    | succ kj4 =>
      have H := HA.out
      clear HA
      simp only [flaillaw08_AttrsBlanks.j0] at H
      by_cases c8 : x30_4 = true
      · subst c8
        have H1 : (some t206) = some r := by rw [if_pos rfl] at H; exact H
        clear H
        have H := H1
        clear H1
        obtain rfl := Option.some.inj H
        go_wp2
        go_ret
        exact ⟨by first | rfl | (simp [errW_none, errW_some] <;> rfl) | (simp [*, errW_none, errW_some] <;> rfl), by repeat (first | (with_reducible first | exact HB.out | apply below_alloc | apply pw_below_drewN | apply below_drew1) | exact HB.out)⟩
      · replace c8 := Bool.eq_false_iff.mpr c8
        subst c8
        have H1 : (flaillaw08_AttrsBlanks.l0 kj4 a0 a1 a2 t206 (⟨#[]⟩ : ByteArray) 0) = some r := by rw [if_neg (show ¬ (false = true) by decide)] at H; exact H
        clear H
        have H := H1
        clear H1
        have H' := Aside0.mk H
        clear H
        go_wp2
        go_loopg [8, 9] kj4 (fun kq v8 v9 w' => ∃ (x8_2 : ByteArray) (x9_2 : Int), v8 = .string x8_2 ∧ v9 = .int .i64 x9_2 ∧ Aside0 (flaillaw08_AttrsBlanks.l0 kq a0 a1 a2 t206 x8_2 x9_2 = some r) ∧ Aside0 (kq ≤ kj4) ∧ Aside0 (Below w.heap.size w w'))
        case atStart => exact ⟨((⟨#[]⟩ : ByteArray)), (0), (by first | rfl | (simp; done) | (simp [*]; done)), (by first | rfl | (simp; done) | (simp [*]; done)), H', ⟨Nat.le_refl _⟩, ⟨by repeat (first | (with_reducible first | exact HB.out | apply below_alloc | apply pw_below_drewN | apply below_drew1) | exact HB.out)⟩⟩
        case round =>
          clear H'
          try clear c1
          try clear p2
          try clear c5
          try clear c7
          try clear c7b0
          try clear c7b1
          try clear c8
          try clear p2
          obtain ⟨x8_2, x9_2, rfl, rfl, HA, HK2, HB⟩ := hrel
          cases gk with
          | zero => exact absurd HA.out (by simp [flaillaw08_AttrsBlanks.l0])
          | succ k2 =>
            have H := HA.out
            clear HA
            simp only [flaillaw08_AttrsBlanks.l0] at H
            by_cases c9 : x9_2 < (wrap64 (Int.tmod a2 9))
            · rw [if_pos c9] at H
              have c9b0 : decide (x9_2 < (wrap64 (Int.tmod a2 9))) = true := decide_eq_true c9
              (try (have c9b1 : decide (x9_2 < ((Int.tmod a2 9))) = true := by have h_ := c9; rw [IntWalk.wrap64_in (Int.tmod a2 9) ⟨by omega, by omega⟩] at h_; exact decide_eq_true h_))
              (try (have c9b2 : (x9_2 < ((Int.tmod a2 9))) = True := eq_true (by have h_ := c9; rw [IntWalk.wrap64_in (Int.tmod a2 9) ⟨by omega, by omega⟩] at h_; exact h_)))
              (try (have c9b3 : (((Int.tmod a2 9)) ≤ x9_2) = False := eq_false (Int.not_le.2 (by have h_ := c9; rw [IntWalk.wrap64_in (Int.tmod a2 9) ⟨by omega, by omega⟩] at h_; exact h_))))
              clear c9
              by_cases c10 : x8_2.size + 3 ≤ 9223372036854775807
              · rw [if_pos c10] at H
                have c10b0 := eq_true c10
                have c10b1 : decide (x8_2.size + 3 ≤ 9223372036854775807) = true := decide_eq_true c10
                try have c10b2 : (9223372036854775807 < x8_2.size + 3) = False := eq_false (Nat.not_lt.2 c10)
                have H' := Aside0.mk H
                clear H
                go_wp2
                go_roundg k2
                case measure => have := HJ4.out; have := HK2.out; omega
                case rel => exact ⟨(x8_2 ++ (⟨#[32, 47, 10]⟩ : ByteArray)), (wrap64 (x9_2 + 1)), (by first | rfl | (simp; done) | (simp [*]; done)), (by first | rfl | (simp; done) | (simp [*]; done)), H', ⟨by have := HJ4.out; have := HK2.out; omega⟩, ⟨by repeat (first | (with_reducible first | exact HB.out | apply below_alloc | apply pw_below_drewN | apply below_drew1) | exact HB.out)⟩⟩
              · rw [if_neg c10] at H
                exact absurd H (by simp)
            · rw [if_neg c9] at H
              have c9b0 : decide (x9_2 < (wrap64 (Int.tmod a2 9))) = false := decide_eq_false c9
              (try (have c9b1 : decide (x9_2 < ((Int.tmod a2 9))) = false := by have h_ := c9; rw [IntWalk.wrap64_in (Int.tmod a2 9) ⟨by omega, by omega⟩] at h_; exact decide_eq_false h_))
              (try (have c9b2 : (x9_2 < ((Int.tmod a2 9))) = False := eq_false (by have h_ := c9; rw [IntWalk.wrap64_in (Int.tmod a2 9) ⟨by omega, by omega⟩] at h_; exact h_)))
              (try (have c9b3 : (((Int.tmod a2 9)) ≤ x9_2) = True := eq_true (Int.not_lt.1 (by have h_ := c9; rw [IntWalk.wrap64_in (Int.tmod a2 9) ⟨by omega, by omega⟩] at h_; exact h_))))
              clear c9
              by_cases c11 : x8_2.size + 1 ≤ 9223372036854775807
              · rw [if_pos c11] at H
                have c11b0 := eq_true c11
                have c11b1 : decide (x8_2.size + 1 ≤ 9223372036854775807) = true := decide_eq_true c11
                try have c11b2 : (9223372036854775807 < x8_2.size + 1) = False := eq_false (Nat.not_lt.2 c11)
                replace H := Option.bind_eq_some_iff.mp H
                obtain ⟨⟨t207, t208, t209, t210⟩, A120, H⟩ := H
                replace H : (if (x8_2 ++ (⟨#[32]⟩ : ByteArray)).size + a0.size ≤ 9223372036854775807 then ((attrs_Read.f ((x8_2 ++ (⟨#[32]⟩ : ByteArray)) ++ a0) 0).bind fun bt213 => (if t210 = true then (if 0 ≤ t209 then (if t209 ≤ (a0.size : Int) then (if (a0.extract 0 (t209 : Int).toNat).size + a1.size ≤ 9223372036854775807 then ((attrs_Read.f ((a0.extract 0 (t209 : Int).toNat) ++ a1) 0).bind fun bt219 => (if t206 = true then (if bt213.2.2.2 = true then (if bt219.2.2.2 = true then ((flailref08_Same.f k2 t207 bt213.1).bind fun t225 => (if t225 = true then ((flailref08_Same.f k2 t207 bt219.1).bind fun t226 => (if t226 = true then (if (t208 == bt213.2.1) = true then (if (t208 == bt219.2.1) = true then (if bt213.2.2.1 = (wrap64 (t209 + ((x8_2 ++ (⟨#[32]⟩ : ByteArray)).size : Int))) then (some (bt219.2.2.1 == t209)) else (some false)) else (some false)) else (some false)) else (some false))) else (some false))) else (some false)) else (some false)) else (some false))) else (none)) else (none)) else (none)) else (if t206 = true then (if bt213.2.2.2 = true then (some false) else (some (bt213.2.2.1 == (wrap64 (((x8_2 ++ (⟨#[32]⟩ : ByteArray)).size : Int) + (a0.size : Int)))))) else (some false)))) else (none)) = some r := H
                have A12 := Aside0.mk A120
                clear A120
                by_cases c13 : (x8_2 ++ (⟨#[32]⟩ : ByteArray)).size + a0.size ≤ 9223372036854775807
                · rw [if_pos c13] at H
                  have c13b0 := eq_true c13
                  have c13b1 : decide ((x8_2 ++ (⟨#[32]⟩ : ByteArray)).size + a0.size ≤ 9223372036854775807) = true := decide_eq_true c13
                  try have c13b2 : (9223372036854775807 < (x8_2 ++ (⟨#[32]⟩ : ByteArray)).size + a0.size) = False := eq_false (Nat.not_lt.2 c13)
                  (try (have c13b3 : (9223372036854775807 < (x8_2.size + 1) + a0.size) = False := eq_false (Nat.not_lt.2 (by have h_ := c13; simp only [ByteArray.size_append] at h_; exact h_))))
                  (try (have c13b4 : ((x8_2.size + 1) + a0.size ≤ 9223372036854775807) = True := eq_true (by have h_ := c13; simp only [ByteArray.size_append] at h_; exact h_)))
                  (try (have c13b5 : decide ((x8_2.size + 1) + a0.size ≤ 9223372036854775807) = true := decide_eq_true (by have h_ := c13; simp only [ByteArray.size_append] at h_; exact h_)))
                  replace H := Option.bind_eq_some_iff.mp H
                  obtain ⟨⟨t213, t214, t215, t216⟩, A140, H⟩ := H
                  replace H : (if t210 = true then (if 0 ≤ t209 then (if t209 ≤ (a0.size : Int) then (if (a0.extract 0 (t209 : Int).toNat).size + a1.size ≤ 9223372036854775807 then ((attrs_Read.f ((a0.extract 0 (t209 : Int).toNat) ++ a1) 0).bind fun bt219 => (if t206 = true then (if t216 = true then (if bt219.2.2.2 = true then ((flailref08_Same.f k2 t207 t213).bind fun t225 => (if t225 = true then ((flailref08_Same.f k2 t207 bt219.1).bind fun t226 => (if t226 = true then (if (t208 == t214) = true then (if (t208 == bt219.2.1) = true then (if t215 = (wrap64 (t209 + ((x8_2 ++ (⟨#[32]⟩ : ByteArray)).size : Int))) then (some (bt219.2.2.1 == t209)) else (some false)) else (some false)) else (some false)) else (some false))) else (some false))) else (some false)) else (some false)) else (some false))) else (none)) else (none)) else (none)) else (if t206 = true then (if t216 = true then (some false) else (some (t215 == (wrap64 (((x8_2 ++ (⟨#[32]⟩ : ByteArray)).size : Int) + (a0.size : Int)))))) else (some false))) = some r := H
                  have A14 := Aside0.mk A140
                  clear A140
                  by_cases c15 : t210 = true
                  · subst c15
                    have H1 : (if 0 ≤ t209 then (if t209 ≤ (a0.size : Int) then (if (a0.extract 0 (t209 : Int).toNat).size + a1.size ≤ 9223372036854775807 then ((attrs_Read.f ((a0.extract 0 (t209 : Int).toNat) ++ a1) 0).bind fun bt219 => (if t206 = true then (if t216 = true then (if bt219.2.2.2 = true then ((flailref08_Same.f k2 t207 t213).bind fun t225 => (if t225 = true then ((flailref08_Same.f k2 t207 bt219.1).bind fun t226 => (if t226 = true then (if (t208 == t214) = true then (if (t208 == bt219.2.1) = true then (if t215 = (wrap64 (t209 + ((x8_2 ++ (⟨#[32]⟩ : ByteArray)).size : Int))) then (some (bt219.2.2.1 == t209)) else (some false)) else (some false)) else (some false)) else (some false))) else (some false))) else (some false)) else (some false)) else (some false))) else (none)) else (none)) else (none)) = some r := by rw [if_pos rfl] at H; exact H
                    clear H
                    have H := H1
                    clear H1
                    by_cases c16 : 0 ≤ t209
                    · rw [if_pos c16] at H
                      have c16b0 := eq_true c16
                      have c16b1 : decide (0 ≤ t209) = true := decide_eq_true c16
                      clear c16
                      by_cases c17 : t209 ≤ (a0.size : Int)
                      · rw [if_pos c17] at H
                        have c17b0 := eq_true c17
                        have c17b1 : decide (t209 ≤ (a0.size : Int)) = true := decide_eq_true c17
                        clear c17
                        by_cases c18 : (a0.extract 0 (t209 : Int).toNat).size + a1.size ≤ 9223372036854775807
                        · rw [if_pos c18] at H
                          have c18b0 := eq_true c18
                          have c18b1 : decide ((a0.extract 0 (t209 : Int).toNat).size + a1.size ≤ 9223372036854775807) = true := decide_eq_true c18
                          try have c18b2 : (9223372036854775807 < (a0.extract 0 (t209 : Int).toNat).size + a1.size) = False := eq_false (Nat.not_lt.2 c18)
                          replace H := Option.bind_eq_some_iff.mp H
                          obtain ⟨⟨t219, t220, t221, t222⟩, A190, H⟩ := H
                          replace H : (if t206 = true then (if t216 = true then (if t222 = true then ((flailref08_Same.f k2 t207 t213).bind fun t225 => (if t225 = true then ((flailref08_Same.f k2 t207 t219).bind fun t226 => (if t226 = true then (if (t208 == t214) = true then (if (t208 == t220) = true then (if t215 = (wrap64 (t209 + ((x8_2 ++ (⟨#[32]⟩ : ByteArray)).size : Int))) then (some (t221 == t209)) else (some false)) else (some false)) else (some false)) else (some false))) else (some false))) else (some false)) else (some false)) else (some false)) = some r := H
                          have A19 := Aside0.mk A190
                          clear A190
                          by_cases c20 : t206 = true
                          · subst c20
                            have H1 : (if t216 = true then (if t222 = true then ((flailref08_Same.f k2 t207 t213).bind fun t225 => (if t225 = true then ((flailref08_Same.f k2 t207 t219).bind fun t226 => (if t226 = true then (if (t208 == t214) = true then (if (t208 == t220) = true then (if t215 = (wrap64 (t209 + ((x8_2 ++ (⟨#[32]⟩ : ByteArray)).size : Int))) then (some (t221 == t209)) else (some false)) else (some false)) else (some false)) else (some false))) else (some false))) else (some false)) else (some false)) = some r := by rw [if_pos rfl] at H; exact H
                            clear H
                            have H := H1
                            clear H1
                            by_cases c21 : t216 = true
                            · subst c21
                              have H1 : (if t222 = true then ((flailref08_Same.f k2 t207 t213).bind fun t225 => (if t225 = true then ((flailref08_Same.f k2 t207 t219).bind fun t226 => (if t226 = true then (if (t208 == t214) = true then (if (t208 == t220) = true then (if t215 = (wrap64 (t209 + ((x8_2 ++ (⟨#[32]⟩ : ByteArray)).size : Int))) then (some (t221 == t209)) else (some false)) else (some false)) else (some false)) else (some false))) else (some false))) else (some false)) = some r := by rw [if_pos rfl] at H; exact H
                              clear H
                              have H := H1
                              clear H1
                              by_cases c22 : t222 = true
                              · subst c22
                                have H1 : ((flailref08_Same.f k2 t207 t213).bind fun t225 => (if t225 = true then ((flailref08_Same.f k2 t207 t219).bind fun t226 => (if t226 = true then (if (t208 == t214) = true then (if (t208 == t220) = true then (if t215 = (wrap64 (t209 + ((x8_2 ++ (⟨#[32]⟩ : ByteArray)).size : Int))) then (some (t221 == t209)) else (some false)) else (some false)) else (some false)) else (some false))) else (some false))) = some r := by rw [if_pos rfl] at H; exact H
                                clear H
                                have H := H1
                                clear H1
                                replace H := Option.bind_eq_some_iff.mp H
                                obtain ⟨t225, A230, H⟩ := H
                                replace H : (if t225 = true then ((flailref08_Same.f k2 t207 t219).bind fun t226 => (if t226 = true then (if (t208 == t214) = true then (if (t208 == t220) = true then (if t215 = (wrap64 (t209 + ((x8_2 ++ (⟨#[32]⟩ : ByteArray)).size : Int))) then (some (t221 == t209)) else (some false)) else (some false)) else (some false)) else (some false))) else (some false)) = some r := H
                                have A23 := Aside0.mk A230
                                clear A230
                                by_cases c24 : t225 = true
                                · subst c24
                                  have H1 : ((flailref08_Same.f k2 t207 t219).bind fun t226 => (if t226 = true then (if (t208 == t214) = true then (if (t208 == t220) = true then (if t215 = (wrap64 (t209 + ((x8_2 ++ (⟨#[32]⟩ : ByteArray)).size : Int))) then (some (t221 == t209)) else (some false)) else (some false)) else (some false)) else (some false))) = some r := by rw [if_pos rfl] at H; exact H
                                  clear H
                                  have H := H1
                                  clear H1
                                  replace H := Option.bind_eq_some_iff.mp H
                                  obtain ⟨t226, A250, H⟩ := H
                                  replace H : (if t226 = true then (if (t208 == t214) = true then (if (t208 == t220) = true then (if t215 = (wrap64 (t209 + ((x8_2 ++ (⟨#[32]⟩ : ByteArray)).size : Int))) then (some (t221 == t209)) else (some false)) else (some false)) else (some false)) else (some false)) = some r := H
                                  have A25 := Aside0.mk A250
                                  clear A250
                                  by_cases c26 : t226 = true
                                  · subst c26
                                    have H1 : (if (t208 == t214) = true then (if (t208 == t220) = true then (if t215 = (wrap64 (t209 + ((x8_2 ++ (⟨#[32]⟩ : ByteArray)).size : Int))) then (some (t221 == t209)) else (some false)) else (some false)) else (some false)) = some r := by rw [if_pos rfl] at H; exact H
                                    clear H
                                    have H := H1
                                    clear H1
                                    by_cases c27 : (t208 == t214) = true
                                    · rw [if_pos c27] at H
                                      have c27b0 : (t208 == t214) = true := c27
                                      (try (have c27b1 : decide (t208 = t214) = true := by simpa using c27))
                                      (try (have c27b2 : (t208 == t214) = true := by simpa using c27))
                                      clear c27
                                      by_cases c28 : (t208 == t220) = true
                                      · rw [if_pos c28] at H
                                        have c28b0 : (t208 == t220) = true := c28
                                        (try (have c28b1 : decide (t208 = t220) = true := by simpa using c28))
                                        (try (have c28b2 : (t208 == t220) = true := by simpa using c28))
                                        clear c28
                                        by_cases c29 : t215 = (wrap64 (t209 + ((x8_2 ++ (⟨#[32]⟩ : ByteArray)).size : Int)))
                                        · rw [if_pos c29] at H
                                          have c29b0 : (t215 == (wrap64 (t209 + ((x8_2 ++ (⟨#[32]⟩ : ByteArray)).size : Int)))) = true := beq_iff_eq.mpr c29
                                          have c29b1 : (t215 != (wrap64 (t209 + ((x8_2 ++ (⟨#[32]⟩ : ByteArray)).size : Int)))) = false := bne_eq_false_iff_eq.mpr c29
                                          (try (have c29b2 : (t215 == (wrap64 (t209 + ((x8_2.size : Int) + 1)))) = true := by have h_ := c29; simp only [sz_app] at h_; exact beq_iff_eq.mpr h_))
                                          (try (have c29b3 : (t215 != (wrap64 (t209 + ((x8_2.size : Int) + 1)))) = false := by have h_ := c29; simp only [sz_app] at h_; exact bne_eq_false_iff_eq.mpr h_))
                                          (try (have c29b4 : (t215 == ((t209 + ((x8_2 ++ (⟨#[32]⟩ : ByteArray)).size : Int)))) = true := by have h_ := c29; rw [IntWalk.wrap64_in (t209 + ((x8_2 ++ (⟨#[32]⟩ : ByteArray)).size : Int)) ⟨by omega, by omega⟩] at h_; exact beq_iff_eq.mpr h_))
                                          (try (have c29b5 : (t215 != ((t209 + ((x8_2 ++ (⟨#[32]⟩ : ByteArray)).size : Int)))) = false := by have h_ := c29; rw [IntWalk.wrap64_in (t209 + ((x8_2 ++ (⟨#[32]⟩ : ByteArray)).size : Int)) ⟨by omega, by omega⟩] at h_; exact bne_eq_false_iff_eq.mpr h_))
                                          (try (have c29b6 : (t215 == ((t209 + ((x8_2.size : Int) + 1)))) = true := by have h_ := c29; simp only [sz_app] at h_; change t215 = (wrap64 (t209 + ((x8_2.size : Int) + 1))) at h_; rw [IntWalk.wrap64_in (t209 + ((x8_2.size : Int) + 1)) ⟨by omega, by omega⟩] at h_; exact beq_iff_eq.mpr h_))
                                          (try (have c29b7 : (t215 != ((t209 + ((x8_2.size : Int) + 1)))) = false := by have h_ := c29; simp only [sz_app] at h_; change t215 = (wrap64 (t209 + ((x8_2.size : Int) + 1))) at h_; rw [IntWalk.wrap64_in (t209 + ((x8_2.size : Int) + 1)) ⟨by omega, by omega⟩] at h_; exact bne_eq_false_iff_eq.mpr h_))
                                          clear c29
                                          obtain rfl := Option.some.inj H
                                          go_wp2_with (first | ((with_reducible refine gate_callee (f := 13) rfl ?_); refine goesL_ (some 45) rfl rfl Tryd.func13 (by kernel_rfl) rfl #[.string a0, .int .i64 0] rfl (by (try simp only [List.map_toArray, List.map_cons, List.map_nil]); first | done | rfl | (simp only [List.length_drop, List.length_take]; rfl)) ?_; (with_reducible refine (attrs_Read.calls a0 0 t207 t208 t209 true _ ?side1 A12.out).mono ?_); (case side1 => first | (with_reducible exact HG.out) | exact Gl.below HG.out (by repeat (first | (with_reducible first | exact HB.out | apply below_alloc | apply pw_below_drewN | apply below_drew1) | exact HB.out)) | exact HG.out); rintro e w30 ⟨v211, rfl, ho0, hb⟩; refine ⟨_, rfl, ?_⟩; have n0_ := Aside0.mk (Kd.R_lower ho0 (below_size (by repeat (first | (with_reducible first | exact HB.out | apply below_alloc | apply pw_below_drewN | apply below_drew1) | exact HB.out)))); have n1_ := Aside0.mk (below_step (by repeat (first | (with_reducible first | exact HB.out | apply below_alloc | apply pw_below_drewN | apply below_drew1) | exact HB.out)) hb); clear HB; have HO212 := n0_; have HB := n1_; clear n0_ n1_; (try clear hb); (try clear hb2); (try clear hk); (try clear hi); (try clear ho0)) | ((with_reducible refine gate_callee (f := 13) rfl ?_); refine goesL_ (some 54) rfl rfl Tryd.func13 (by kernel_rfl) rfl #[.string ((x8_2 ++ (⟨#[32]⟩ : ByteArray)) ++ a0), .int .i64 0] rfl (by (try simp only [List.map_toArray, List.map_cons, List.map_nil]); first | done | rfl | (simp only [List.length_drop, List.length_take]; rfl)) ?_; (with_reducible refine (attrs_Read.calls ((x8_2 ++ (⟨#[32]⟩ : ByteArray)) ++ a0) 0 t213 t214 t215 true _ ?side1 A14.out).mono ?_); (case side1 => first | (with_reducible exact HG.out) | exact Gl.below HG.out (by repeat (first | (with_reducible first | exact HB.out | apply below_alloc | apply pw_below_drewN | apply below_drew1) | exact HB.out)) | exact HG.out); rintro e w31 ⟨v217, rfl, ho0, hb⟩; refine ⟨_, rfl, ?_⟩; have n0_ := Aside0.mk (Kd.R_elder' (by (with_reducible repeat (first | apply Kd.R_alloc | apply Kd.R_drewN | apply Kd.R_drew)); exact HO212.out) (Kd.R_base ho0) hb); have n1_ := Aside0.mk (Kd.R_lower (Kd.R_new' ho0 (Kd.R_lt (by (with_reducible repeat (first | apply Kd.R_alloc | apply Kd.R_drewN | apply Kd.R_drew)); exact HO212.out))) (below_size (by repeat (first | (with_reducible first | exact HB.out | apply below_alloc | apply pw_below_drewN | apply below_drew1) | exact HB.out)))); have n2_ := Aside0.mk (below_step (by repeat (first | (with_reducible first | exact HB.out | apply below_alloc | apply pw_below_drewN | apply below_drew1) | exact HB.out)) hb); clear HO212; clear HB; have HO212 := n0_; have HO218 := n1_; have HB := n2_; clear n0_ n1_ n2_; (try clear hb); (try clear hb2); (try clear hk); (try clear hi); (try clear ho0)) | ((with_reducible refine gate_callee (f := 13) rfl ?_); refine goesL_ (some 81) rfl rfl Tryd.func13 (by kernel_rfl) rfl #[.string ((a0.extract 0 (t209 : Int).toNat) ++ a1), .int .i64 0] rfl (by (try simp only [List.map_toArray, List.map_cons, List.map_nil]); first | done | rfl | (simp only [List.length_drop, List.length_take]; rfl)) ?_; (with_reducible refine (attrs_Read.calls ((a0.extract 0 (t209 : Int).toNat) ++ a1) 0 t219 t220 t221 true _ ?side1 A19.out).mono ?_); (case side1 => first | (with_reducible exact HG.out) | exact Gl.below HG.out (by repeat (first | (with_reducible first | exact HB.out | apply below_alloc | apply pw_below_drewN | apply below_drew1) | exact HB.out)) | exact HG.out); rintro e w32 ⟨v223, rfl, ho0, hb⟩; refine ⟨_, rfl, ?_⟩; have n0_ := Aside0.mk (Kd.R_elder' (by (with_reducible repeat (first | apply Kd.R_alloc | apply Kd.R_drewN | apply Kd.R_drew)); exact HO212.out) (Kd.R_base ho0) hb); have n1_ := Aside0.mk (Kd.R_elder' (by (with_reducible repeat (first | apply Kd.R_alloc | apply Kd.R_drewN | apply Kd.R_drew)); exact HO218.out) (Kd.R_base ho0) hb); have n2_ := Aside0.mk (Kd.R_lower (Kd.R_new' (Kd.R_new' ho0 (Kd.R_lt (by (with_reducible repeat (first | apply Kd.R_alloc | apply Kd.R_drewN | apply Kd.R_drew)); exact HO212.out))) (Kd.R_lt (by (with_reducible repeat (first | apply Kd.R_alloc | apply Kd.R_drewN | apply Kd.R_drew)); exact HO218.out))) (below_size (by repeat (first | (with_reducible first | exact HB.out | apply below_alloc | apply pw_below_drewN | apply below_drew1) | exact HB.out)))); have n3_ := Aside0.mk (below_step (by repeat (first | (with_reducible first | exact HB.out | apply below_alloc | apply pw_below_drewN | apply below_drew1) | exact HB.out)) hb); clear HO212; clear HO218; clear HB; have HO212 := n0_; have HO218 := n1_; have HO224 := n2_; have HB := n3_; clear n0_ n1_ n2_ n3_; (try clear hb); (try clear hb2); (try clear hk); (try clear hi); (try clear ho0); obtain ⟨Ao33, co33, eo33⟩ := Kd.R_slice HO212.out; subst eo33; obtain ⟨Ao34, co34, eo34⟩ := Kd.R_slice HO218.out; subst eo34) | (go_at_call 14; (with_reducible refine (flailref08_Same.calls k2 _ _ t207 _ _ t213 true _ ?side1 ?side2 ?side3 ?side4 A23.out).mono ?_); (case side1 => repeat (first | exact (Kd.R_reads' HO212.out).2.2 | (with_reducible refine Kd.C_alloc ?_ _) | (with_reducible refine Kd.C_drewN ?_ _) | (with_reducible refine Kd.C_drew ?_))); (case side2 => exact (Kd.R_reads' HO212.out).2.1); (case side3 => repeat (first | exact (Kd.R_reads' HO218.out).2.2 | (with_reducible refine Kd.C_alloc ?_ _) | (with_reducible refine Kd.C_drewN ?_ _) | (with_reducible refine Kd.C_drew ?_))); (case side4 => exact (Kd.R_reads' HO218.out).2.1); rintro e w' ⟨rfl, ⟨nd, rfl⟩⟩; obtain ⟨Ao35, co35, eo35⟩ := Kd.R_slice HO224.out; subst eo35) | (go_at_call 14; (with_reducible refine (flailref08_Same.calls k2 _ _ t207 _ _ t219 true _ ?side1 ?side2 ?side3 ?side4 A25.out).mono ?_); (case side1 => repeat (first | exact (Kd.R_reads' HO212.out).2.2 | (with_reducible refine Kd.C_alloc ?_ _) | (with_reducible refine Kd.C_drewN ?_ _) | (with_reducible refine Kd.C_drew ?_))); (case side2 => exact (Kd.R_reads' HO212.out).2.1); (case side3 => repeat (first | exact (Kd.R_reads' HO224.out).2.2 | (with_reducible refine Kd.C_alloc ?_ _) | (with_reducible refine Kd.C_drewN ?_ _) | (with_reducible refine Kd.C_drew ?_))); (case side4 => exact (Kd.R_reads' HO224.out).2.1); rintro e w' ⟨rfl, ⟨nd, rfl⟩⟩))
                                          go_ret
                                          exact ⟨by first | rfl | (simp [errW_none, errW_some] <;> rfl) | (simp [*, errW_none, errW_some] <;> rfl), by repeat (first | (with_reducible first | exact HB.out | apply below_alloc | apply pw_below_drewN | apply below_drew1) | exact HB.out)⟩
                                        · rw [if_neg c29] at H
                                          have c29b0 : (t215 == (wrap64 (t209 + ((x8_2 ++ (⟨#[32]⟩ : ByteArray)).size : Int)))) = false := beq_eq_false_iff_ne.mpr c29
                                          have c29b1 : (t215 != (wrap64 (t209 + ((x8_2 ++ (⟨#[32]⟩ : ByteArray)).size : Int)))) = true := bne_iff_ne.mpr c29
                                          (try (have c29b2 : (t215 == (wrap64 (t209 + ((x8_2.size : Int) + 1)))) = false := by have h_ := c29; simp only [sz_app] at h_; exact beq_eq_false_iff_ne.mpr h_))
                                          (try (have c29b3 : (t215 != (wrap64 (t209 + ((x8_2.size : Int) + 1)))) = true := by have h_ := c29; simp only [sz_app] at h_; exact bne_iff_ne.mpr h_))
                                          (try (have c29b4 : (t215 == ((t209 + ((x8_2 ++ (⟨#[32]⟩ : ByteArray)).size : Int)))) = false := by have h_ := c29; rw [IntWalk.wrap64_in (t209 + ((x8_2 ++ (⟨#[32]⟩ : ByteArray)).size : Int)) ⟨by omega, by omega⟩] at h_; exact beq_eq_false_iff_ne.mpr h_))
                                          (try (have c29b5 : (t215 != ((t209 + ((x8_2 ++ (⟨#[32]⟩ : ByteArray)).size : Int)))) = true := by have h_ := c29; rw [IntWalk.wrap64_in (t209 + ((x8_2 ++ (⟨#[32]⟩ : ByteArray)).size : Int)) ⟨by omega, by omega⟩] at h_; exact bne_iff_ne.mpr h_))
                                          (try (have c29b6 : (t215 == ((t209 + ((x8_2.size : Int) + 1)))) = false := by have h_ := c29; simp only [sz_app] at h_; change ¬ (t215 = (wrap64 (t209 + ((x8_2.size : Int) + 1)))) at h_; rw [IntWalk.wrap64_in (t209 + ((x8_2.size : Int) + 1)) ⟨by omega, by omega⟩] at h_; exact beq_eq_false_iff_ne.mpr h_))
                                          (try (have c29b7 : (t215 != ((t209 + ((x8_2.size : Int) + 1)))) = true := by have h_ := c29; simp only [sz_app] at h_; change ¬ (t215 = (wrap64 (t209 + ((x8_2.size : Int) + 1)))) at h_; rw [IntWalk.wrap64_in (t209 + ((x8_2.size : Int) + 1)) ⟨by omega, by omega⟩] at h_; exact bne_iff_ne.mpr h_))
                                          obtain rfl := Option.some.inj H
                                          go_wp2_with (first | ((with_reducible refine gate_callee (f := 13) rfl ?_); refine goesL_ (some 45) rfl rfl Tryd.func13 (by kernel_rfl) rfl #[.string a0, .int .i64 0] rfl (by (try simp only [List.map_toArray, List.map_cons, List.map_nil]); first | done | rfl | (simp only [List.length_drop, List.length_take]; rfl)) ?_; (with_reducible refine (attrs_Read.calls a0 0 t207 t208 t209 true _ ?side1 A12.out).mono ?_); (case side1 => first | (with_reducible exact HG.out) | exact Gl.below HG.out (by repeat (first | (with_reducible first | exact HB.out | apply below_alloc | apply pw_below_drewN | apply below_drew1) | exact HB.out)) | exact HG.out); rintro e w36 ⟨v211, rfl, ho0, hb⟩; refine ⟨_, rfl, ?_⟩; have n0_ := Aside0.mk (Kd.R_lower ho0 (below_size (by repeat (first | (with_reducible first | exact HB.out | apply below_alloc | apply pw_below_drewN | apply below_drew1) | exact HB.out)))); have n1_ := Aside0.mk (below_step (by repeat (first | (with_reducible first | exact HB.out | apply below_alloc | apply pw_below_drewN | apply below_drew1) | exact HB.out)) hb); clear HB; have HO212 := n0_; have HB := n1_; clear n0_ n1_; (try clear hb); (try clear hb2); (try clear hk); (try clear hi); (try clear ho0)) | ((with_reducible refine gate_callee (f := 13) rfl ?_); refine goesL_ (some 54) rfl rfl Tryd.func13 (by kernel_rfl) rfl #[.string ((x8_2 ++ (⟨#[32]⟩ : ByteArray)) ++ a0), .int .i64 0] rfl (by (try simp only [List.map_toArray, List.map_cons, List.map_nil]); first | done | rfl | (simp only [List.length_drop, List.length_take]; rfl)) ?_; (with_reducible refine (attrs_Read.calls ((x8_2 ++ (⟨#[32]⟩ : ByteArray)) ++ a0) 0 t213 t214 t215 true _ ?side1 A14.out).mono ?_); (case side1 => first | (with_reducible exact HG.out) | exact Gl.below HG.out (by repeat (first | (with_reducible first | exact HB.out | apply below_alloc | apply pw_below_drewN | apply below_drew1) | exact HB.out)) | exact HG.out); rintro e w37 ⟨v217, rfl, ho0, hb⟩; refine ⟨_, rfl, ?_⟩; have n0_ := Aside0.mk (Kd.R_elder' (by (with_reducible repeat (first | apply Kd.R_alloc | apply Kd.R_drewN | apply Kd.R_drew)); exact HO212.out) (Kd.R_base ho0) hb); have n1_ := Aside0.mk (Kd.R_lower (Kd.R_new' ho0 (Kd.R_lt (by (with_reducible repeat (first | apply Kd.R_alloc | apply Kd.R_drewN | apply Kd.R_drew)); exact HO212.out))) (below_size (by repeat (first | (with_reducible first | exact HB.out | apply below_alloc | apply pw_below_drewN | apply below_drew1) | exact HB.out)))); have n2_ := Aside0.mk (below_step (by repeat (first | (with_reducible first | exact HB.out | apply below_alloc | apply pw_below_drewN | apply below_drew1) | exact HB.out)) hb); clear HO212; clear HB; have HO212 := n0_; have HO218 := n1_; have HB := n2_; clear n0_ n1_ n2_; (try clear hb); (try clear hb2); (try clear hk); (try clear hi); (try clear ho0)) | ((with_reducible refine gate_callee (f := 13) rfl ?_); refine goesL_ (some 81) rfl rfl Tryd.func13 (by kernel_rfl) rfl #[.string ((a0.extract 0 (t209 : Int).toNat) ++ a1), .int .i64 0] rfl (by (try simp only [List.map_toArray, List.map_cons, List.map_nil]); first | done | rfl | (simp only [List.length_drop, List.length_take]; rfl)) ?_; (with_reducible refine (attrs_Read.calls ((a0.extract 0 (t209 : Int).toNat) ++ a1) 0 t219 t220 t221 true _ ?side1 A19.out).mono ?_); (case side1 => first | (with_reducible exact HG.out) | exact Gl.below HG.out (by repeat (first | (with_reducible first | exact HB.out | apply below_alloc | apply pw_below_drewN | apply below_drew1) | exact HB.out)) | exact HG.out); rintro e w38 ⟨v223, rfl, ho0, hb⟩; refine ⟨_, rfl, ?_⟩; have n0_ := Aside0.mk (Kd.R_elder' (by (with_reducible repeat (first | apply Kd.R_alloc | apply Kd.R_drewN | apply Kd.R_drew)); exact HO212.out) (Kd.R_base ho0) hb); have n1_ := Aside0.mk (Kd.R_elder' (by (with_reducible repeat (first | apply Kd.R_alloc | apply Kd.R_drewN | apply Kd.R_drew)); exact HO218.out) (Kd.R_base ho0) hb); have n2_ := Aside0.mk (Kd.R_lower (Kd.R_new' (Kd.R_new' ho0 (Kd.R_lt (by (with_reducible repeat (first | apply Kd.R_alloc | apply Kd.R_drewN | apply Kd.R_drew)); exact HO212.out))) (Kd.R_lt (by (with_reducible repeat (first | apply Kd.R_alloc | apply Kd.R_drewN | apply Kd.R_drew)); exact HO218.out))) (below_size (by repeat (first | (with_reducible first | exact HB.out | apply below_alloc | apply pw_below_drewN | apply below_drew1) | exact HB.out)))); have n3_ := Aside0.mk (below_step (by repeat (first | (with_reducible first | exact HB.out | apply below_alloc | apply pw_below_drewN | apply below_drew1) | exact HB.out)) hb); clear HO212; clear HO218; clear HB; have HO212 := n0_; have HO218 := n1_; have HO224 := n2_; have HB := n3_; clear n0_ n1_ n2_ n3_; (try clear hb); (try clear hb2); (try clear hk); (try clear hi); (try clear ho0); obtain ⟨Ao39, co39, eo39⟩ := Kd.R_slice HO212.out; subst eo39; obtain ⟨Ao40, co40, eo40⟩ := Kd.R_slice HO218.out; subst eo40) | (go_at_call 14; (with_reducible refine (flailref08_Same.calls k2 _ _ t207 _ _ t213 true _ ?side1 ?side2 ?side3 ?side4 A23.out).mono ?_); (case side1 => repeat (first | exact (Kd.R_reads' HO212.out).2.2 | (with_reducible refine Kd.C_alloc ?_ _) | (with_reducible refine Kd.C_drewN ?_ _) | (with_reducible refine Kd.C_drew ?_))); (case side2 => exact (Kd.R_reads' HO212.out).2.1); (case side3 => repeat (first | exact (Kd.R_reads' HO218.out).2.2 | (with_reducible refine Kd.C_alloc ?_ _) | (with_reducible refine Kd.C_drewN ?_ _) | (with_reducible refine Kd.C_drew ?_))); (case side4 => exact (Kd.R_reads' HO218.out).2.1); rintro e w' ⟨rfl, ⟨nd, rfl⟩⟩; obtain ⟨Ao41, co41, eo41⟩ := Kd.R_slice HO224.out; subst eo41) | (go_at_call 14; (with_reducible refine (flailref08_Same.calls k2 _ _ t207 _ _ t219 true _ ?side1 ?side2 ?side3 ?side4 A25.out).mono ?_); (case side1 => repeat (first | exact (Kd.R_reads' HO212.out).2.2 | (with_reducible refine Kd.C_alloc ?_ _) | (with_reducible refine Kd.C_drewN ?_ _) | (with_reducible refine Kd.C_drew ?_))); (case side2 => exact (Kd.R_reads' HO212.out).2.1); (case side3 => repeat (first | exact (Kd.R_reads' HO224.out).2.2 | (with_reducible refine Kd.C_alloc ?_ _) | (with_reducible refine Kd.C_drewN ?_ _) | (with_reducible refine Kd.C_drew ?_))); (case side4 => exact (Kd.R_reads' HO224.out).2.1); rintro e w' ⟨rfl, ⟨nd, rfl⟩⟩))
                                          go_ret
                                          exact ⟨by first | rfl | (simp [errW_none, errW_some] <;> rfl) | (simp [*, errW_none, errW_some] <;> rfl), by repeat (first | (with_reducible first | exact HB.out | apply below_alloc | apply pw_below_drewN | apply below_drew1) | exact HB.out)⟩
                                      · rw [if_neg c28] at H
                                        have c28b0 : (t208 == t220) = false := by simpa using c28
                                        (try (have c28b1 : decide (t208 = t220) = false := by simpa using c28))
                                        (try (have c28b2 : (t208 == t220) = false := by simpa using c28))
                                        (try (have c28b3 : ¬ (t208 = t220) := by simpa using c28))
                                        clear c28
                                        obtain rfl := Option.some.inj H
                                        go_wp2_with (first | ((with_reducible refine gate_callee (f := 13) rfl ?_); refine goesL_ (some 45) rfl rfl Tryd.func13 (by kernel_rfl) rfl #[.string a0, .int .i64 0] rfl (by (try simp only [List.map_toArray, List.map_cons, List.map_nil]); first | done | rfl | (simp only [List.length_drop, List.length_take]; rfl)) ?_; (with_reducible refine (attrs_Read.calls a0 0 t207 t208 t209 true _ ?side1 A12.out).mono ?_); (case side1 => first | (with_reducible exact HG.out) | exact Gl.below HG.out (by repeat (first | (with_reducible first | exact HB.out | apply below_alloc | apply pw_below_drewN | apply below_drew1) | exact HB.out)) | exact HG.out); rintro e w42 ⟨v211, rfl, ho0, hb⟩; refine ⟨_, rfl, ?_⟩; have n0_ := Aside0.mk (Kd.R_lower ho0 (below_size (by repeat (first | (with_reducible first | exact HB.out | apply below_alloc | apply pw_below_drewN | apply below_drew1) | exact HB.out)))); have n1_ := Aside0.mk (below_step (by repeat (first | (with_reducible first | exact HB.out | apply below_alloc | apply pw_below_drewN | apply below_drew1) | exact HB.out)) hb); clear HB; have HO212 := n0_; have HB := n1_; clear n0_ n1_; (try clear hb); (try clear hb2); (try clear hk); (try clear hi); (try clear ho0)) | ((with_reducible refine gate_callee (f := 13) rfl ?_); refine goesL_ (some 54) rfl rfl Tryd.func13 (by kernel_rfl) rfl #[.string ((x8_2 ++ (⟨#[32]⟩ : ByteArray)) ++ a0), .int .i64 0] rfl (by (try simp only [List.map_toArray, List.map_cons, List.map_nil]); first | done | rfl | (simp only [List.length_drop, List.length_take]; rfl)) ?_; (with_reducible refine (attrs_Read.calls ((x8_2 ++ (⟨#[32]⟩ : ByteArray)) ++ a0) 0 t213 t214 t215 true _ ?side1 A14.out).mono ?_); (case side1 => first | (with_reducible exact HG.out) | exact Gl.below HG.out (by repeat (first | (with_reducible first | exact HB.out | apply below_alloc | apply pw_below_drewN | apply below_drew1) | exact HB.out)) | exact HG.out); rintro e w43 ⟨v217, rfl, ho0, hb⟩; refine ⟨_, rfl, ?_⟩; have n0_ := Aside0.mk (Kd.R_elder' (by (with_reducible repeat (first | apply Kd.R_alloc | apply Kd.R_drewN | apply Kd.R_drew)); exact HO212.out) (Kd.R_base ho0) hb); have n1_ := Aside0.mk (Kd.R_lower (Kd.R_new' ho0 (Kd.R_lt (by (with_reducible repeat (first | apply Kd.R_alloc | apply Kd.R_drewN | apply Kd.R_drew)); exact HO212.out))) (below_size (by repeat (first | (with_reducible first | exact HB.out | apply below_alloc | apply pw_below_drewN | apply below_drew1) | exact HB.out)))); have n2_ := Aside0.mk (below_step (by repeat (first | (with_reducible first | exact HB.out | apply below_alloc | apply pw_below_drewN | apply below_drew1) | exact HB.out)) hb); clear HO212; clear HB; have HO212 := n0_; have HO218 := n1_; have HB := n2_; clear n0_ n1_ n2_; (try clear hb); (try clear hb2); (try clear hk); (try clear hi); (try clear ho0)) | ((with_reducible refine gate_callee (f := 13) rfl ?_); refine goesL_ (some 81) rfl rfl Tryd.func13 (by kernel_rfl) rfl #[.string ((a0.extract 0 (t209 : Int).toNat) ++ a1), .int .i64 0] rfl (by (try simp only [List.map_toArray, List.map_cons, List.map_nil]); first | done | rfl | (simp only [List.length_drop, List.length_take]; rfl)) ?_; (with_reducible refine (attrs_Read.calls ((a0.extract 0 (t209 : Int).toNat) ++ a1) 0 t219 t220 t221 true _ ?side1 A19.out).mono ?_); (case side1 => first | (with_reducible exact HG.out) | exact Gl.below HG.out (by repeat (first | (with_reducible first | exact HB.out | apply below_alloc | apply pw_below_drewN | apply below_drew1) | exact HB.out)) | exact HG.out); rintro e w44 ⟨v223, rfl, ho0, hb⟩; refine ⟨_, rfl, ?_⟩; have n0_ := Aside0.mk (Kd.R_elder' (by (with_reducible repeat (first | apply Kd.R_alloc | apply Kd.R_drewN | apply Kd.R_drew)); exact HO212.out) (Kd.R_base ho0) hb); have n1_ := Aside0.mk (Kd.R_elder' (by (with_reducible repeat (first | apply Kd.R_alloc | apply Kd.R_drewN | apply Kd.R_drew)); exact HO218.out) (Kd.R_base ho0) hb); have n2_ := Aside0.mk (Kd.R_lower (Kd.R_new' (Kd.R_new' ho0 (Kd.R_lt (by (with_reducible repeat (first | apply Kd.R_alloc | apply Kd.R_drewN | apply Kd.R_drew)); exact HO212.out))) (Kd.R_lt (by (with_reducible repeat (first | apply Kd.R_alloc | apply Kd.R_drewN | apply Kd.R_drew)); exact HO218.out))) (below_size (by repeat (first | (with_reducible first | exact HB.out | apply below_alloc | apply pw_below_drewN | apply below_drew1) | exact HB.out)))); have n3_ := Aside0.mk (below_step (by repeat (first | (with_reducible first | exact HB.out | apply below_alloc | apply pw_below_drewN | apply below_drew1) | exact HB.out)) hb); clear HO212; clear HO218; clear HB; have HO212 := n0_; have HO218 := n1_; have HO224 := n2_; have HB := n3_; clear n0_ n1_ n2_ n3_; (try clear hb); (try clear hb2); (try clear hk); (try clear hi); (try clear ho0); obtain ⟨Ao45, co45, eo45⟩ := Kd.R_slice HO212.out; subst eo45; obtain ⟨Ao46, co46, eo46⟩ := Kd.R_slice HO218.out; subst eo46) | (go_at_call 14; (with_reducible refine (flailref08_Same.calls k2 _ _ t207 _ _ t213 true _ ?side1 ?side2 ?side3 ?side4 A23.out).mono ?_); (case side1 => repeat (first | exact (Kd.R_reads' HO212.out).2.2 | (with_reducible refine Kd.C_alloc ?_ _) | (with_reducible refine Kd.C_drewN ?_ _) | (with_reducible refine Kd.C_drew ?_))); (case side2 => exact (Kd.R_reads' HO212.out).2.1); (case side3 => repeat (first | exact (Kd.R_reads' HO218.out).2.2 | (with_reducible refine Kd.C_alloc ?_ _) | (with_reducible refine Kd.C_drewN ?_ _) | (with_reducible refine Kd.C_drew ?_))); (case side4 => exact (Kd.R_reads' HO218.out).2.1); rintro e w' ⟨rfl, ⟨nd, rfl⟩⟩; obtain ⟨Ao47, co47, eo47⟩ := Kd.R_slice HO224.out; subst eo47) | (go_at_call 14; (with_reducible refine (flailref08_Same.calls k2 _ _ t207 _ _ t219 true _ ?side1 ?side2 ?side3 ?side4 A25.out).mono ?_); (case side1 => repeat (first | exact (Kd.R_reads' HO212.out).2.2 | (with_reducible refine Kd.C_alloc ?_ _) | (with_reducible refine Kd.C_drewN ?_ _) | (with_reducible refine Kd.C_drew ?_))); (case side2 => exact (Kd.R_reads' HO212.out).2.1); (case side3 => repeat (first | exact (Kd.R_reads' HO224.out).2.2 | (with_reducible refine Kd.C_alloc ?_ _) | (with_reducible refine Kd.C_drewN ?_ _) | (with_reducible refine Kd.C_drew ?_))); (case side4 => exact (Kd.R_reads' HO224.out).2.1); rintro e w' ⟨rfl, ⟨nd, rfl⟩⟩))
                                        go_ret
                                        exact ⟨by first | rfl | (simp [errW_none, errW_some] <;> rfl) | (simp [*, errW_none, errW_some] <;> rfl), by repeat (first | (with_reducible first | exact HB.out | apply below_alloc | apply pw_below_drewN | apply below_drew1) | exact HB.out)⟩
                                    · rw [if_neg c27] at H
                                      have c27b0 : (t208 == t214) = false := by simpa using c27
                                      (try (have c27b1 : decide (t208 = t214) = false := by simpa using c27))
                                      (try (have c27b2 : (t208 == t214) = false := by simpa using c27))
                                      (try (have c27b3 : ¬ (t208 = t214) := by simpa using c27))
                                      clear c27
                                      obtain rfl := Option.some.inj H
                                      go_wp2_with (first | ((with_reducible refine gate_callee (f := 13) rfl ?_); refine goesL_ (some 45) rfl rfl Tryd.func13 (by kernel_rfl) rfl #[.string a0, .int .i64 0] rfl (by (try simp only [List.map_toArray, List.map_cons, List.map_nil]); first | done | rfl | (simp only [List.length_drop, List.length_take]; rfl)) ?_; (with_reducible refine (attrs_Read.calls a0 0 t207 t208 t209 true _ ?side1 A12.out).mono ?_); (case side1 => first | (with_reducible exact HG.out) | exact Gl.below HG.out (by repeat (first | (with_reducible first | exact HB.out | apply below_alloc | apply pw_below_drewN | apply below_drew1) | exact HB.out)) | exact HG.out); rintro e w48 ⟨v211, rfl, ho0, hb⟩; refine ⟨_, rfl, ?_⟩; have n0_ := Aside0.mk (Kd.R_lower ho0 (below_size (by repeat (first | (with_reducible first | exact HB.out | apply below_alloc | apply pw_below_drewN | apply below_drew1) | exact HB.out)))); have n1_ := Aside0.mk (below_step (by repeat (first | (with_reducible first | exact HB.out | apply below_alloc | apply pw_below_drewN | apply below_drew1) | exact HB.out)) hb); clear HB; have HO212 := n0_; have HB := n1_; clear n0_ n1_; (try clear hb); (try clear hb2); (try clear hk); (try clear hi); (try clear ho0)) | ((with_reducible refine gate_callee (f := 13) rfl ?_); refine goesL_ (some 54) rfl rfl Tryd.func13 (by kernel_rfl) rfl #[.string ((x8_2 ++ (⟨#[32]⟩ : ByteArray)) ++ a0), .int .i64 0] rfl (by (try simp only [List.map_toArray, List.map_cons, List.map_nil]); first | done | rfl | (simp only [List.length_drop, List.length_take]; rfl)) ?_; (with_reducible refine (attrs_Read.calls ((x8_2 ++ (⟨#[32]⟩ : ByteArray)) ++ a0) 0 t213 t214 t215 true _ ?side1 A14.out).mono ?_); (case side1 => first | (with_reducible exact HG.out) | exact Gl.below HG.out (by repeat (first | (with_reducible first | exact HB.out | apply below_alloc | apply pw_below_drewN | apply below_drew1) | exact HB.out)) | exact HG.out); rintro e w49 ⟨v217, rfl, ho0, hb⟩; refine ⟨_, rfl, ?_⟩; have n0_ := Aside0.mk (Kd.R_elder' (by (with_reducible repeat (first | apply Kd.R_alloc | apply Kd.R_drewN | apply Kd.R_drew)); exact HO212.out) (Kd.R_base ho0) hb); have n1_ := Aside0.mk (Kd.R_lower (Kd.R_new' ho0 (Kd.R_lt (by (with_reducible repeat (first | apply Kd.R_alloc | apply Kd.R_drewN | apply Kd.R_drew)); exact HO212.out))) (below_size (by repeat (first | (with_reducible first | exact HB.out | apply below_alloc | apply pw_below_drewN | apply below_drew1) | exact HB.out)))); have n2_ := Aside0.mk (below_step (by repeat (first | (with_reducible first | exact HB.out | apply below_alloc | apply pw_below_drewN | apply below_drew1) | exact HB.out)) hb); clear HO212; clear HB; have HO212 := n0_; have HO218 := n1_; have HB := n2_; clear n0_ n1_ n2_; (try clear hb); (try clear hb2); (try clear hk); (try clear hi); (try clear ho0)) | ((with_reducible refine gate_callee (f := 13) rfl ?_); refine goesL_ (some 81) rfl rfl Tryd.func13 (by kernel_rfl) rfl #[.string ((a0.extract 0 (t209 : Int).toNat) ++ a1), .int .i64 0] rfl (by (try simp only [List.map_toArray, List.map_cons, List.map_nil]); first | done | rfl | (simp only [List.length_drop, List.length_take]; rfl)) ?_; (with_reducible refine (attrs_Read.calls ((a0.extract 0 (t209 : Int).toNat) ++ a1) 0 t219 t220 t221 true _ ?side1 A19.out).mono ?_); (case side1 => first | (with_reducible exact HG.out) | exact Gl.below HG.out (by repeat (first | (with_reducible first | exact HB.out | apply below_alloc | apply pw_below_drewN | apply below_drew1) | exact HB.out)) | exact HG.out); rintro e w50 ⟨v223, rfl, ho0, hb⟩; refine ⟨_, rfl, ?_⟩; have n0_ := Aside0.mk (Kd.R_elder' (by (with_reducible repeat (first | apply Kd.R_alloc | apply Kd.R_drewN | apply Kd.R_drew)); exact HO212.out) (Kd.R_base ho0) hb); have n1_ := Aside0.mk (Kd.R_elder' (by (with_reducible repeat (first | apply Kd.R_alloc | apply Kd.R_drewN | apply Kd.R_drew)); exact HO218.out) (Kd.R_base ho0) hb); have n2_ := Aside0.mk (Kd.R_lower (Kd.R_new' (Kd.R_new' ho0 (Kd.R_lt (by (with_reducible repeat (first | apply Kd.R_alloc | apply Kd.R_drewN | apply Kd.R_drew)); exact HO212.out))) (Kd.R_lt (by (with_reducible repeat (first | apply Kd.R_alloc | apply Kd.R_drewN | apply Kd.R_drew)); exact HO218.out))) (below_size (by repeat (first | (with_reducible first | exact HB.out | apply below_alloc | apply pw_below_drewN | apply below_drew1) | exact HB.out)))); have n3_ := Aside0.mk (below_step (by repeat (first | (with_reducible first | exact HB.out | apply below_alloc | apply pw_below_drewN | apply below_drew1) | exact HB.out)) hb); clear HO212; clear HO218; clear HB; have HO212 := n0_; have HO218 := n1_; have HO224 := n2_; have HB := n3_; clear n0_ n1_ n2_ n3_; (try clear hb); (try clear hb2); (try clear hk); (try clear hi); (try clear ho0); obtain ⟨Ao51, co51, eo51⟩ := Kd.R_slice HO212.out; subst eo51; obtain ⟨Ao52, co52, eo52⟩ := Kd.R_slice HO218.out; subst eo52) | (go_at_call 14; (with_reducible refine (flailref08_Same.calls k2 _ _ t207 _ _ t213 true _ ?side1 ?side2 ?side3 ?side4 A23.out).mono ?_); (case side1 => repeat (first | exact (Kd.R_reads' HO212.out).2.2 | (with_reducible refine Kd.C_alloc ?_ _) | (with_reducible refine Kd.C_drewN ?_ _) | (with_reducible refine Kd.C_drew ?_))); (case side2 => exact (Kd.R_reads' HO212.out).2.1); (case side3 => repeat (first | exact (Kd.R_reads' HO218.out).2.2 | (with_reducible refine Kd.C_alloc ?_ _) | (with_reducible refine Kd.C_drewN ?_ _) | (with_reducible refine Kd.C_drew ?_))); (case side4 => exact (Kd.R_reads' HO218.out).2.1); rintro e w' ⟨rfl, ⟨nd, rfl⟩⟩; obtain ⟨Ao53, co53, eo53⟩ := Kd.R_slice HO224.out; subst eo53) | (go_at_call 14; (with_reducible refine (flailref08_Same.calls k2 _ _ t207 _ _ t219 true _ ?side1 ?side2 ?side3 ?side4 A25.out).mono ?_); (case side1 => repeat (first | exact (Kd.R_reads' HO212.out).2.2 | (with_reducible refine Kd.C_alloc ?_ _) | (with_reducible refine Kd.C_drewN ?_ _) | (with_reducible refine Kd.C_drew ?_))); (case side2 => exact (Kd.R_reads' HO212.out).2.1); (case side3 => repeat (first | exact (Kd.R_reads' HO224.out).2.2 | (with_reducible refine Kd.C_alloc ?_ _) | (with_reducible refine Kd.C_drewN ?_ _) | (with_reducible refine Kd.C_drew ?_))); (case side4 => exact (Kd.R_reads' HO224.out).2.1); rintro e w' ⟨rfl, ⟨nd, rfl⟩⟩))
                                      go_ret
                                      exact ⟨by first | rfl | (simp [errW_none, errW_some] <;> rfl) | (simp [*, errW_none, errW_some] <;> rfl), by repeat (first | (with_reducible first | exact HB.out | apply below_alloc | apply pw_below_drewN | apply below_drew1) | exact HB.out)⟩
                                  · replace c26 := Bool.eq_false_iff.mpr c26
                                    subst c26
                                    have H1 : (some false) = some r := by rw [if_neg (show ¬ (false = true) by decide)] at H; exact H
                                    clear H
                                    have H := H1
                                    clear H1
                                    obtain rfl := Option.some.inj H
                                    go_wp2_with (first | ((with_reducible refine gate_callee (f := 13) rfl ?_); refine goesL_ (some 45) rfl rfl Tryd.func13 (by kernel_rfl) rfl #[.string a0, .int .i64 0] rfl (by (try simp only [List.map_toArray, List.map_cons, List.map_nil]); first | done | rfl | (simp only [List.length_drop, List.length_take]; rfl)) ?_; (with_reducible refine (attrs_Read.calls a0 0 t207 t208 t209 true _ ?side1 A12.out).mono ?_); (case side1 => first | (with_reducible exact HG.out) | exact Gl.below HG.out (by repeat (first | (with_reducible first | exact HB.out | apply below_alloc | apply pw_below_drewN | apply below_drew1) | exact HB.out)) | exact HG.out); rintro e w54 ⟨v211, rfl, ho0, hb⟩; refine ⟨_, rfl, ?_⟩; have n0_ := Aside0.mk (Kd.R_lower ho0 (below_size (by repeat (first | (with_reducible first | exact HB.out | apply below_alloc | apply pw_below_drewN | apply below_drew1) | exact HB.out)))); have n1_ := Aside0.mk (below_step (by repeat (first | (with_reducible first | exact HB.out | apply below_alloc | apply pw_below_drewN | apply below_drew1) | exact HB.out)) hb); clear HB; have HO212 := n0_; have HB := n1_; clear n0_ n1_; (try clear hb); (try clear hb2); (try clear hk); (try clear hi); (try clear ho0)) | ((with_reducible refine gate_callee (f := 13) rfl ?_); refine goesL_ (some 54) rfl rfl Tryd.func13 (by kernel_rfl) rfl #[.string ((x8_2 ++ (⟨#[32]⟩ : ByteArray)) ++ a0), .int .i64 0] rfl (by (try simp only [List.map_toArray, List.map_cons, List.map_nil]); first | done | rfl | (simp only [List.length_drop, List.length_take]; rfl)) ?_; (with_reducible refine (attrs_Read.calls ((x8_2 ++ (⟨#[32]⟩ : ByteArray)) ++ a0) 0 t213 t214 t215 true _ ?side1 A14.out).mono ?_); (case side1 => first | (with_reducible exact HG.out) | exact Gl.below HG.out (by repeat (first | (with_reducible first | exact HB.out | apply below_alloc | apply pw_below_drewN | apply below_drew1) | exact HB.out)) | exact HG.out); rintro e w55 ⟨v217, rfl, ho0, hb⟩; refine ⟨_, rfl, ?_⟩; have n0_ := Aside0.mk (Kd.R_elder' (by (with_reducible repeat (first | apply Kd.R_alloc | apply Kd.R_drewN | apply Kd.R_drew)); exact HO212.out) (Kd.R_base ho0) hb); have n1_ := Aside0.mk (Kd.R_lower (Kd.R_new' ho0 (Kd.R_lt (by (with_reducible repeat (first | apply Kd.R_alloc | apply Kd.R_drewN | apply Kd.R_drew)); exact HO212.out))) (below_size (by repeat (first | (with_reducible first | exact HB.out | apply below_alloc | apply pw_below_drewN | apply below_drew1) | exact HB.out)))); have n2_ := Aside0.mk (below_step (by repeat (first | (with_reducible first | exact HB.out | apply below_alloc | apply pw_below_drewN | apply below_drew1) | exact HB.out)) hb); clear HO212; clear HB; have HO212 := n0_; have HO218 := n1_; have HB := n2_; clear n0_ n1_ n2_; (try clear hb); (try clear hb2); (try clear hk); (try clear hi); (try clear ho0)) | ((with_reducible refine gate_callee (f := 13) rfl ?_); refine goesL_ (some 81) rfl rfl Tryd.func13 (by kernel_rfl) rfl #[.string ((a0.extract 0 (t209 : Int).toNat) ++ a1), .int .i64 0] rfl (by (try simp only [List.map_toArray, List.map_cons, List.map_nil]); first | done | rfl | (simp only [List.length_drop, List.length_take]; rfl)) ?_; (with_reducible refine (attrs_Read.calls ((a0.extract 0 (t209 : Int).toNat) ++ a1) 0 t219 t220 t221 true _ ?side1 A19.out).mono ?_); (case side1 => first | (with_reducible exact HG.out) | exact Gl.below HG.out (by repeat (first | (with_reducible first | exact HB.out | apply below_alloc | apply pw_below_drewN | apply below_drew1) | exact HB.out)) | exact HG.out); rintro e w56 ⟨v223, rfl, ho0, hb⟩; refine ⟨_, rfl, ?_⟩; have n0_ := Aside0.mk (Kd.R_elder' (by (with_reducible repeat (first | apply Kd.R_alloc | apply Kd.R_drewN | apply Kd.R_drew)); exact HO212.out) (Kd.R_base ho0) hb); have n1_ := Aside0.mk (Kd.R_elder' (by (with_reducible repeat (first | apply Kd.R_alloc | apply Kd.R_drewN | apply Kd.R_drew)); exact HO218.out) (Kd.R_base ho0) hb); have n2_ := Aside0.mk (Kd.R_lower (Kd.R_new' (Kd.R_new' ho0 (Kd.R_lt (by (with_reducible repeat (first | apply Kd.R_alloc | apply Kd.R_drewN | apply Kd.R_drew)); exact HO212.out))) (Kd.R_lt (by (with_reducible repeat (first | apply Kd.R_alloc | apply Kd.R_drewN | apply Kd.R_drew)); exact HO218.out))) (below_size (by repeat (first | (with_reducible first | exact HB.out | apply below_alloc | apply pw_below_drewN | apply below_drew1) | exact HB.out)))); have n3_ := Aside0.mk (below_step (by repeat (first | (with_reducible first | exact HB.out | apply below_alloc | apply pw_below_drewN | apply below_drew1) | exact HB.out)) hb); clear HO212; clear HO218; clear HB; have HO212 := n0_; have HO218 := n1_; have HO224 := n2_; have HB := n3_; clear n0_ n1_ n2_ n3_; (try clear hb); (try clear hb2); (try clear hk); (try clear hi); (try clear ho0); obtain ⟨Ao57, co57, eo57⟩ := Kd.R_slice HO212.out; subst eo57; obtain ⟨Ao58, co58, eo58⟩ := Kd.R_slice HO218.out; subst eo58) | (go_at_call 14; (with_reducible refine (flailref08_Same.calls k2 _ _ t207 _ _ t213 true _ ?side1 ?side2 ?side3 ?side4 A23.out).mono ?_); (case side1 => repeat (first | exact (Kd.R_reads' HO212.out).2.2 | (with_reducible refine Kd.C_alloc ?_ _) | (with_reducible refine Kd.C_drewN ?_ _) | (with_reducible refine Kd.C_drew ?_))); (case side2 => exact (Kd.R_reads' HO212.out).2.1); (case side3 => repeat (first | exact (Kd.R_reads' HO218.out).2.2 | (with_reducible refine Kd.C_alloc ?_ _) | (with_reducible refine Kd.C_drewN ?_ _) | (with_reducible refine Kd.C_drew ?_))); (case side4 => exact (Kd.R_reads' HO218.out).2.1); rintro e w' ⟨rfl, ⟨nd, rfl⟩⟩; obtain ⟨Ao59, co59, eo59⟩ := Kd.R_slice HO224.out; subst eo59) | (go_at_call 14; (with_reducible refine (flailref08_Same.calls k2 _ _ t207 _ _ t219 false _ ?side1 ?side2 ?side3 ?side4 A25.out).mono ?_); (case side1 => repeat (first | exact (Kd.R_reads' HO212.out).2.2 | (with_reducible refine Kd.C_alloc ?_ _) | (with_reducible refine Kd.C_drewN ?_ _) | (with_reducible refine Kd.C_drew ?_))); (case side2 => exact (Kd.R_reads' HO212.out).2.1); (case side3 => repeat (first | exact (Kd.R_reads' HO224.out).2.2 | (with_reducible refine Kd.C_alloc ?_ _) | (with_reducible refine Kd.C_drewN ?_ _) | (with_reducible refine Kd.C_drew ?_))); (case side4 => exact (Kd.R_reads' HO224.out).2.1); rintro e w' ⟨rfl, ⟨nd, rfl⟩⟩))
                                    go_ret
                                    exact ⟨by first | rfl | (simp [errW_none, errW_some] <;> rfl) | (simp [*, errW_none, errW_some] <;> rfl), by repeat (first | (with_reducible first | exact HB.out | apply below_alloc | apply pw_below_drewN | apply below_drew1) | exact HB.out)⟩
                                · replace c24 := Bool.eq_false_iff.mpr c24
                                  subst c24
                                  have H1 : (some false) = some r := by rw [if_neg (show ¬ (false = true) by decide)] at H; exact H
                                  clear H
                                  have H := H1
                                  clear H1
                                  obtain rfl := Option.some.inj H
                                  go_wp2_with (first | ((with_reducible refine gate_callee (f := 13) rfl ?_); refine goesL_ (some 45) rfl rfl Tryd.func13 (by kernel_rfl) rfl #[.string a0, .int .i64 0] rfl (by (try simp only [List.map_toArray, List.map_cons, List.map_nil]); first | done | rfl | (simp only [List.length_drop, List.length_take]; rfl)) ?_; (with_reducible refine (attrs_Read.calls a0 0 t207 t208 t209 true _ ?side1 A12.out).mono ?_); (case side1 => first | (with_reducible exact HG.out) | exact Gl.below HG.out (by repeat (first | (with_reducible first | exact HB.out | apply below_alloc | apply pw_below_drewN | apply below_drew1) | exact HB.out)) | exact HG.out); rintro e w60 ⟨v211, rfl, ho0, hb⟩; refine ⟨_, rfl, ?_⟩; have n0_ := Aside0.mk (Kd.R_lower ho0 (below_size (by repeat (first | (with_reducible first | exact HB.out | apply below_alloc | apply pw_below_drewN | apply below_drew1) | exact HB.out)))); have n1_ := Aside0.mk (below_step (by repeat (first | (with_reducible first | exact HB.out | apply below_alloc | apply pw_below_drewN | apply below_drew1) | exact HB.out)) hb); clear HB; have HO212 := n0_; have HB := n1_; clear n0_ n1_; (try clear hb); (try clear hb2); (try clear hk); (try clear hi); (try clear ho0)) | ((with_reducible refine gate_callee (f := 13) rfl ?_); refine goesL_ (some 54) rfl rfl Tryd.func13 (by kernel_rfl) rfl #[.string ((x8_2 ++ (⟨#[32]⟩ : ByteArray)) ++ a0), .int .i64 0] rfl (by (try simp only [List.map_toArray, List.map_cons, List.map_nil]); first | done | rfl | (simp only [List.length_drop, List.length_take]; rfl)) ?_; (with_reducible refine (attrs_Read.calls ((x8_2 ++ (⟨#[32]⟩ : ByteArray)) ++ a0) 0 t213 t214 t215 true _ ?side1 A14.out).mono ?_); (case side1 => first | (with_reducible exact HG.out) | exact Gl.below HG.out (by repeat (first | (with_reducible first | exact HB.out | apply below_alloc | apply pw_below_drewN | apply below_drew1) | exact HB.out)) | exact HG.out); rintro e w61 ⟨v217, rfl, ho0, hb⟩; refine ⟨_, rfl, ?_⟩; have n0_ := Aside0.mk (Kd.R_elder' (by (with_reducible repeat (first | apply Kd.R_alloc | apply Kd.R_drewN | apply Kd.R_drew)); exact HO212.out) (Kd.R_base ho0) hb); have n1_ := Aside0.mk (Kd.R_lower (Kd.R_new' ho0 (Kd.R_lt (by (with_reducible repeat (first | apply Kd.R_alloc | apply Kd.R_drewN | apply Kd.R_drew)); exact HO212.out))) (below_size (by repeat (first | (with_reducible first | exact HB.out | apply below_alloc | apply pw_below_drewN | apply below_drew1) | exact HB.out)))); have n2_ := Aside0.mk (below_step (by repeat (first | (with_reducible first | exact HB.out | apply below_alloc | apply pw_below_drewN | apply below_drew1) | exact HB.out)) hb); clear HO212; clear HB; have HO212 := n0_; have HO218 := n1_; have HB := n2_; clear n0_ n1_ n2_; (try clear hb); (try clear hb2); (try clear hk); (try clear hi); (try clear ho0)) | ((with_reducible refine gate_callee (f := 13) rfl ?_); refine goesL_ (some 81) rfl rfl Tryd.func13 (by kernel_rfl) rfl #[.string ((a0.extract 0 (t209 : Int).toNat) ++ a1), .int .i64 0] rfl (by (try simp only [List.map_toArray, List.map_cons, List.map_nil]); first | done | rfl | (simp only [List.length_drop, List.length_take]; rfl)) ?_; (with_reducible refine (attrs_Read.calls ((a0.extract 0 (t209 : Int).toNat) ++ a1) 0 t219 t220 t221 true _ ?side1 A19.out).mono ?_); (case side1 => first | (with_reducible exact HG.out) | exact Gl.below HG.out (by repeat (first | (with_reducible first | exact HB.out | apply below_alloc | apply pw_below_drewN | apply below_drew1) | exact HB.out)) | exact HG.out); rintro e w62 ⟨v223, rfl, ho0, hb⟩; refine ⟨_, rfl, ?_⟩; have n0_ := Aside0.mk (Kd.R_elder' (by (with_reducible repeat (first | apply Kd.R_alloc | apply Kd.R_drewN | apply Kd.R_drew)); exact HO212.out) (Kd.R_base ho0) hb); have n1_ := Aside0.mk (Kd.R_elder' (by (with_reducible repeat (first | apply Kd.R_alloc | apply Kd.R_drewN | apply Kd.R_drew)); exact HO218.out) (Kd.R_base ho0) hb); have n2_ := Aside0.mk (Kd.R_lower (Kd.R_new' (Kd.R_new' ho0 (Kd.R_lt (by (with_reducible repeat (first | apply Kd.R_alloc | apply Kd.R_drewN | apply Kd.R_drew)); exact HO212.out))) (Kd.R_lt (by (with_reducible repeat (first | apply Kd.R_alloc | apply Kd.R_drewN | apply Kd.R_drew)); exact HO218.out))) (below_size (by repeat (first | (with_reducible first | exact HB.out | apply below_alloc | apply pw_below_drewN | apply below_drew1) | exact HB.out)))); have n3_ := Aside0.mk (below_step (by repeat (first | (with_reducible first | exact HB.out | apply below_alloc | apply pw_below_drewN | apply below_drew1) | exact HB.out)) hb); clear HO212; clear HO218; clear HB; have HO212 := n0_; have HO218 := n1_; have HO224 := n2_; have HB := n3_; clear n0_ n1_ n2_ n3_; (try clear hb); (try clear hb2); (try clear hk); (try clear hi); (try clear ho0); obtain ⟨Ao63, co63, eo63⟩ := Kd.R_slice HO212.out; subst eo63; obtain ⟨Ao64, co64, eo64⟩ := Kd.R_slice HO218.out; subst eo64) | (go_at_call 14; (with_reducible refine (flailref08_Same.calls k2 _ _ t207 _ _ t213 false _ ?side1 ?side2 ?side3 ?side4 A23.out).mono ?_); (case side1 => repeat (first | exact (Kd.R_reads' HO212.out).2.2 | (with_reducible refine Kd.C_alloc ?_ _) | (with_reducible refine Kd.C_drewN ?_ _) | (with_reducible refine Kd.C_drew ?_))); (case side2 => exact (Kd.R_reads' HO212.out).2.1); (case side3 => repeat (first | exact (Kd.R_reads' HO218.out).2.2 | (with_reducible refine Kd.C_alloc ?_ _) | (with_reducible refine Kd.C_drewN ?_ _) | (with_reducible refine Kd.C_drew ?_))); (case side4 => exact (Kd.R_reads' HO218.out).2.1); rintro e w' ⟨rfl, ⟨nd, rfl⟩⟩))
                                  go_ret
                                  exact ⟨by first | rfl | (simp [errW_none, errW_some] <;> rfl) | (simp [*, errW_none, errW_some] <;> rfl), by repeat (first | (with_reducible first | exact HB.out | apply below_alloc | apply pw_below_drewN | apply below_drew1) | exact HB.out)⟩
                              · replace c22 := Bool.eq_false_iff.mpr c22
                                subst c22
                                have H1 : (some false) = some r := by rw [if_neg (show ¬ (false = true) by decide)] at H; exact H
                                clear H
                                have H := H1
                                clear H1
                                obtain rfl := Option.some.inj H
                                go_wp2_with (first | ((with_reducible refine gate_callee (f := 13) rfl ?_); refine goesL_ (some 45) rfl rfl Tryd.func13 (by kernel_rfl) rfl #[.string a0, .int .i64 0] rfl (by (try simp only [List.map_toArray, List.map_cons, List.map_nil]); first | done | rfl | (simp only [List.length_drop, List.length_take]; rfl)) ?_; (with_reducible refine (attrs_Read.calls a0 0 t207 t208 t209 true _ ?side1 A12.out).mono ?_); (case side1 => first | (with_reducible exact HG.out) | exact Gl.below HG.out (by repeat (first | (with_reducible first | exact HB.out | apply below_alloc | apply pw_below_drewN | apply below_drew1) | exact HB.out)) | exact HG.out); rintro e w65 ⟨v211, rfl, ho0, hb⟩; refine ⟨_, rfl, ?_⟩; have n0_ := Aside0.mk (Kd.R_lower ho0 (below_size (by repeat (first | (with_reducible first | exact HB.out | apply below_alloc | apply pw_below_drewN | apply below_drew1) | exact HB.out)))); have n1_ := Aside0.mk (below_step (by repeat (first | (with_reducible first | exact HB.out | apply below_alloc | apply pw_below_drewN | apply below_drew1) | exact HB.out)) hb); clear HB; have HO212 := n0_; have HB := n1_; clear n0_ n1_; (try clear hb); (try clear hb2); (try clear hk); (try clear hi); (try clear ho0)) | ((with_reducible refine gate_callee (f := 13) rfl ?_); refine goesL_ (some 54) rfl rfl Tryd.func13 (by kernel_rfl) rfl #[.string ((x8_2 ++ (⟨#[32]⟩ : ByteArray)) ++ a0), .int .i64 0] rfl (by (try simp only [List.map_toArray, List.map_cons, List.map_nil]); first | done | rfl | (simp only [List.length_drop, List.length_take]; rfl)) ?_; (with_reducible refine (attrs_Read.calls ((x8_2 ++ (⟨#[32]⟩ : ByteArray)) ++ a0) 0 t213 t214 t215 true _ ?side1 A14.out).mono ?_); (case side1 => first | (with_reducible exact HG.out) | exact Gl.below HG.out (by repeat (first | (with_reducible first | exact HB.out | apply below_alloc | apply pw_below_drewN | apply below_drew1) | exact HB.out)) | exact HG.out); rintro e w66 ⟨v217, rfl, ho0, hb⟩; refine ⟨_, rfl, ?_⟩; have n0_ := Aside0.mk (Kd.R_elder' (by (with_reducible repeat (first | apply Kd.R_alloc | apply Kd.R_drewN | apply Kd.R_drew)); exact HO212.out) (Kd.R_base ho0) hb); have n1_ := Aside0.mk (Kd.R_lower (Kd.R_new' ho0 (Kd.R_lt (by (with_reducible repeat (first | apply Kd.R_alloc | apply Kd.R_drewN | apply Kd.R_drew)); exact HO212.out))) (below_size (by repeat (first | (with_reducible first | exact HB.out | apply below_alloc | apply pw_below_drewN | apply below_drew1) | exact HB.out)))); have n2_ := Aside0.mk (below_step (by repeat (first | (with_reducible first | exact HB.out | apply below_alloc | apply pw_below_drewN | apply below_drew1) | exact HB.out)) hb); clear HO212; clear HB; have HO212 := n0_; have HO218 := n1_; have HB := n2_; clear n0_ n1_ n2_; (try clear hb); (try clear hb2); (try clear hk); (try clear hi); (try clear ho0)) | ((with_reducible refine gate_callee (f := 13) rfl ?_); refine goesL_ (some 81) rfl rfl Tryd.func13 (by kernel_rfl) rfl #[.string ((a0.extract 0 (t209 : Int).toNat) ++ a1), .int .i64 0] rfl (by (try simp only [List.map_toArray, List.map_cons, List.map_nil]); first | done | rfl | (simp only [List.length_drop, List.length_take]; rfl)) ?_; (with_reducible refine (attrs_Read.calls ((a0.extract 0 (t209 : Int).toNat) ++ a1) 0 t219 t220 t221 false _ ?side1 A19.out).mono ?_); (case side1 => first | (with_reducible exact HG.out) | exact Gl.below HG.out (by repeat (first | (with_reducible first | exact HB.out | apply below_alloc | apply pw_below_drewN | apply below_drew1) | exact HB.out)) | exact HG.out); rintro e w67 ⟨v223, rfl, ho0, hb⟩; refine ⟨_, rfl, ?_⟩; have n0_ := Aside0.mk (Kd.R_elder' (by (with_reducible repeat (first | apply Kd.R_alloc | apply Kd.R_drewN | apply Kd.R_drew)); exact HO212.out) (Kd.R_base ho0) hb); have n1_ := Aside0.mk (Kd.R_elder' (by (with_reducible repeat (first | apply Kd.R_alloc | apply Kd.R_drewN | apply Kd.R_drew)); exact HO218.out) (Kd.R_base ho0) hb); have n2_ := Aside0.mk (Kd.R_lower (Kd.R_new' (Kd.R_new' ho0 (Kd.R_lt (by (with_reducible repeat (first | apply Kd.R_alloc | apply Kd.R_drewN | apply Kd.R_drew)); exact HO212.out))) (Kd.R_lt (by (with_reducible repeat (first | apply Kd.R_alloc | apply Kd.R_drewN | apply Kd.R_drew)); exact HO218.out))) (below_size (by repeat (first | (with_reducible first | exact HB.out | apply below_alloc | apply pw_below_drewN | apply below_drew1) | exact HB.out)))); have n3_ := Aside0.mk (below_step (by repeat (first | (with_reducible first | exact HB.out | apply below_alloc | apply pw_below_drewN | apply below_drew1) | exact HB.out)) hb); clear HO212; clear HO218; clear HB; have HO212 := n0_; have HO218 := n1_; have HO224 := n2_; have HB := n3_; clear n0_ n1_ n2_ n3_; (try clear hb); (try clear hb2); (try clear hk); (try clear hi); (try clear ho0)))
                                go_ret
                                exact ⟨by first | rfl | (simp [errW_none, errW_some] <;> rfl) | (simp [*, errW_none, errW_some] <;> rfl), by repeat (first | (with_reducible first | exact HB.out | apply below_alloc | apply pw_below_drewN | apply below_drew1) | exact HB.out)⟩
                            · replace c21 := Bool.eq_false_iff.mpr c21
                              subst c21
                              have H1 : (some false) = some r := by rw [if_neg (show ¬ (false = true) by decide)] at H; exact H
                              clear H
                              have H := H1
                              clear H1
                              obtain rfl := Option.some.inj H
                              go_wp2_with (first | ((with_reducible refine gate_callee (f := 13) rfl ?_); refine goesL_ (some 45) rfl rfl Tryd.func13 (by kernel_rfl) rfl #[.string a0, .int .i64 0] rfl (by (try simp only [List.map_toArray, List.map_cons, List.map_nil]); first | done | rfl | (simp only [List.length_drop, List.length_take]; rfl)) ?_; (with_reducible refine (attrs_Read.calls a0 0 t207 t208 t209 true _ ?side1 A12.out).mono ?_); (case side1 => first | (with_reducible exact HG.out) | exact Gl.below HG.out (by repeat (first | (with_reducible first | exact HB.out | apply below_alloc | apply pw_below_drewN | apply below_drew1) | exact HB.out)) | exact HG.out); rintro e w68 ⟨v211, rfl, ho0, hb⟩; refine ⟨_, rfl, ?_⟩; have n0_ := Aside0.mk (Kd.R_lower ho0 (below_size (by repeat (first | (with_reducible first | exact HB.out | apply below_alloc | apply pw_below_drewN | apply below_drew1) | exact HB.out)))); have n1_ := Aside0.mk (below_step (by repeat (first | (with_reducible first | exact HB.out | apply below_alloc | apply pw_below_drewN | apply below_drew1) | exact HB.out)) hb); clear HB; have HO212 := n0_; have HB := n1_; clear n0_ n1_; (try clear hb); (try clear hb2); (try clear hk); (try clear hi); (try clear ho0)) | ((with_reducible refine gate_callee (f := 13) rfl ?_); refine goesL_ (some 54) rfl rfl Tryd.func13 (by kernel_rfl) rfl #[.string ((x8_2 ++ (⟨#[32]⟩ : ByteArray)) ++ a0), .int .i64 0] rfl (by (try simp only [List.map_toArray, List.map_cons, List.map_nil]); first | done | rfl | (simp only [List.length_drop, List.length_take]; rfl)) ?_; (with_reducible refine (attrs_Read.calls ((x8_2 ++ (⟨#[32]⟩ : ByteArray)) ++ a0) 0 t213 t214 t215 false _ ?side1 A14.out).mono ?_); (case side1 => first | (with_reducible exact HG.out) | exact Gl.below HG.out (by repeat (first | (with_reducible first | exact HB.out | apply below_alloc | apply pw_below_drewN | apply below_drew1) | exact HB.out)) | exact HG.out); rintro e w69 ⟨v217, rfl, ho0, hb⟩; refine ⟨_, rfl, ?_⟩; have n0_ := Aside0.mk (Kd.R_elder' (by (with_reducible repeat (first | apply Kd.R_alloc | apply Kd.R_drewN | apply Kd.R_drew)); exact HO212.out) (Kd.R_base ho0) hb); have n1_ := Aside0.mk (Kd.R_lower (Kd.R_new' ho0 (Kd.R_lt (by (with_reducible repeat (first | apply Kd.R_alloc | apply Kd.R_drewN | apply Kd.R_drew)); exact HO212.out))) (below_size (by repeat (first | (with_reducible first | exact HB.out | apply below_alloc | apply pw_below_drewN | apply below_drew1) | exact HB.out)))); have n2_ := Aside0.mk (below_step (by repeat (first | (with_reducible first | exact HB.out | apply below_alloc | apply pw_below_drewN | apply below_drew1) | exact HB.out)) hb); clear HO212; clear HB; have HO212 := n0_; have HO218 := n1_; have HB := n2_; clear n0_ n1_ n2_; (try clear hb); (try clear hb2); (try clear hk); (try clear hi); (try clear ho0)) | ((with_reducible refine gate_callee (f := 13) rfl ?_); refine goesL_ (some 81) rfl rfl Tryd.func13 (by kernel_rfl) rfl #[.string ((a0.extract 0 (t209 : Int).toNat) ++ a1), .int .i64 0] rfl (by (try simp only [List.map_toArray, List.map_cons, List.map_nil]); first | done | rfl | (simp only [List.length_drop, List.length_take]; rfl)) ?_; (with_reducible refine (attrs_Read.calls ((a0.extract 0 (t209 : Int).toNat) ++ a1) 0 t219 t220 t221 t222 _ ?side1 A19.out).mono ?_); (case side1 => first | (with_reducible exact HG.out) | exact Gl.below HG.out (by repeat (first | (with_reducible first | exact HB.out | apply below_alloc | apply pw_below_drewN | apply below_drew1) | exact HB.out)) | exact HG.out); rintro e w70 ⟨v223, rfl, ho0, hb⟩; refine ⟨_, rfl, ?_⟩; have n0_ := Aside0.mk (Kd.R_elder' (by (with_reducible repeat (first | apply Kd.R_alloc | apply Kd.R_drewN | apply Kd.R_drew)); exact HO212.out) (Kd.R_base ho0) hb); have n1_ := Aside0.mk (Kd.R_elder' (by (with_reducible repeat (first | apply Kd.R_alloc | apply Kd.R_drewN | apply Kd.R_drew)); exact HO218.out) (Kd.R_base ho0) hb); have n2_ := Aside0.mk (Kd.R_lower (Kd.R_new' (Kd.R_new' ho0 (Kd.R_lt (by (with_reducible repeat (first | apply Kd.R_alloc | apply Kd.R_drewN | apply Kd.R_drew)); exact HO212.out))) (Kd.R_lt (by (with_reducible repeat (first | apply Kd.R_alloc | apply Kd.R_drewN | apply Kd.R_drew)); exact HO218.out))) (below_size (by repeat (first | (with_reducible first | exact HB.out | apply below_alloc | apply pw_below_drewN | apply below_drew1) | exact HB.out)))); have n3_ := Aside0.mk (below_step (by repeat (first | (with_reducible first | exact HB.out | apply below_alloc | apply pw_below_drewN | apply below_drew1) | exact HB.out)) hb); clear HO212; clear HO218; clear HB; have HO212 := n0_; have HO218 := n1_; have HO224 := n2_; have HB := n3_; clear n0_ n1_ n2_ n3_; (try clear hb); (try clear hb2); (try clear hk); (try clear hi); (try clear ho0)))
                              go_ret
                              exact ⟨by first | rfl | (simp [errW_none, errW_some] <;> rfl) | (simp [*, errW_none, errW_some] <;> rfl), by repeat (first | (with_reducible first | exact HB.out | apply below_alloc | apply pw_below_drewN | apply below_drew1) | exact HB.out)⟩
                          · replace c20 := Bool.eq_false_iff.mpr c20
                            subst c20
                            have H1 : (some false) = some r := by rw [if_neg (show ¬ (false = true) by decide)] at H; exact H
                            clear H
                            have H := H1
                            clear H1
                            obtain rfl := Option.some.inj H
                            go_wp2_with (first | ((with_reducible refine gate_callee (f := 13) rfl ?_); refine goesL_ (some 45) rfl rfl Tryd.func13 (by kernel_rfl) rfl #[.string a0, .int .i64 0] rfl (by (try simp only [List.map_toArray, List.map_cons, List.map_nil]); first | done | rfl | (simp only [List.length_drop, List.length_take]; rfl)) ?_; (with_reducible refine (attrs_Read.calls a0 0 t207 t208 t209 true _ ?side1 A12.out).mono ?_); (case side1 => first | (with_reducible exact HG.out) | exact Gl.below HG.out (by repeat (first | (with_reducible first | exact HB.out | apply below_alloc | apply pw_below_drewN | apply below_drew1) | exact HB.out)) | exact HG.out); rintro e w71 ⟨v211, rfl, ho0, hb⟩; refine ⟨_, rfl, ?_⟩; have n0_ := Aside0.mk (Kd.R_lower ho0 (below_size (by repeat (first | (with_reducible first | exact HB.out | apply below_alloc | apply pw_below_drewN | apply below_drew1) | exact HB.out)))); have n1_ := Aside0.mk (below_step (by repeat (first | (with_reducible first | exact HB.out | apply below_alloc | apply pw_below_drewN | apply below_drew1) | exact HB.out)) hb); clear HB; have HO212 := n0_; have HB := n1_; clear n0_ n1_; (try clear hb); (try clear hb2); (try clear hk); (try clear hi); (try clear ho0)) | ((with_reducible refine gate_callee (f := 13) rfl ?_); refine goesL_ (some 54) rfl rfl Tryd.func13 (by kernel_rfl) rfl #[.string ((x8_2 ++ (⟨#[32]⟩ : ByteArray)) ++ a0), .int .i64 0] rfl (by (try simp only [List.map_toArray, List.map_cons, List.map_nil]); first | done | rfl | (simp only [List.length_drop, List.length_take]; rfl)) ?_; (with_reducible refine (attrs_Read.calls ((x8_2 ++ (⟨#[32]⟩ : ByteArray)) ++ a0) 0 t213 t214 t215 t216 _ ?side1 A14.out).mono ?_); (case side1 => first | (with_reducible exact HG.out) | exact Gl.below HG.out (by repeat (first | (with_reducible first | exact HB.out | apply below_alloc | apply pw_below_drewN | apply below_drew1) | exact HB.out)) | exact HG.out); rintro e w72 ⟨v217, rfl, ho0, hb⟩; refine ⟨_, rfl, ?_⟩; have n0_ := Aside0.mk (Kd.R_elder' (by (with_reducible repeat (first | apply Kd.R_alloc | apply Kd.R_drewN | apply Kd.R_drew)); exact HO212.out) (Kd.R_base ho0) hb); have n1_ := Aside0.mk (Kd.R_lower (Kd.R_new' ho0 (Kd.R_lt (by (with_reducible repeat (first | apply Kd.R_alloc | apply Kd.R_drewN | apply Kd.R_drew)); exact HO212.out))) (below_size (by repeat (first | (with_reducible first | exact HB.out | apply below_alloc | apply pw_below_drewN | apply below_drew1) | exact HB.out)))); have n2_ := Aside0.mk (below_step (by repeat (first | (with_reducible first | exact HB.out | apply below_alloc | apply pw_below_drewN | apply below_drew1) | exact HB.out)) hb); clear HO212; clear HB; have HO212 := n0_; have HO218 := n1_; have HB := n2_; clear n0_ n1_ n2_; (try clear hb); (try clear hb2); (try clear hk); (try clear hi); (try clear ho0)) | ((with_reducible refine gate_callee (f := 13) rfl ?_); refine goesL_ (some 81) rfl rfl Tryd.func13 (by kernel_rfl) rfl #[.string ((a0.extract 0 (t209 : Int).toNat) ++ a1), .int .i64 0] rfl (by (try simp only [List.map_toArray, List.map_cons, List.map_nil]); first | done | rfl | (simp only [List.length_drop, List.length_take]; rfl)) ?_; (with_reducible refine (attrs_Read.calls ((a0.extract 0 (t209 : Int).toNat) ++ a1) 0 t219 t220 t221 t222 _ ?side1 A19.out).mono ?_); (case side1 => first | (with_reducible exact HG.out) | exact Gl.below HG.out (by repeat (first | (with_reducible first | exact HB.out | apply below_alloc | apply pw_below_drewN | apply below_drew1) | exact HB.out)) | exact HG.out); rintro e w73 ⟨v223, rfl, ho0, hb⟩; refine ⟨_, rfl, ?_⟩; have n0_ := Aside0.mk (Kd.R_elder' (by (with_reducible repeat (first | apply Kd.R_alloc | apply Kd.R_drewN | apply Kd.R_drew)); exact HO212.out) (Kd.R_base ho0) hb); have n1_ := Aside0.mk (Kd.R_elder' (by (with_reducible repeat (first | apply Kd.R_alloc | apply Kd.R_drewN | apply Kd.R_drew)); exact HO218.out) (Kd.R_base ho0) hb); have n2_ := Aside0.mk (Kd.R_lower (Kd.R_new' (Kd.R_new' ho0 (Kd.R_lt (by (with_reducible repeat (first | apply Kd.R_alloc | apply Kd.R_drewN | apply Kd.R_drew)); exact HO212.out))) (Kd.R_lt (by (with_reducible repeat (first | apply Kd.R_alloc | apply Kd.R_drewN | apply Kd.R_drew)); exact HO218.out))) (below_size (by repeat (first | (with_reducible first | exact HB.out | apply below_alloc | apply pw_below_drewN | apply below_drew1) | exact HB.out)))); have n3_ := Aside0.mk (below_step (by repeat (first | (with_reducible first | exact HB.out | apply below_alloc | apply pw_below_drewN | apply below_drew1) | exact HB.out)) hb); clear HO212; clear HO218; clear HB; have HO212 := n0_; have HO218 := n1_; have HO224 := n2_; have HB := n3_; clear n0_ n1_ n2_ n3_; (try clear hb); (try clear hb2); (try clear hk); (try clear hi); (try clear ho0)))
                            go_ret
                            exact ⟨by first | rfl | (simp [errW_none, errW_some] <;> rfl) | (simp [*, errW_none, errW_some] <;> rfl), by repeat (first | (with_reducible first | exact HB.out | apply below_alloc | apply pw_below_drewN | apply below_drew1) | exact HB.out)⟩
                        · rw [if_neg c18] at H
                          exact absurd H (by simp)
                      · rw [if_neg c17] at H
                        exact absurd H (by simp)
                    · rw [if_neg c16] at H
                      exact absurd H (by simp)
                  · replace c15 := Bool.eq_false_iff.mpr c15
                    subst c15
                    have H1 : (if t206 = true then (if t216 = true then (some false) else (some (t215 == (wrap64 (((x8_2 ++ (⟨#[32]⟩ : ByteArray)).size : Int) + (a0.size : Int)))))) else (some false)) = some r := by rw [if_neg (show ¬ (false = true) by decide)] at H; exact H
                    clear H
                    have H := H1
                    clear H1
                    by_cases c74 : t206 = true
                    · subst c74
                      have H1 : (if t216 = true then (some false) else (some (t215 == (wrap64 (((x8_2 ++ (⟨#[32]⟩ : ByteArray)).size : Int) + (a0.size : Int)))))) = some r := by rw [if_pos rfl] at H; exact H
                      clear H
                      have H := H1
                      clear H1
                      by_cases c75 : t216 = true
                      · subst c75
                        have H1 : (some false) = some r := by rw [if_pos rfl] at H; exact H
                        clear H
                        have H := H1
                        clear H1
                        obtain rfl := Option.some.inj H
                        go_wp2_with (first | ((with_reducible refine gate_callee (f := 13) rfl ?_); refine goesL_ (some 45) rfl rfl Tryd.func13 (by kernel_rfl) rfl #[.string a0, .int .i64 0] rfl (by (try simp only [List.map_toArray, List.map_cons, List.map_nil]); first | done | rfl | (simp only [List.length_drop, List.length_take]; rfl)) ?_; (with_reducible refine (attrs_Read.calls a0 0 t207 t208 t209 false _ ?side1 A12.out).mono ?_); (case side1 => first | (with_reducible exact HG.out) | exact Gl.below HG.out (by repeat (first | (with_reducible first | exact HB.out | apply below_alloc | apply pw_below_drewN | apply below_drew1) | exact HB.out)) | exact HG.out); rintro e w76 ⟨v211, rfl, ho0, hb⟩; refine ⟨_, rfl, ?_⟩; have n0_ := Aside0.mk (Kd.R_lower ho0 (below_size (by repeat (first | (with_reducible first | exact HB.out | apply below_alloc | apply pw_below_drewN | apply below_drew1) | exact HB.out)))); have n1_ := Aside0.mk (below_step (by repeat (first | (with_reducible first | exact HB.out | apply below_alloc | apply pw_below_drewN | apply below_drew1) | exact HB.out)) hb); clear HB; have HO212 := n0_; have HB := n1_; clear n0_ n1_; (try clear hb); (try clear hb2); (try clear hk); (try clear hi); (try clear ho0)) | ((with_reducible refine gate_callee (f := 13) rfl ?_); refine goesL_ (some 54) rfl rfl Tryd.func13 (by kernel_rfl) rfl #[.string ((x8_2 ++ (⟨#[32]⟩ : ByteArray)) ++ a0), .int .i64 0] rfl (by (try simp only [List.map_toArray, List.map_cons, List.map_nil]); first | done | rfl | (simp only [List.length_drop, List.length_take]; rfl)) ?_; (with_reducible refine (attrs_Read.calls ((x8_2 ++ (⟨#[32]⟩ : ByteArray)) ++ a0) 0 t213 t214 t215 true _ ?side1 A14.out).mono ?_); (case side1 => first | (with_reducible exact HG.out) | exact Gl.below HG.out (by repeat (first | (with_reducible first | exact HB.out | apply below_alloc | apply pw_below_drewN | apply below_drew1) | exact HB.out)) | exact HG.out); rintro e w77 ⟨v217, rfl, ho0, hb⟩; refine ⟨_, rfl, ?_⟩; have n0_ := Aside0.mk (Kd.R_elder' (by (with_reducible repeat (first | apply Kd.R_alloc | apply Kd.R_drewN | apply Kd.R_drew)); exact HO212.out) (Kd.R_base ho0) hb); have n1_ := Aside0.mk (Kd.R_lower (Kd.R_new' ho0 (Kd.R_lt (by (with_reducible repeat (first | apply Kd.R_alloc | apply Kd.R_drewN | apply Kd.R_drew)); exact HO212.out))) (below_size (by repeat (first | (with_reducible first | exact HB.out | apply below_alloc | apply pw_below_drewN | apply below_drew1) | exact HB.out)))); have n2_ := Aside0.mk (below_step (by repeat (first | (with_reducible first | exact HB.out | apply below_alloc | apply pw_below_drewN | apply below_drew1) | exact HB.out)) hb); clear HO212; clear HB; have HO212 := n0_; have HO218 := n1_; have HB := n2_; clear n0_ n1_ n2_; (try clear hb); (try clear hb2); (try clear hk); (try clear hi); (try clear ho0)))
                        go_ret
                        exact ⟨by first | rfl | (simp [errW_none, errW_some] <;> rfl) | (simp [*, errW_none, errW_some] <;> rfl), by repeat (first | (with_reducible first | exact HB.out | apply below_alloc | apply pw_below_drewN | apply below_drew1) | exact HB.out)⟩
                      · replace c75 := Bool.eq_false_iff.mpr c75
                        subst c75
                        have H1 : (some (t215 == (wrap64 (((x8_2 ++ (⟨#[32]⟩ : ByteArray)).size : Int) + (a0.size : Int))))) = some r := by rw [if_neg (show ¬ (false = true) by decide)] at H; exact H
                        clear H
                        have H := H1
                        clear H1
                        obtain rfl := Option.some.inj H
                        go_wp2_with (first | ((with_reducible refine gate_callee (f := 13) rfl ?_); refine goesL_ (some 45) rfl rfl Tryd.func13 (by kernel_rfl) rfl #[.string a0, .int .i64 0] rfl (by (try simp only [List.map_toArray, List.map_cons, List.map_nil]); first | done | rfl | (simp only [List.length_drop, List.length_take]; rfl)) ?_; (with_reducible refine (attrs_Read.calls a0 0 t207 t208 t209 false _ ?side1 A12.out).mono ?_); (case side1 => first | (with_reducible exact HG.out) | exact Gl.below HG.out (by repeat (first | (with_reducible first | exact HB.out | apply below_alloc | apply pw_below_drewN | apply below_drew1) | exact HB.out)) | exact HG.out); rintro e w78 ⟨v211, rfl, ho0, hb⟩; refine ⟨_, rfl, ?_⟩; have n0_ := Aside0.mk (Kd.R_lower ho0 (below_size (by repeat (first | (with_reducible first | exact HB.out | apply below_alloc | apply pw_below_drewN | apply below_drew1) | exact HB.out)))); have n1_ := Aside0.mk (below_step (by repeat (first | (with_reducible first | exact HB.out | apply below_alloc | apply pw_below_drewN | apply below_drew1) | exact HB.out)) hb); clear HB; have HO212 := n0_; have HB := n1_; clear n0_ n1_; (try clear hb); (try clear hb2); (try clear hk); (try clear hi); (try clear ho0)) | ((with_reducible refine gate_callee (f := 13) rfl ?_); refine goesL_ (some 54) rfl rfl Tryd.func13 (by kernel_rfl) rfl #[.string ((x8_2 ++ (⟨#[32]⟩ : ByteArray)) ++ a0), .int .i64 0] rfl (by (try simp only [List.map_toArray, List.map_cons, List.map_nil]); first | done | rfl | (simp only [List.length_drop, List.length_take]; rfl)) ?_; (with_reducible refine (attrs_Read.calls ((x8_2 ++ (⟨#[32]⟩ : ByteArray)) ++ a0) 0 t213 t214 t215 false _ ?side1 A14.out).mono ?_); (case side1 => first | (with_reducible exact HG.out) | exact Gl.below HG.out (by repeat (first | (with_reducible first | exact HB.out | apply below_alloc | apply pw_below_drewN | apply below_drew1) | exact HB.out)) | exact HG.out); rintro e w79 ⟨v217, rfl, ho0, hb⟩; refine ⟨_, rfl, ?_⟩; have n0_ := Aside0.mk (Kd.R_elder' (by (with_reducible repeat (first | apply Kd.R_alloc | apply Kd.R_drewN | apply Kd.R_drew)); exact HO212.out) (Kd.R_base ho0) hb); have n1_ := Aside0.mk (Kd.R_lower (Kd.R_new' ho0 (Kd.R_lt (by (with_reducible repeat (first | apply Kd.R_alloc | apply Kd.R_drewN | apply Kd.R_drew)); exact HO212.out))) (below_size (by repeat (first | (with_reducible first | exact HB.out | apply below_alloc | apply pw_below_drewN | apply below_drew1) | exact HB.out)))); have n2_ := Aside0.mk (below_step (by repeat (first | (with_reducible first | exact HB.out | apply below_alloc | apply pw_below_drewN | apply below_drew1) | exact HB.out)) hb); clear HO212; clear HB; have HO212 := n0_; have HO218 := n1_; have HB := n2_; clear n0_ n1_ n2_; (try clear hb); (try clear hb2); (try clear hk); (try clear hi); (try clear ho0)))
                        go_ret
                        exact ⟨by first | rfl | (simp [errW_none, errW_some] <;> rfl) | (simp [*, errW_none, errW_some] <;> rfl), by repeat (first | (with_reducible first | exact HB.out | apply below_alloc | apply pw_below_drewN | apply below_drew1) | exact HB.out)⟩
                    · replace c74 := Bool.eq_false_iff.mpr c74
                      subst c74
                      have H1 : (some false) = some r := by rw [if_neg (show ¬ (false = true) by decide)] at H; exact H
                      clear H
                      have H := H1
                      clear H1
                      obtain rfl := Option.some.inj H
                      go_wp2_with (first | ((with_reducible refine gate_callee (f := 13) rfl ?_); refine goesL_ (some 45) rfl rfl Tryd.func13 (by kernel_rfl) rfl #[.string a0, .int .i64 0] rfl (by (try simp only [List.map_toArray, List.map_cons, List.map_nil]); first | done | rfl | (simp only [List.length_drop, List.length_take]; rfl)) ?_; (with_reducible refine (attrs_Read.calls a0 0 t207 t208 t209 false _ ?side1 A12.out).mono ?_); (case side1 => first | (with_reducible exact HG.out) | exact Gl.below HG.out (by repeat (first | (with_reducible first | exact HB.out | apply below_alloc | apply pw_below_drewN | apply below_drew1) | exact HB.out)) | exact HG.out); rintro e w80 ⟨v211, rfl, ho0, hb⟩; refine ⟨_, rfl, ?_⟩; have n0_ := Aside0.mk (Kd.R_lower ho0 (below_size (by repeat (first | (with_reducible first | exact HB.out | apply below_alloc | apply pw_below_drewN | apply below_drew1) | exact HB.out)))); have n1_ := Aside0.mk (below_step (by repeat (first | (with_reducible first | exact HB.out | apply below_alloc | apply pw_below_drewN | apply below_drew1) | exact HB.out)) hb); clear HB; have HO212 := n0_; have HB := n1_; clear n0_ n1_; (try clear hb); (try clear hb2); (try clear hk); (try clear hi); (try clear ho0)) | ((with_reducible refine gate_callee (f := 13) rfl ?_); refine goesL_ (some 54) rfl rfl Tryd.func13 (by kernel_rfl) rfl #[.string ((x8_2 ++ (⟨#[32]⟩ : ByteArray)) ++ a0), .int .i64 0] rfl (by (try simp only [List.map_toArray, List.map_cons, List.map_nil]); first | done | rfl | (simp only [List.length_drop, List.length_take]; rfl)) ?_; (with_reducible refine (attrs_Read.calls ((x8_2 ++ (⟨#[32]⟩ : ByteArray)) ++ a0) 0 t213 t214 t215 t216 _ ?side1 A14.out).mono ?_); (case side1 => first | (with_reducible exact HG.out) | exact Gl.below HG.out (by repeat (first | (with_reducible first | exact HB.out | apply below_alloc | apply pw_below_drewN | apply below_drew1) | exact HB.out)) | exact HG.out); rintro e w81 ⟨v217, rfl, ho0, hb⟩; refine ⟨_, rfl, ?_⟩; have n0_ := Aside0.mk (Kd.R_elder' (by (with_reducible repeat (first | apply Kd.R_alloc | apply Kd.R_drewN | apply Kd.R_drew)); exact HO212.out) (Kd.R_base ho0) hb); have n1_ := Aside0.mk (Kd.R_lower (Kd.R_new' ho0 (Kd.R_lt (by (with_reducible repeat (first | apply Kd.R_alloc | apply Kd.R_drewN | apply Kd.R_drew)); exact HO212.out))) (below_size (by repeat (first | (with_reducible first | exact HB.out | apply below_alloc | apply pw_below_drewN | apply below_drew1) | exact HB.out)))); have n2_ := Aside0.mk (below_step (by repeat (first | (with_reducible first | exact HB.out | apply below_alloc | apply pw_below_drewN | apply below_drew1) | exact HB.out)) hb); clear HO212; clear HB; have HO212 := n0_; have HO218 := n1_; have HB := n2_; clear n0_ n1_ n2_; (try clear hb); (try clear hb2); (try clear hk); (try clear hi); (try clear ho0)))
                      go_ret
                      exact ⟨by first | rfl | (simp [errW_none, errW_some] <;> rfl) | (simp [*, errW_none, errW_some] <;> rfl), by repeat (first | (with_reducible first | exact HB.out | apply below_alloc | apply pw_below_drewN | apply below_drew1) | exact HB.out)⟩
                · rw [if_neg c13] at H
                  exact absurd H (by simp)
              · rw [if_neg c11] at H
                exact absurd H (by simp)

/-- THE ONE PURE STATEMENT of flaillaw08_AttrsBlanks: yours. -/
def flaillaw08_AttrsBlanks.Pure : Prop := ∀ (a0 : ByteArray) (a1 : ByteArray) (a2 : Int), a0.size ≤ 140737488351232 → a1.size ≤ 140737488351232 → (Lit.int .u8 a2).wf = true → ∃ k, flaillaw08_AttrsBlanks.f k a0 a1 a2 = some true
theorem flaillaw08_AttrsBlanks.walk (P : flaillaw08_AttrsBlanks.Pure) (a0 : ByteArray) (a1 : ByteArray) (a2 : Int) (w : World) (hG : Gl w) (w0 : a0.size ≤ 140737488351232) (w1 : a1.size ≤ 140737488351232) (w2 : (Lit.int .u8 a2).wf = true) :
    Calls Tryd.prog 5 #[.string a0, .string a1, .int .u8 a2] w fun e w' => e = .returned (.bool true) ∧ Below w.heap.size w w' := by
  obtain ⟨k, h⟩ := P a0 a1 a2 w0 w1 w2
  refine (flaillaw08_AttrsBlanks.calls k a0 a1 a2 true w hG h).mono ?_
  rintro e w' ⟨rfl, hd⟩
  exact ⟨rfl, hd⟩

end Go.Proofs.YtfhjfidkcdcjnaaDoor.Q

/- AttrsBlanks: the pure statement. -/
namespace Go.Proofs.YtfhjfidkcdcjnaaDoor.Pure
open Go Go.RowKit Go.Proofs.YtfhjfidkcdcjnaaDoor.Q Go.Proofs.YtfhjfidkcdcjnaaDoorW.PrintWords Go.Proofs.YtfhjfidkcdcjnaaDoorW.PrintLast Go.Proofs.YtfhjfidkcdcjnaaDoorW.PrintMore
set_option linter.unusedVariables false
set_option linter.unusedSimpArgs false

theorem blanks_big {n : Nat} (h : n < 4294967296) : n ≤ 9223372036854775807 := Nat.le_trans (Nat.le_of_lt h) (Nat.le_of_ble_eq_true rfl)
theorem blanks_app (a b : ByteArray) : Fl.toL (a ++ b) = Fl.toL a ++ Fl.toL b := by
  unfold Fl.toL
  rw [ByteArray.data_append, Array.toList_append]
theorem blanks_end (s m : ByteArray) (hs : s.size ≤ 300) (hm : m.size ≤ 300) (x2 : Int) (N : Nat) (hN : wrap64 (Int.tmod x2 9) = (N : Int)) (hN9 : N < 9) :
    Ev (fun k => flaillaw08_AttrsBlanks.l0 k s m x2 true (Fl.ofL (Fl.strokes N)) (N : Int)) true := by
  have hl := Fl.strokes_len N
  obtain ⟨A, hA⟩ : ∃ A, Fl.ofL (Fl.strokes N) ++ (⟨#[32]⟩ : ByteArray) = A := ⟨_, rfl⟩
  have hAl : Fl.toL A = Fl.strokes N ++ [32] := by rw [← hA, blanks_app]; rfl
  have hAs : A.size = 3 * N + 1 := by
    have := congrArg List.length hAl
    rw [Fl.toL_length, List.length_append] at this; simp at this; omega
  obtain ⟨B, hB⟩ : ∃ B, A ++ s = B := ⟨_, rfl⟩
  have hBl : Fl.readL (Fl.toL B) = Fl.readL (Fl.toL s) := by
    rw [← hB, blanks_app, hAl, List.append_assoc, Fl.readL_strokes]
    exact Fl.readL_blank _
  have hBs : B.size = 3 * N + 1 + s.size := by rw [← hB, ByteArray.size_append, hAs]
  have ww : ∀ (a b : Nat), a < 100000 → b < 100000 → wrap64 ((a : Int) + (b : Int)) = ((a + b : Nat) : Int) := by
    intro a b ha hb
    rw [Fl.wrap_in _ (by omega) (by omega)]; rfl
  cases hr : Fl.readL (Fl.toL s) with
  | none =>
    rw [hr] at hBl
    have r1 := read_none (by omega) hr
    have r2 := read_none (by omega) hBl
    refine Ev.step (f := fun _ => some true) (fun k => ?_) (Ev.now true)
    simp only [flaillaw08_AttrsBlanks.l0]
    rw [hN, if_neg (by omega), if_pos (blanks_big (by rw [Fl.ofL_size]; omega)), hA, r1]
    simp only [Option.bind_some]
    rw [if_pos (blanks_big (by omega)), hB, r2, ww A.size s.size (by omega) (by omega), hBs, hAs]
    simp
  | some x =>
    obtain ⟨l, b, r⟩ := x
    rw [hr] at hBl
    have r1 := read_some (by omega) hr
    have r2 := read_some (by omega) hBl
    obtain ⟨p, hp, _, hloc⟩ := Fl.readL_local hr
    have hsz : s.size = p.length + 1 + r.length := by
      have := congrArg List.length hp
      rw [Fl.toL_length] at this; simp at this; omega
    have hcount := Fl.readL_count hr
    rw [Fl.toL_length] at hcount
    rw [show s.size - r.length = p.length + 1 by omega] at r1
    rw [show B.size - r.length = (p.length + 1) + A.size by omega] at r2
    obtain ⟨C, hC⟩ : ∃ C, s.extract 0 (p.length + 1) ++ m = C := ⟨_, rfl⟩
    have hCl : Fl.toL C = p ++ 62 :: Fl.toL m := by
      rw [← hC, blanks_app, Fl.extract_toL, hp]
      rw [show p ++ 62 :: r = (p ++ [62]) ++ r by simp, List.drop_zero, List.take_left' (by simp)]
      simp
    have hCs : C.size = p.length + 1 + m.size := by
      have := congrArg List.length hCl
      rw [Fl.toL_length, List.length_append, List.length_cons, Fl.toL_length] at this; omega
    have r3 := read_some (s := C) (by omega) (by rw [hCl]; exact hloc (Fl.toL m))
    rw [Fl.toL_length, show C.size - m.size = p.length + 1 by omega] at r3
    have s1 := same_ev (l.map toS) (by rw [List.length_map]; omega)
    have hsE : (s.extract 0 (p.length + 1)).size = p.length + 1 := by rw [ByteArray.size_extract]; omega
    refine Ev.step (f := fun k => (flailref08_Same.f k (l.map toS) (l.map toS)).bind fun t => if t = true then ((flailref08_Same.f k (l.map toS) (l.map toS)).bind fun t => if t = true then some true else some false) else some false) (fun k => ?_) ?_
    · simp only [flaillaw08_AttrsBlanks.l0]
      rw [hN, if_neg (by omega), if_pos (blanks_big (by rw [Fl.ofL_size]; omega)), hA, r1]
      simp only [Option.bind_some]
      rw [if_pos (blanks_big (by omega)), hB, r2]
      simp only [Option.bind_some]
      rw [if_pos trivial, if_pos (by omega), if_pos (by omega), Int.toNat_natCast, if_pos (blanks_big (by rw [hsE]; omega)), hC, r3, ww (p.length + 1) A.size (by omega) (by omega)]
      simp
    · refine Ev.bind (f := fun k t => if t = true then ((flailref08_Same.f k (l.map toS) (l.map toS)).bind fun t => if t = true then some true else some false) else some false) s1 ?_
      simp only [if_true]
      exact Ev.bind (f := fun _ t => if t = true then some true else some false) s1 (Ev.now true)
theorem blanks_l0 (s m : ByteArray) (hs : s.size ≤ 300) (hm : m.size ≤ 300) (x2 : Int) (N : Nat) (hN : wrap64 (Int.tmod x2 9) = (N : Int)) (hN9 : N < 9) :
    ∀ (d j : Nat), j + d = N → Ev (fun k => flaillaw08_AttrsBlanks.l0 k s m x2 true (Fl.ofL (Fl.strokes j)) (j : Int)) true := by
  intro d
  induction d with
  | zero =>
    intro j hj
    rw [show j = N by omega]; exact blanks_end s m hs hm x2 N hN hN9
  | succ d ih =>
    intro j hj
    have hl := Fl.strokes_len j
    refine Ev.step (f := fun k => flaillaw08_AttrsBlanks.l0 k s m x2 true (Fl.ofL (Fl.strokes (j + 1))) ((j + 1 : Nat) : Int)) (fun k => ?_) (ih (j + 1) (by omega))
    have e : Fl.ofL (Fl.strokes j) ++ (⟨#[32, 47, 10]⟩ : ByteArray) = Fl.ofL (Fl.strokes (j + 1)) := by
      apply Fl.toL_inj; rw [blanks_app]; rfl
    simp only [flaillaw08_AttrsBlanks.l0]
    rw [hN, if_pos (by omega), if_pos (blanks_big (by rw [Fl.ofL_size]; omega)), e, Fl.wrap_in _ (by omega) (by omega)]
    rfl
theorem AttrsBlanks : flaillaw08_AttrsBlanks.Pure := by
  intro s m n _ _ hwf
  have hn : 0 ≤ n ∧ n < 256 := by simp [Lit.wf, show IntKind.u8.min = 0 from rfl, show IntKind.u8.max = 255 from rfl] at hwf; omega
  obtain ⟨M, rfl⟩ : ∃ N : Nat, n = N := ⟨n.toNat, by omega⟩
  have hN : wrap64 (Int.tmod (M : Int) 9) = ((M % 9 : Nat) : Int) := by
    rw [Int.tmod_eq_emod_of_nonneg (by omega), Fl.wrap_in _ (by omega) (by omega)]; rfl
  apply Ev.rounds
  unfold flaillaw08_AttrsBlanks.f
  refine Ev.bind awake_ev ?_
  have hout : Ev (fun k => flaillaw08_AttrsBlanks.j0 k s m (M : Int) true true) true := by
    refine Ev.step (f := fun k => some true) (fun k => ?_) (Ev.now true)
    simp only [flaillaw08_AttrsBlanks.j0]
    rw [if_pos trivial]
  by_cases hs : (s.size : Int) > 300
  · simp only [if_pos hs]; exact hout
  · simp only [if_neg hs]
    by_cases hm : (m.size : Int) > 300
    · rw [decide_eq_true hm]; exact hout
    · rw [decide_eq_false hm]
      refine Ev.step (f := fun k => flaillaw08_AttrsBlanks.l0 k s m (M : Int) true (Fl.ofL (Fl.strokes 0)) ((0 : Nat) : Int)) (fun k => ?_) (blanks_l0 s m (by omega) (by omega) (M : Int) (M % 9) hN (by omega) (M % 9) 0 (by omega))
      simp only [flaillaw08_AttrsBlanks.j0]
      rw [if_neg (by simp)]; rfl
end Go.Proofs.YtfhjfidkcdcjnaaDoor.Pure

/- The law AttrsBlanks: its row and its card. -/
namespace Go.Proofs.YtfhjfidkcdcjnaaDoor.attrsBlanks
open Go.ChangeShapes Go.WideShapes Go.ChangeAt Go.RowKit
open Go.ChangeMaps (open_string shut_string)
set_option linter.unusedVariables false
set_option maxRecDepth 100000 in
theorem lifted (os : Os) (started : os.Started) (H : Type) (enc : TypeId × Value → H) :
    ReturnsInHanded {} Tryd.checked os 5 .any (fun w args => (Rows.attrsBlanksSpec.pre enc Tryd.prog Tryd.f5 Rows.attrsBlanksRow.domain false w args ∧ laidMetH Tryd.prog laid7 w) ∧ sizedMet enc Tryd.prog Tryd.f5 (OpenSpec.ofChange Rows.attrsBlanksSpec) false w args) (Rows.attrsBlanksSpec.post enc Tryd.prog Tryd.f5 false true false false) := by
  refine row_returns started (by kernel_rfl) Tryd.func5 #[.string ByteArray.empty, .string ByteArray.empty, .int .u8 0] (by kernel_rfl) (by kernel_rfl) (by kernel_rfl) ?_
  intro W base args ds gs before hval0 hW hsz0 hG
  have hsz : (DataW.weightsEach Tryd.prog (Tryd.f5.params.toList ++ Rows.attrsBlanksSpec.plain.varTypes Tryd.prog) (ds ++ gs)).all (· ≤ reachBytes) = true := hsz0
  have hval : ∀ (j : Nat) t v, Tryd.f5.params[j]? = some t → args[j]? = some v → Value.okWide Tryd.prog W .any base t v := hval0
  have hW' := hW
  obtain ⟨p, q, hA0, hV, rfl, hfz, hnd⟩ := hW
  have hA : DataW.TrodAll enc Tryd.prog W 0 (fun _ => true) true Tryd.f5.params.toList args.toList ds p := hA0
  rw [Tryd.params5] at hA hval hsz
  obtain ⟨v0, vs0, d0, ds0, p0, q0, hargs, rfl, rfl, h0, r0⟩ := trodAll_cons hA
  obtain ⟨v1, vs1, d1, ds1, p1, q1, rfl, rfl, rfl, h1, r1⟩ := trodAll_cons r0
  obtain ⟨v2, vs2, d2, ds2, p2, q2, rfl, rfl, rfl, h2, r2⟩ := trodAll_cons r1
  obtain ⟨rfl, rfl, rfl⟩ := trodAll_nil r2
  obtain rfl : args = #[v0, v1, v2] := by cases args; simp_all
  obtain ⟨rfl, rfl⟩ := trodVars_none hV
  obtain ⟨a0, rfl, rfl, rfl, y0⟩ := open_string Tryd.underlying9 (hval 0 9 v0 rfl rfl) h0
  have w0 : a0.size ≤ 140737488351232 := by
    have z := sized_string hsz (j := 0) (t := 9) rfl rfl
    rw [Array.length_toList] at z
    exact z
  obtain ⟨a1, rfl, rfl, rfl, y1⟩ := open_string Tryd.underlying9 (hval 1 9 v1 rfl rfl) h1
  have w1 : a1.size ≤ 140737488351232 := by
    have z := sized_string hsz (j := 1) (t := 9) rfl rfl
    rw [Array.length_toList] at z
    exact z
  obtain ⟨a2, rfl, rfl, rfl, w2⟩ := open_int Tryd.underlying5 (hval 2 5 v2 rfl rfl) h2
  clear hA0 hval0 hsz0 hsz
  refine (Q.flaillaw08_AttrsBlanks.walk Pure.AttrsBlanks a0 a1 a2 W hG w0 w1 w2).mono fun e W' ⟨he, bel⟩ => ?_
  subst he
  exact ⟨_, rfl, _, _, _, [], _, [], hW', trodAll_mk1 (shut_bool Tryd.underlying4 _), (trodAll_cons_mk (shut_string Tryd.underlying9 y0) (trodAll_cons_mk (shut_string Tryd.underlying9 y1) (trodAll_cons_mk (shut_int Tryd.underlying5 w2) trodAll_mk0))), rfl, bel.frame _, fun h => by cases h⟩
theorem over : Rows.attrsBlanksRow.holds Tryd.pinned (OpenSpec.ofChange Rows.attrsBlanksSpec) :=
  OpenClaim.holds_of_wide 5 Tryd.f5 rfl rfl rfl rfl rfl rfl rfl ⟨rfl, rfl, rfl, rfl, rfl⟩ rfl rfl rfl rfl rfl (by kernel_rfl) Tryd.func5 (by kernel_rfl)
    (of_decide_eq_true (by kernel_rfl)) (by unfold Func.isWrapper; first | (rw [if_pos (by decide +kernel)]; kernel_rfl) | (rw [if_neg (by decide +kernel)]; exact ⟨rfl, rfl⟩))
    (fun os started H enc _ => lifted os started H enc)
theorem proved : Rows.AttrsBlanksCardSaid :=
  Claim7.holds_tied_plain_at .later [] [.data, .data, .data, .data, .sentinel, .sentinel, .pinned] true Rows.attrsBlanksCard.stood.harness true over (fun _ h => by cases h) (by kernel_rfl) (fun _ h => by cases h) attrsBlanks_row_tie rfl ⟨rfl, rfl⟩ (by kernel_rfl) rfl
    (card_in 5 Tryd.func5 (by kernel_rfl) [9, 9, 5] Tryd.params5 (by kernel_rfl) (by kernel_rfl)) (by kernel_rfl)
end Go.Proofs.YtfhjfidkcdcjnaaDoor.attrsBlanks
namespace Go.Proofs.YtfhjfidkcdcjnaaDoor
theorem attrsBlanks_holds : Rows.AttrsBlanksCardSaid := attrsBlanks.proved
#print axioms attrsBlanks_holds
end Go.Proofs.YtfhjfidkcdcjnaaDoor
