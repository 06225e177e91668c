/- The law AttrsClean, proved whole (for every input, as the given card says; no condition beyond it): its row and its card, and what they lean on. -/
import Derived.Test.YtfhjfidkcdcjnaaDoorB3
import Derived.Test.YtfhjfidkcdcjnaaDoorTie
import Derived.Test.YtfhjfidkcdcjnaaDoorCards
set_option linter.unusedVariables false
set_option linter.unusedSimpArgs false
set_option linter.unusedSectionVars false

/- Written attributes, and numbers in references: plain laws. No program in sight. -/
namespace Go.Proofs.YtfhjfidkcdcjnaaDoor.Fl
open Go
set_option linter.unusedVariables false
set_option linter.unusedSimpArgs false

/-! A number's digits. -/
def digF : Nat → Nat → Bs
  | 0, _ => []
  | f + 1, n => if n < 10 then [UInt8.ofNat (48 + n)] else digF f (n / 10) ++ [UInt8.ofNat (48 + n % 10)]
def digits (n : Nat) : Bs := digF (n + 1) n
theorem digF_same : ∀ (f g n : Nat), n < f → n < g → digF f n = digF g n := by
  intro f
  induction f with
  | zero => intro g n h; omega
  | succ f ih =>
    intro g n h1 h2
    obtain ⟨g, rfl⟩ : ∃ k, g = k + 1 := ⟨g - 1, by omega⟩
    unfold digF
    split
    · rfl
    · rw [ih g (n / 10) (by omega) (by omega)]
theorem digits_lt {n : Nat} (h : n < 10) : digits n = [UInt8.ofNat (48 + n)] := by
  unfold digits digF; rw [if_pos h]
theorem digits_ge {n : Nat} (h : ¬ n < 10) : digits n = digits (n / 10) ++ [UInt8.ofNat (48 + n % 10)] := by
  show digF (n + 1) n = _
  unfold digF; rw [if_neg h, digF_same n (n / 10 + 1) (n / 10) (by omega) (by omega)]; rfl
theorem digit_dig (d : Nat) (h : d < 10) : dig (UInt8.ofNat (48 + d)) = true ∧ hexv (UInt8.ofNat (48 + d)) = (d : Int) := by
  have := List.all_eq_true.1 (show ((List.range 10).all fun d => dig (UInt8.ofNat (48 + d)) && (hexv (UInt8.ofNat (48 + d)) == (d : Int))) = true by decide +kernel) d (List.mem_range.2 h)
  simpa using this
theorem digits_dig : ∀ (f n : Nat), n < f → ∀ c ∈ digits n, dig c = true := by
  intro f
  induction f with
  | zero => intro n h; omega
  | succ f ih =>
    intro n h c hc
    by_cases hn : n < 10
    · rw [digits_lt hn] at hc
      rw [List.mem_singleton.1 hc]; exact (digit_dig n hn).1
    · rw [digits_ge hn] at hc
      rcases List.mem_append.1 hc with hc | hc
      · exact ih (n / 10) (by omega) c hc
      · rw [List.mem_singleton.1 hc]; exact (digit_dig (n % 10) (by omega)).1
theorem digits_ne (n : Nat) : digits n ≠ [] := by
  by_cases hn : n < 10
  · rw [digits_lt hn]; simp
  · rw [digits_ge hn]; simp
theorem digits_len : ∀ (f n : Nat), n < f → n < 4294967296 → (digits n).length ≤ 10 := by
  intro f
  have key : ∀ (k n : Nat), n < 10 ^ (k + 1) → (digits n).length ≤ k + 1 := by
    intro k
    induction k with
    | zero => intro n h; rw [digits_lt (by omega)]; simp
    | succ k ih =>
      intro n h
      by_cases hn : n < 10
      · rw [digits_lt hn]; simp
      · rw [digits_ge hn, List.length_append]
        have := ih (n / 10) (by rw [Nat.pow_succ] at h; omega)
        simp; omega
  intro n _ h
  exact key 9 n (by omega)
theorem valTo_append (B : Nat) : ∀ (a : Bs) (n : Nat) (b : Bs), valTo B n (a ++ b) = (valTo B n a).bind fun m => valTo B m b
  | [], n, b => rfl
  | c :: a, n, b => by
    rw [List.cons_append]
    show (if hexv c < 0 ∨ (B : Int) ≤ hexv c then none else valTo B _ (a ++ b)) = (if hexv c < 0 ∨ (B : Int) ≤ hexv c then none else valTo B _ a).bind _
    split
    · rfl
    · exact valTo_append B a _ b
theorem valTo_one (n d : Nat) (h : d < 10) : valTo 10 n [UInt8.ofNat (48 + d)] = some (min (n * 10 + d) 1114112) := by
  have e := (digit_dig d h).2
  show (if hexv (UInt8.ofNat (48 + d)) < 0 ∨ ((10 : Nat) : Int) ≤ hexv (UInt8.ofNat (48 + d)) then none else some (min (n * 10 + (hexv (UInt8.ofNat (48 + d))).toNat) 1114112)) = _
  rw [e, if_neg (by omega), Int.toNat_natCast]
theorem digits_val : ∀ (f n : Nat), n < f → valTo 10 0 (digits n) = some (min n 1114112) := by
  intro f
  induction f with
  | zero => intro n h; omega
  | succ f ih =>
    intro n h
    by_cases hn : n < 10
    · rw [digits_lt hn, valTo_one 0 n hn]; simp
    · rw [digits_ge hn, valTo_append, ih (n / 10) (by omega)]
      simp only [Option.bind_some]
      rw [valTo_one _ _ (by omega)]
      congr 1
      omega
theorem while_all {p : UInt8 → Bool} {l : Bs} (h : ∀ c ∈ l, p c = true) : l.takeWhile p = l ∧ l.dropWhile p = [] := by
  have := all_app (p := p) (m := []) h (Hd.nil p)
  simpa using this
/-- A reference by a number, written with ten digits, and nothing behind it. -/
theorem decode_number (n : Nat) (hn : n < 4294967296) : decode true (38 :: 35 :: digits n) = toL (Q.fixB (min n 1114112 : Nat)) := by
  obtain ⟨x, r, hx⟩ : ∃ x r, digits n = x :: r := by
    cases h : digits n with
    | nil => exact absurd h (digits_ne n)
    | cons x r => exact ⟨x, r, rfl⟩
  have hd := digits_dig (n + 1) n (by omega)
  have hisx : isX x = false := by
    have hdx : dig x = true := hd x (by rw [hx]; simp)
    have := byteAll (fun c => !(dig c) || !(isX c)) (by decide +kernel) x
    rw [hdx] at this; simpa using this
  have hw := while_all (p := pdig false) (l := digits n) (fun c hc => by unfold pdig; rw [hd c hc]; rfl)
  have hnt : numTail false (digits n) = some (toL (Q.fixB (min n 1114112 : Nat)), (digits n).length) := by
    unfold numTail
    rw [hw.1]
    have hv : value (digits n) false = ((min n 1114112 : Nat) : Int) := by
      unfold value
      rw [if_neg (digits_ne n)]
      show (match valTo 10 0 (digits n) with | none => _ | some n => _) = _
      rw [digits_val (n + 1) n (by omega)]
    rw [hv, if_neg (by omega), List.drop_length]
    simp [semi]
  have hnr : numRead (35 :: digits n) = some (toL (Q.fixB (min n 1114112 : Nat)), (digits n).length + 1) := by
    unfold numRead
    simp only [if_true]
    rw [hx]
    simp only [hisx]
    rw [← hx, hnt]; rfl
  have hr : refRead true (35 :: digits n) = (toL (Q.fixB (min n 1114112 : Nat)), (digits n).length + 1) := by
    unfold refRead; rw [hnr]
  rw [decode_amp, hr]
  simp only [List.drop_succ_cons, List.drop_length, decode_nil, List.append_nil]
theorem encode_no0 (n : Int) (h0 : 0 < n) : ∀ d ∈ toL (Utf8.encode n), d ≠ 0 := by
  intro d hd
  unfold Utf8.encode at hd
  have hc : 0 < (if Utf8.valid n then n.toNat else Utf8.runeError) ∧ (if Utf8.valid n then n.toNat else Utf8.runeError) < 1114112 := by
    split
    · rename_i hv
      have : n ≤ 1114111 := by
        unfold Utf8.valid at hv
        simp at hv; omega
      omega
    · decide
  obtain ⟨c, hcc⟩ : ∃ c, (if Utf8.valid n then n.toNat else Utf8.runeError) = c := ⟨_, rfl⟩
  rw [hcc] at hd hc
  have hb : ∀ m : Nat, 0 < m → m < 256 → UInt8.ofNat m ≠ 0 := by
    intro m h1 h2 e
    have := congrArg UInt8.toNat e
    rw [UInt8.toNat_ofNat_of_lt' h2] at this
    have : (0 : UInt8).toNat = 0 := rfl
    omega
  dsimp only at hd
  split at hd
  · change d ∈ ([_] : Bs) at hd
    simp only [List.mem_cons, List.not_mem_nil, or_false] at hd
    subst hd; exact hb _ (by omega) (by omega)
  · split at hd
    · change d ∈ ([_, _] : Bs) at hd
      simp only [List.mem_cons, List.not_mem_nil, or_false] at hd
      rcases hd with rfl | rfl <;> exact hb _ (by omega) (by omega)
    · split at hd
      · change d ∈ ([_, _, _] : Bs) at hd
        simp only [List.mem_cons, List.not_mem_nil, or_false] at hd
        rcases hd with rfl | rfl | rfl <;> exact hb _ (by omega) (by omega)
      · change d ∈ ([_, _, _, _] : Bs) at hd
        simp only [List.mem_cons, List.not_mem_nil, or_false] at hd
        rcases hd with rfl | rfl | rfl | rfl <;> exact hb _ (by omega) (by omega)
theorem signB_no0 (n : Int) (h : n ≠ 0) : ∀ d ∈ toL (Q.signB n), d ≠ 0 := by
  unfold Q.signB
  split
  · intro d hd
    have hd' : d ∈ bad := hd
    simp [bad] at hd'; rcases hd' with rfl | rfl | rfl <;> decide
  · exact encode_no0 n (by omega)
theorem fixB_no0 (n : Int) : ∀ d ∈ toL (Q.fixB n), d ≠ 0 := by
  unfold Q.fixB
  split
  · intro d hd
    have hd' : d ∈ bad := hd
    simp [bad] at hd'; rcases hd' with rfl | rfl | rfl <;> decide
  · split
    · rename_i h
      apply signB_no0
      have := List.all_eq_true.1 (show ((List.range 32).all fun j => Q.fixTab.getD j 0 != 0) = true by decide +kernel) (n - 128).toNat (List.mem_range.2 (by omega))
      simpa using this
    · rename_i h _; exact signB_no0 n h
theorem fixB_out (n : Int) (h : 1114111 < n) : Q.fixB n = ofL bad := by
  unfold Q.fixB Q.signB
  rw [if_neg (by omega), if_neg (by omega), if_pos (by omega)]
theorem fixB_top (n : Nat) : Q.fixB ((min n 1114112 : Nat) : Int) = Q.fixB (n : Int) := by
  rcases Nat.lt_or_ge 1114112 n with h | h
  · rw [Nat.min_eq_right (by omega), fixB_out _ (by omega), fixB_out _ (by omega)]
  · rw [Nat.min_eq_left h]
theorem clean_none {l : Bs} (h : ∀ d ∈ l, d ≠ 0) : clean l = l := clean_same (List.count_eq_zero.2 fun hm => h 0 hm rfl)
/-- One attribute, written in quotes. -/
theorem readN_quoted (n : Nat) (nm v r : Bs) (q x : UInt8) (acc : List Att) (hx : nend [47, 62, 61] x = true) (hnm : ∀ c ∈ nm, nend [47, 62, 61] c = true) (hq : q = 34 ∨ q = 39) (hv : v.count q = 0) :
    readN (n + 1) (x :: nm ++ 61 :: q :: v ++ q :: r) acc = readN n r (add acc (clean (lower (x :: nm))) (clean (decode true v))) := by
  have hs : space x = false ∧ x ≠ 62 ∧ x ≠ 47 := by
    have := byteAll (fun x => !(nend [47, 62, 61] x) || (!(space x) && x != 62 && x != 47)) (by decide +kernel) x
    rw [hx] at this; simpa [and_assoc] using this
  have e := all_app (p := nend [47, 62, 61]) (m := 61 :: q :: v ++ q :: r) hnm (Hd.cons (by decide) _)
  rw [show x :: nm ++ 61 :: q :: v ++ q :: r = x :: (nm ++ (61 :: q :: v ++ q :: r)) by simp]
  conv => lhs; unfold readN
  rw [List.dropWhile_cons, hs.1]
  simp only [Bool.false_eq_true, if_false]
  rw [if_neg hs.2.1, if_neg hs.2.2, e.1, e.2]
  have hval : valueL (61 :: q :: v ++ q :: r) = some (v, r) := by
    unfold valueL
    rw [show (61 :: q :: v ++ q :: r : Bs) = 61 :: (q :: (v ++ q :: r)) by simp, List.dropWhile_cons, show space 61 = false from by decide]
    simp only [Bool.false_eq_true, if_false, if_true]
    rw [List.dropWhile_cons, show space q = false by rcases hq with rfl | rfl <;> decide]
    simp only [Bool.false_eq_true, if_false]
    unfold valueTo
    simp only
    rw [if_pos hq, quotedL_app hv]
  simp only [hval]

/-! A value without quotes. -/
def plainC (c : UInt8) : Bool := !(space c) && c != 62 && c != 34 && c != 39 && c != 38 && c != 0
theorem plain_nend (c : UInt8) (h : plainC c = true) : nend [62] c = true := by
  have := byteAll (fun c => !(plainC c) || nend [62] c) (by decide +kernel) c
  rw [h] at this; simpa using this
theorem plain_facts (c : UInt8) (h : plainC c = true) : space c = false ∧ c ≠ 62 ∧ c ≠ 34 ∧ c ≠ 39 ∧ c ≠ 38 ∧ c ≠ 0 := by
  unfold plainC at h
  simpa [and_assoc] using h
/-- A value of plain bytes, behind its name (one byte) and the sign '=' with n blanks behind it, ahead of m. -/
theorem readN_plain (n : Nat) (x : UInt8) (b1 b2 v m : Bs) (acc : List Att) (hx : nend [47, 62, 61] x = true) (hb1 : ∀ c ∈ b1, space c = true) (hb2 : ∀ c ∈ b2, space c = true) (hv : ∀ c ∈ v, plainC c = true) (hne : v ≠ []) (hm : Hd (nend [62]) m) :
    readN (n + 1) (x :: (b1 ++ 61 :: (b2 ++ (v ++ m)))) acc = readN n m (add acc (clean (lower [x])) v) := by
  have hs : space x = false ∧ x ≠ 62 ∧ x ≠ 47 := by
    have := byteAll (fun x => !(nend [47, 62, 61] x) || (!(space x) && x != 62 && x != 47)) (by decide +kernel) x
    rw [hx] at this; simpa [and_assoc] using this
  have hd : Hd (nend [47, 62, 61]) (b1 ++ 61 :: (b2 ++ (v ++ m))) := by
    cases b1 with
    | nil => exact Hd.cons (by decide) _
    | cons c b1 =>
      refine Hd.cons ?_ _
      unfold nend; rw [hb1 c (by simp)]; rfl
  have e := all_app (p := nend [47, 62, 61]) (a := []) (m := b1 ++ 61 :: (b2 ++ (v ++ m))) (by simp) hd
  rw [List.nil_append] at e
  conv => lhs; unfold readN
  rw [List.dropWhile_cons, hs.1]
  simp only [Bool.false_eq_true, if_false]
  rw [if_neg hs.2.1, if_neg hs.2.2, e.1, e.2]
  obtain ⟨y, t, rfl⟩ : ∃ y t, v = y :: t := by
    cases v with
    | nil => exact absurd rfl hne
    | cons y t => exact ⟨y, t, rfl⟩
  obtain ⟨p1, p2, p3, p4, p5, p6⟩ := plain_facts y (hv y (by simp))
  have hval : valueL (b1 ++ 61 :: (b2 ++ (y :: t ++ m))) = some (y :: t, m) := by
    unfold valueL
    have e1 := all_app (p := space) (a := b1) (m := 61 :: (b2 ++ (y :: t ++ m))) hb1 (Hd.cons (by decide) _)
    have e2 := all_app (p := space) (a := b2) (m := y :: t ++ m) hb2 (Hd.cons p1 _)
    rw [e1.2]
    simp only [if_true]
    rw [e2.2, List.cons_append]
    unfold valueTo
    simp only
    have e3 := all_app (p := nend [62]) (a := t) (m := m) (fun c hc => plain_nend c (hv c (by simp [hc]))) hm
    rw [if_neg (fun h => h.elim p3 p4), if_neg p2, e3.1, e3.2]
  simp only [hval]
  rw [decode_same true (y :: t) (List.count_eq_zero.2 fun hm => (plain_facts 38 (hv 38 hm)).2.2.2.2.1 rfl), clean_none (fun d hd => (plain_facts d (hv d hd)).2.2.2.2.2)]
/-- A name, with nothing behind it. -/
theorem readN_bare (n : Nat) (x : UInt8) (m : Bs) (acc : List Att) (hx : nend [47, 62, 61] x = true) :
    readN (n + 1) (x :: 62 :: m) acc = readN n (62 :: m) (add acc (clean (lower [x])) []) := by
  have hs : space x = false ∧ x ≠ 62 ∧ x ≠ 47 := by
    have := byteAll (fun x => !(nend [47, 62, 61] x) || (!(space x) && x != 62 && x != 47)) (by decide +kernel) x
    rw [hx] at this; simpa [and_assoc] using this
  conv => lhs; unfold readN
  rw [List.dropWhile_cons, hs.1]
  simp only [Bool.false_eq_true, if_false]
  rw [if_neg hs.2.1, if_neg hs.2.2, List.takeWhile_cons, List.dropWhile_cons, show nend [47, 62, 61] 62 = false from by decide]
  rfl
theorem readN_end (n : Nat) (m : Bs) (acc : List Att) : readN (n + 1) (62 :: m) acc = some (acc, false, m) := by
  unfold readN
  rw [List.dropWhile_cons, show space 62 = false from by decide]
  rfl
theorem readN_blank (n : Nat) (c : UInt8) (hc : space c = true) (l : Bs) (acc : List Att) : readN n (c :: l) acc = readN n l acc := by
  cases n with
  | zero => rfl
  | succ n => unfold readN; rw [List.dropWhile_cons, hc]; rfl
/-! Blanks, and strokes. -/
theorem readL_blank (l : Bs) : readL (32 :: l) = readL l := by
  rw [readL_eq (n := l.length + 2) (by simp), readN_blank _ 32 (by decide)]
  exact (readL_eq (by omega)).symm
theorem readL_stroke (l : Bs) : readL (32 :: 47 :: 10 :: l) = readL l := by
  rw [readL_eq (n := l.length + 5) (by simp), readN_blank _ 32 (by decide)]
  have : readN (l.length + 5) (47 :: 10 :: l) [] = readN (l.length + 4) (10 :: l) [] := by
    conv => lhs; unfold readN
    rw [List.dropWhile_cons, show space 47 = false from by decide]
    simp [headIs]
  rw [this, readN_blank _ 10 (by decide)]
  exact (readL_eq (by omega)).symm
def strokes : Nat → Bs
  | 0 => []
  | n + 1 => strokes n ++ [32, 47, 10]
theorem readL_strokes : ∀ (n : Nat) (l : Bs), readL (strokes n ++ l) = readL l
  | 0, l => rfl
  | n + 1, l => by
    show readL ((strokes n ++ [32, 47, 10]) ++ l) = _
    rw [List.append_assoc, readL_strokes n]
    exact readL_stroke l
theorem strokes_len (n : Nat) : (strokes n).length = 3 * n := by
  induction n with
  | zero => rfl
  | succ n ih => show (strokes n ++ [32, 47, 10]).length = _; rw [List.length_append, ih]; simp; omega
end Go.Proofs.YtfhjfidkcdcjnaaDoor.Fl

namespace Go.Proofs.YtfhjfidkcdcjnaaDoor.Q
open Go.RowKit Go.Proofs.YtfhjfidkcdcjnaaDoorW.PrintWords Go.Proofs.YtfhjfidkcdcjnaaDoorW.PrintLast Go.Proofs.YtfhjfidkcdcjnaaDoorW.PrintMore
attribute [local go_sem] max2_int min2_int max_two min_two max_three min_three max_four min_four   -- for this text's walks alone
set_option linter.unusedVariables false
set_option linter.unusedSimpArgs false

/-! ### flailref01_Decimal: function 15 -/
noncomputable def flailref01_Decimal.f : Nat → Int → Option (ByteArray)
  | 0, _ => none
  | k + 1, a0 => (some (([(wrap64 (48 + (Int.tmod a0 10))) % 256] : List Int) : List Int)).bind fun y248 => (if a0 < 10 then (some (strOfNums y248)) else ((flailref01_Decimal.f k (wrap64 (Int.tdiv a0 10))).bind fun t251 => (if t251.size + (strOfNums y248).size ≤ 9223372036854775807 then (some (t251 ++ (strOfNums y248))) else (none))))
theorem flailref01_Decimal.mono_l : ∀ k, (∀ y0, LeO (flailref01_Decimal.f k y0) (flailref01_Decimal.f (k + 1) y0))
  | 0 => fun _ r h => by simp [flailref01_Decimal.f] at h
  | k + 1 => by
    have ih0 := flailref01_Decimal.mono_l k
    · intro y0
      unfold flailref01_Decimal.f
      repeat' first
      | (with_reducible exact ih0 _)
      | (with_reducible exact LeO.refl _)
      | (with_reducible exact LeO.none _)
      | (with_reducible refine LeO.ite ?_ ?_)
      | (with_reducible refine LeO.bind ?_ (fun _ => ?_))
      | exact ih0 _
      | exact LeO.none _
      | refine LeO.ite ?_ ?_
      | refine LeO.bind ?_ (fun _ => ?_)
theorem flailref01_Decimal.mono : ∀ a0 k, LeO (flailref01_Decimal.f k a0) (flailref01_Decimal.f (k + 1) a0) := by
  intro a0 k
  have ih0 := flailref01_Decimal.mono_l k
  exact ih0 a0
set_option maxHeartbeats 8000000 in
set_option maxRecDepth 100000 in
theorem flailref01_Decimal.calls (k : Nat) : ∀ (a0 : Int) (r : ByteArray) (w : World) (h : flailref01_Decimal.f k a0 = some r),
    Calls Tryd.prog 15 #[.int .i64 a0] w fun e w' => e = .returned (.string r) ∧ Below w.heap.size w w' := by
  induction k using Nat.strongRecOn with
  | _ k ih =>
  intro a0 r w h
  cases k with
  | zero => exact absurd h (by simp [flailref01_Decimal.f])
  | succ k =>
  simp only [flailref01_Decimal.f] at h
  have HB := Aside0.mk (Below.refl w.heap.size w)
  have H : ((some (([(wrap64 (48 + (Int.tmod a0 10))) % 256] : List Int) : List Int)).bind fun y248 => (if a0 < 10 then (some (strOfNums y248)) else ((flailref01_Decimal.f k (wrap64 (Int.tdiv a0 10))).bind fun t251 => (if t251.size + (strOfNums y248).size ≤ 9223372036854775807 then (some (t251 ++ (strOfNums y248))) else (none))))) = some r := h
  clear h
  obtain ⟨y248, hy248⟩ : ∃ y_ : List Int, y_ = (([(wrap64 (48 + (Int.tmod a0 10))) % 256] : List Int)) := ⟨_, rfl⟩
  replace H : (if a0 < 10 then (some (strOfNums y248)) else ((flailref01_Decimal.f k (wrap64 (Int.tdiv a0 10))).bind fun t251 => (if t251.size + (strOfNums y248).size ≤ 9223372036854775807 then (some (t251 ++ (strOfNums y248))) else (none)))) = some r := by first | (rw [hy248]; with_reducible exact H) | (have H2_ := (Option.bind_some _ _).symm.trans H; rw [hy248]; with_reducible exact H2_) | (have H2_ := (Option.bind_some _ _).symm.trans H; with_reducible exact H2_) | with_reducible exact H | (rw [hy248]; exact H) | exact H
  have Ny248 := Aside0.mk hy248
  clear hy248
  by_cases c2 : a0 < 10
  · rw [if_pos c2] at H
    have c2b0 : decide (a0 < 10) = true := decide_eq_true c2
    clear c2
    obtain rfl := Option.some.inj H
    go_enter Tryd.func15, Tryd.ntmps15
    go_wp2_with (first | ((with_reducible refine gate_dst (N := 8) rfl ?_); refine Kd.R_lit (Kd.int .u8) _ 5 ?hg (N := 8) ?hd (xs := ([(wrap64 (48 + (Int.tmod a0 10))) % 256] : List Int)) (inner := [.int .u8 ((wrap64 (48 + (Int.tmod a0 10))) % 256)]) (ok := fun _ => True) (okp := fun _ => True) ?hr ?hp (fun _ hk => hk) trivial (Below.refl _ _) (Nat.le_refl _) (by simp) ?_; (case hd => rfl); (case hg => rfl); (case hr => first | (go_simp; done) | (go_simp; rfl)); (case hp => exact (Reps.one (show Kd.M (Kd.int .u8) _ _ _ ((wrap64 (48 + (Int.tmod a0 10))) % 256) [.int .u8 ((wrap64 (48 + (Int.tmod a0 10))) % 256)] from rfl) (Reps.none _ _))); intro v249 w3 ho4 hb hg_ hnew_; clear hg_ hnew_; (first | rw [← Ny248.out] at ho4 | (simp only [Int.reduceToNat] at ho4; rw [← Ny248.out] at ho4)); have n0_ := Aside0.mk (Kd.R_lower ho4 (below_size (by repeat (first | (with_reducible first | exact HB.out | apply below_alloc | apply pw_below_drewN | apply below_drew1) | exact HB.out)))); have n1_ := Aside0.mk (below_step (by repeat (first | (with_reducible first | exact HB.out | apply below_alloc | apply pw_below_drewN | apply below_drew1) | exact HB.out)) hb); clear HB; have HO250 := n0_; have HB := n1_; clear n0_ n1_; clear hb ho4; have hcv5 := own_string (P := Tryd.prog) Tryd.underlying29 Tryd.underlying5 Tryd.underlying9 (Kd.own_of_R HO250.out)))
    go_ret
    exact ⟨by first | rfl | (simp [errW_none, errW_some] <;> rfl) | (simp [*, errW_none, errW_some] <;> rfl), by repeat (first | (with_reducible first | exact HB.out | apply below_alloc | apply pw_below_drewN | apply below_drew1) | exact HB.out)⟩
  · rw [if_neg c2] at H
    have c2b0 : decide (a0 < 10) = false := decide_eq_false c2
    clear c2
    replace H := Option.bind_eq_some_iff.mp H
    obtain ⟨t251, A60, H⟩ := H
    replace H : (if t251.size + (strOfNums y248).size ≤ 9223372036854775807 then (some (t251 ++ (strOfNums y248))) else (none)) = some r := H
    have A6 := Aside0.mk A60
    clear A60
    by_cases c7 : t251.size + (strOfNums y248).size ≤ 9223372036854775807
    · rw [if_pos c7] at H
      have c7b0 := eq_true c7
      have c7b1 : decide (t251.size + (strOfNums y248).size ≤ 9223372036854775807) = true := decide_eq_true c7
      try have c7b2 : (9223372036854775807 < t251.size + (strOfNums y248).size) = False := eq_false (Nat.not_lt.2 c7)
      obtain rfl := Option.some.inj H
      go_enter Tryd.func15, Tryd.ntmps15
      go_wp2_with (first | ((with_reducible refine gate_dst (N := 8) rfl ?_); refine Kd.R_lit (Kd.int .u8) _ 5 ?hg (N := 8) ?hd (xs := ([(wrap64 (48 + (Int.tmod a0 10))) % 256] : List Int)) (inner := [.int .u8 ((wrap64 (48 + (Int.tmod a0 10))) % 256)]) (ok := fun _ => True) (okp := fun _ => True) ?hr ?hp (fun _ hk => hk) trivial (Below.refl _ _) (Nat.le_refl _) (by simp) ?_; (case hd => rfl); (case hg => rfl); (case hr => first | (go_simp; done) | (go_simp; rfl)); (case hp => exact (Reps.one (show Kd.M (Kd.int .u8) _ _ _ ((wrap64 (48 + (Int.tmod a0 10))) % 256) [.int .u8 ((wrap64 (48 + (Int.tmod a0 10))) % 256)] from rfl) (Reps.none _ _))); intro v249 w8 ho9 hb hg_ hnew_; clear hg_ hnew_; (first | rw [← Ny248.out] at ho9 | (simp only [Int.reduceToNat] at ho9; rw [← Ny248.out] at ho9)); have n0_ := Aside0.mk (Kd.R_lower ho9 (below_size (by repeat (first | (with_reducible first | exact HB.out | apply below_alloc | apply pw_below_drewN | apply below_drew1) | exact HB.out)))); have n1_ := Aside0.mk (below_step (by repeat (first | (with_reducible first | exact HB.out | apply below_alloc | apply pw_below_drewN | apply below_drew1) | exact HB.out)) hb); clear HB; have HO250 := n0_; have HB := n1_; clear n0_ n1_; clear hb ho9; have hcv10 := own_string (P := Tryd.prog) Tryd.underlying29 Tryd.underlying5 Tryd.underlying9 (Kd.own_of_R HO250.out)) | ((with_reducible refine gate_callee (f := 15) rfl ?_); refine goesL_ (some 15) rfl rfl Tryd.func15 (by kernel_rfl) rfl #[.int .i64 (wrap64 (Int.tdiv a0 10))] rfl (by (try simp only [List.map_toArray, List.map_cons, List.map_nil]); first | done | rfl | (simp only [List.length_drop, List.length_take]; rfl)) ?_; (with_reducible refine (ih k (by omega) (wrap64 (Int.tdiv a0 10)) t251 _ A6.out).mono ?_); rintro e w11 ⟨rfl, hb⟩; refine ⟨_, rfl, ?_⟩; have n0_ := Aside0.mk (Kd.R_below (by (with_reducible repeat (first | apply Kd.R_alloc | apply Kd.R_drewN | apply Kd.R_drew)); exact HO250.out) hb); have n1_ := Aside0.mk (below_step (by repeat (first | (with_reducible first | exact HB.out | apply below_alloc | apply pw_below_drewN | apply below_drew1) | exact HB.out)) hb); clear HO250; clear HB; have HO250 := n0_; have HB := n1_; clear n0_ n1_; (try clear hb); (try clear hb2); (try clear hk); (try clear hi)))
      go_ret
      exact ⟨by first | rfl | (simp [errW_none, errW_some] <;> rfl) | (simp [*, errW_none, errW_some] <;> rfl), by repeat (first | (with_reducible first | exact HB.out | apply below_alloc | apply pw_below_drewN | apply below_drew1) | exact HB.out)⟩
    · rw [if_neg c7] at H
      exact absurd H (by simp)

end Go.Proofs.YtfhjfidkcdcjnaaDoor.Q

namespace Go.Proofs.YtfhjfidkcdcjnaaDoor.Q
open Go.RowKit Go.Proofs.YtfhjfidkcdcjnaaDoorW.PrintWords Go.Proofs.YtfhjfidkcdcjnaaDoorW.PrintLast Go.Proofs.YtfhjfidkcdcjnaaDoorW.PrintMore
attribute [local go_sem] max2_int min2_int max_two min_two max_three min_three max_four min_four   -- for this text's walks alone
set_option linter.unusedVariables false
set_option linter.unusedSimpArgs false

/-! ### flaillaw08_AttrsClean: function 7 -/
mutual
noncomputable def flaillaw08_AttrsClean.l0 : Nat → Int → Bool → List (S27) → Int → Option (Bool)
  | 0, _, _, _, _ => none
  | k + 1, x1, x5, x6, x10 => if x10 < (x6.length : Int) then (if 0 ≤ x10 then (if ((rd_T27 x6 x10).f0).size + ((rd_T27 x6 x10).f1).size ≤ 9223372036854775807 then (flaillaw08_AttrsClean.l1 k x1 x5 x6 x10 (((rd_T27 x6 x10).f0) ++ ((rd_T27 x6 x10).f1)) 0) else (none)) else (none)) else ((flailref01_Decimal.f k (wrap64 (x1))).bind fun t261 => (if 5 + t261.size ≤ 9223372036854775807 then (if ((⟨#[97, 61, 39, 38, 35]⟩ : ByteArray) ++ t261).size + 2 ≤ 9223372036854775807 then ((attrs_Read.f (((⟨#[97, 61, 39, 38, 35]⟩ : ByteArray) ++ t261) ++ (⟨#[39, 62]⟩ : ByteArray)) 0).bind fun bt262 => (if x5 = true then (if bt262.2.2.2 = true then ((number_Fix.f (wrap64 (x1))).bind fun t268 => ((flailref08_Same.f k bt262.1 (([(⟨(⟨#[97]⟩ : ByteArray), t268⟩ : S27)] : List (S27)))).bind fun t272 => (some t272))) else (some false)) else (some false))) else (none)) else (none)))
noncomputable def flaillaw08_AttrsClean.l1 : Nat → Int → Bool → List (S27) → Int → ByteArray → Int → Option (Bool)
  | 0, _, _, _, _, _, _ => none
  | k + 1, x1, x5, x6, x10, x11, x12 => if x12 < (x11.size : Int) then (if 0 ≤ x12 then (if (bt x11 x12) = 0 then (some false) else (flaillaw08_AttrsClean.l1 k x1 x5 x6 x10 x11 (wrap64 (x12 + 1)))) else (none)) else (flaillaw08_AttrsClean.l0 k x1 x5 x6 (wrap64 (x10 + 1)))
end
noncomputable def flaillaw08_AttrsClean.f (k : Nat) (a0 : ByteArray) (a1 : Int) : Option (Bool) := (flaillaw08_awake.f k).bind fun t252 => (if (a0.size : Int) > 300 then (some t252) else ((attrs_Read.f a0 0).bind fun bt253 => (flaillaw08_AttrsClean.l0 k a1 t252 bt253.1 0)))
theorem flaillaw08_AttrsClean.mono_l : ∀ k, (∀ y0 y1 y2 y3, LeO (flaillaw08_AttrsClean.l0 k y0 y1 y2 y3) (flaillaw08_AttrsClean.l0 (k + 1) y0 y1 y2 y3)) ∧ (∀ y0 y1 y2 y3 y4 y5, LeO (flaillaw08_AttrsClean.l1 k y0 y1 y2 y3 y4 y5) (flaillaw08_AttrsClean.l1 (k + 1) y0 y1 y2 y3 y4 y5))
  | 0 => ⟨fun _ _ _ _ r h => by simp [flaillaw08_AttrsClean.l0] at h, fun _ _ _ _ _ _ r h => by simp [flaillaw08_AttrsClean.l1] at h⟩
  | k + 1 => by
    obtain ⟨ih0, ih1⟩ := flaillaw08_AttrsClean.mono_l k
    refine ⟨?_, ?_⟩
    · intro y0 y1 y2 y3
      unfold flaillaw08_AttrsClean.l0
      repeat' first
      | (with_reducible exact ih0 _ _ _ _)
      | (with_reducible exact ih1 _ _ _ _ _ _)
      | (with_reducible exact flaillaw08_awake.mono _)
      | (with_reducible exact flailref01_Decimal.mono _ _)
      | (with_reducible exact flailref08_Same.mono _ _ _)
      | (with_reducible exact LeO.refl _)
      | (with_reducible exact LeO.none _)
      | (with_reducible refine LeO.ite ?_ ?_)
      | (with_reducible refine LeO.bind ?_ (fun _ => ?_))
      | exact ih0 _ _ _ _
      | exact ih1 _ _ _ _ _ _
      | exact flaillaw08_awake.mono _
      | exact flailref01_Decimal.mono _ _
      | exact flailref08_Same.mono _ _ _
      | exact LeO.none _
      | refine LeO.ite ?_ ?_
      | refine LeO.bind ?_ (fun _ => ?_)
    · intro y0 y1 y2 y3 y4 y5
      unfold flaillaw08_AttrsClean.l1
      repeat' first
      | (with_reducible exact ih0 _ _ _ _)
      | (with_reducible exact ih1 _ _ _ _ _ _)
      | (with_reducible exact flaillaw08_awake.mono _)
      | (with_reducible exact flailref01_Decimal.mono _ _)
      | (with_reducible exact flailref08_Same.mono _ _ _)
      | (with_reducible exact LeO.refl _)
      | (with_reducible exact LeO.none _)
      | (with_reducible refine LeO.ite ?_ ?_)
      | (with_reducible refine LeO.bind ?_ (fun _ => ?_))
      | exact ih0 _ _ _ _
      | exact ih1 _ _ _ _ _ _
      | exact flaillaw08_awake.mono _
      | exact flailref01_Decimal.mono _ _
      | exact flailref08_Same.mono _ _ _
      | exact LeO.none _
      | refine LeO.ite ?_ ?_
      | refine LeO.bind ?_ (fun _ => ?_)
theorem flaillaw08_AttrsClean.mono : ∀ a0 a1 k, LeO (flaillaw08_AttrsClean.f k a0 a1) (flaillaw08_AttrsClean.f (k + 1) a0 a1) := by
  intro a0 a1 k
  obtain ⟨ih0, ih1⟩ := flaillaw08_AttrsClean.mono_l k
  unfold flaillaw08_AttrsClean.f
  repeat' first
      | (with_reducible exact ih0 _ _ _ _)
      | (with_reducible exact ih1 _ _ _ _ _ _)
      | (with_reducible exact flaillaw08_awake.mono _)
      | (with_reducible exact flailref01_Decimal.mono _ _)
      | (with_reducible exact flailref08_Same.mono _ _ _)
      | (with_reducible exact LeO.refl _)
      | (with_reducible exact LeO.none _)
      | (with_reducible refine LeO.ite ?_ ?_)
      | (with_reducible refine LeO.bind ?_ (fun _ => ?_))
      | exact ih0 _ _ _ _
      | exact ih1 _ _ _ _ _ _
      | exact flaillaw08_awake.mono _
      | exact flailref01_Decimal.mono _ _
      | exact flailref08_Same.mono _ _ _
      | exact LeO.none _
      | refine LeO.ite ?_ ?_
      | refine LeO.bind ?_ (fun _ => ?_)
set_option maxHeartbeats 8000000 in
set_option maxRecDepth 100000 in
theorem flaillaw08_AttrsClean.calls (k : Nat) (a0 : ByteArray) (a1 : Int) (r : Bool) (w : World) (hG : Gl w) (h : flaillaw08_AttrsClean.f k a0 a1 = some r) :
    Calls Tryd.prog 7 #[.string a0, .int .u32 a1] w fun e w' => e = .returned (.bool r) ∧ Below w.heap.size w w' := by
  have hu27 := Tryd.underlying27
  have HB := Aside0.mk (Below.refl w.heap.size w)
  have HG := Aside0.mk hG
  clear hG
  have H : ((flaillaw08_awake.f k).bind fun t252 => (if (a0.size : Int) > 300 then (some t252) else ((attrs_Read.f a0 0).bind fun bt253 => (flaillaw08_AttrsClean.l0 k a1 t252 bt253.1 0)))) = some r := h
  clear h
  replace H := Option.bind_eq_some_iff.mp H
  obtain ⟨t252, A30, H⟩ := H
  replace H : (if (a0.size : Int) > 300 then (some t252) else ((attrs_Read.f a0 0).bind fun bt253 => (flaillaw08_AttrsClean.l0 k a1 t252 bt253.1 0))) = some r := H
  have A3 := Aside0.mk A30
  clear A30
  by_cases c4 : (a0.size : Int) > 300
  · rw [if_pos c4] at H
    have c4b0 : decide (300 < (a0.size : Int)) = true := decide_eq_true c4
    have c4b1 : decide (300 < a0.size) = true := decide_eq_true (by omega)
    clear c4
    obtain rfl := Option.some.inj H
    go_enter Tryd.func7, Tryd.ntmps7
    go_wp2_with (first | (go_at_call 12; (with_reducible refine (flaillaw08_awake.calls k  t252 _ ?side1 A3.out).mono ?_); (case side1 => first | (with_reducible exact HG.out) | exact Gl.below HG.out (by repeat (first | (with_reducible first | exact HB.out | apply below_alloc | apply pw_below_drewN | apply below_drew1) | exact HB.out)) | exact HG.out); rintro e w5 ⟨rfl, hb⟩; have n0_ := Aside0.mk (below_step (by repeat (first | (with_reducible first | exact HB.out | apply below_alloc | apply pw_below_drewN | apply below_drew1) | exact HB.out)) hb); clear HB; have HB := n0_; clear n0_; (try clear hb); (try clear hb2); (try clear hk); (try clear hi)))
    repeat (go_quiet (first | (go_at_call 12; (with_reducible refine (flaillaw08_awake.calls k  t252 _ ?side1 A3.out).mono ?_); (case side1 => first | (with_reducible exact HG.out) | exact Gl.below HG.out (by repeat (first | (with_reducible first | exact HB.out | apply below_alloc | apply pw_below_drewN | apply below_drew1) | exact HB.out)) | exact HG.out); rintro e w5 ⟨rfl, hb⟩; have n0_ := Aside0.mk (below_step (by repeat (first | (with_reducible first | exact HB.out | apply below_alloc | apply pw_below_drewN | apply below_drew1) | exact HB.out)) hb); clear HB; have HB := n0_; clear n0_; (try clear hb); (try clear hb2); (try clear hk); (try clear hi))); try go_wp2_with (first | (go_at_call 12; (with_reducible refine (flaillaw08_awake.calls k  t252 _ ?side1 A3.out).mono ?_); (case side1 => first | (with_reducible exact HG.out) | exact Gl.below HG.out (by repeat (first | (with_reducible first | exact HB.out | apply below_alloc | apply pw_below_drewN | apply below_drew1) | exact HB.out)) | exact HG.out); rintro e w5 ⟨rfl, hb⟩; have n0_ := Aside0.mk (below_step (by repeat (first | (with_reducible first | exact HB.out | apply below_alloc | apply pw_below_drewN | apply below_drew1) | exact HB.out)) hb); clear HB; have HB := n0_; clear n0_; (try clear hb); (try clear hb2); (try clear hk); (try clear hi))))
    go_ret
    exact ⟨by first | rfl | (simp [errW_none, errW_some] <;> rfl) | (simp [*, errW_none, errW_some] <;> rfl), by repeat (first | (with_reducible first | exact HB.out | apply below_alloc | apply pw_below_drewN | apply below_drew1) | exact HB.out)⟩
  · rw [if_neg c4] at H
    have c4b0 : decide (300 < (a0.size : Int)) = false := decide_eq_false c4
    have c4b1 : decide (300 < a0.size) = false := decide_eq_false (by omega)
    clear c4
    replace H := Option.bind_eq_some_iff.mp H
    obtain ⟨⟨t253, t254, t255, t256⟩, A60, H⟩ := H
    replace H : (flaillaw08_AttrsClean.l0 k a1 t252 t253 0) = some r := H
    have A6 := Aside0.mk A60
    clear A60
    have H' := Aside0.mk H
    clear H
    go_enter Tryd.func7, Tryd.ntmps7
    go_wp2_with (first | (go_at_call 12; (with_reducible refine (flaillaw08_awake.calls k  t252 _ ?side1 A3.out).mono ?_); (case side1 => first | (with_reducible exact HG.out) | exact Gl.below HG.out (by repeat (first | (with_reducible first | exact HB.out | apply below_alloc | apply pw_below_drewN | apply below_drew1) | exact HB.out)) | exact HG.out); rintro e w7 ⟨rfl, hb⟩; have n0_ := Aside0.mk (below_step (by repeat (first | (with_reducible first | exact HB.out | apply below_alloc | apply pw_below_drewN | apply below_drew1) | exact HB.out)) hb); clear HB; have HB := n0_; clear n0_; (try clear hb); (try clear hb2); (try clear hk); (try clear hi)) | (go_at_call 13; (with_reducible refine (attrs_Read.calls a0 0 t253 t254 t255 t256 _ ?side1 A6.out).mono ?_); (case side1 => first | (with_reducible exact HG.out) | exact Gl.below HG.out (by repeat (first | (with_reducible first | exact HB.out | apply below_alloc | apply pw_below_drewN | apply below_drew1) | exact HB.out)) | exact HG.out); rintro e w8 ⟨v257, rfl, ho0, hb⟩; have n0_ := Aside0.mk (Kd.R_lower ho0 (below_size (by repeat (first | (with_reducible first | exact HB.out | apply below_alloc | apply pw_below_drewN | apply below_drew1) | exact HB.out)))); have n1_ := Aside0.mk (below_step (by repeat (first | (with_reducible first | exact HB.out | apply below_alloc | apply pw_below_drewN | apply below_drew1) | exact HB.out)) hb); clear HB; have HO258 := n0_; have HB := n1_; clear n0_ n1_; (try clear hb); (try clear hb2); (try clear hk); (try clear hi); (try clear ho0)))
    repeat (go_quiet (first | (go_at_call 12; (with_reducible refine (flaillaw08_awake.calls k  t252 _ ?side1 A3.out).mono ?_); (case side1 => first | (with_reducible exact HG.out) | exact Gl.below HG.out (by repeat (first | (with_reducible first | exact HB.out | apply below_alloc | apply pw_below_drewN | apply below_drew1) | exact HB.out)) | exact HG.out); rintro e w7 ⟨rfl, hb⟩; have n0_ := Aside0.mk (below_step (by repeat (first | (with_reducible first | exact HB.out | apply below_alloc | apply pw_below_drewN | apply below_drew1) | exact HB.out)) hb); clear HB; have HB := n0_; clear n0_; (try clear hb); (try clear hb2); (try clear hk); (try clear hi)) | (go_at_call 13; (with_reducible refine (attrs_Read.calls a0 0 t253 t254 t255 t256 _ ?side1 A6.out).mono ?_); (case side1 => first | (with_reducible exact HG.out) | exact Gl.below HG.out (by repeat (first | (with_reducible first | exact HB.out | apply below_alloc | apply pw_below_drewN | apply below_drew1) | exact HB.out)) | exact HG.out); rintro e w8 ⟨v257, rfl, ho0, hb⟩; have n0_ := Aside0.mk (Kd.R_lower ho0 (below_size (by repeat (first | (with_reducible first | exact HB.out | apply below_alloc | apply pw_below_drewN | apply below_drew1) | exact HB.out)))); have n1_ := Aside0.mk (below_step (by repeat (first | (with_reducible first | exact HB.out | apply below_alloc | apply pw_below_drewN | apply below_drew1) | exact HB.out)) hb); clear HB; have HO258 := n0_; have HB := n1_; clear n0_ n1_; (try clear hb); (try clear hb2); (try clear hk); (try clear hi); (try clear ho0))); try go_wp2_with (first | (go_at_call 12; (with_reducible refine (flaillaw08_awake.calls k  t252 _ ?side1 A3.out).mono ?_); (case side1 => first | (with_reducible exact HG.out) | exact Gl.below HG.out (by repeat (first | (with_reducible first | exact HB.out | apply below_alloc | apply pw_below_drewN | apply below_drew1) | exact HB.out)) | exact HG.out); rintro e w7 ⟨rfl, hb⟩; have n0_ := Aside0.mk (below_step (by repeat (first | (with_reducible first | exact HB.out | apply below_alloc | apply pw_below_drewN | apply below_drew1) | exact HB.out)) hb); clear HB; have HB := n0_; clear n0_; (try clear hb); (try clear hb2); (try clear hk); (try clear hi)) | (go_at_call 13; (with_reducible refine (attrs_Read.calls a0 0 t253 t254 t255 t256 _ ?side1 A6.out).mono ?_); (case side1 => first | (with_reducible exact HG.out) | exact Gl.below HG.out (by repeat (first | (with_reducible first | exact HB.out | apply below_alloc | apply pw_below_drewN | apply below_drew1) | exact HB.out)) | exact HG.out); rintro e w8 ⟨v257, rfl, ho0, hb⟩; have n0_ := Aside0.mk (Kd.R_lower ho0 (below_size (by repeat (first | (with_reducible first | exact HB.out | apply below_alloc | apply pw_below_drewN | apply below_drew1) | exact HB.out)))); have n1_ := Aside0.mk (below_step (by repeat (first | (with_reducible first | exact HB.out | apply below_alloc | apply pw_below_drewN | apply below_drew1) | exact HB.out)) hb); clear HB; have HO258 := n0_; have HB := n1_; clear n0_ n1_; (try clear hb); (try clear hb2); (try clear hk); (try clear hi); (try clear ho0))))
    go_loopg [10] k (fun kq v10 w' => ∃ (x10_1 : Int), v10 = .int .i64 x10_1 ∧ Aside0 (flaillaw08_AttrsClean.l0 kq a1 t252 t253 x10_1 = some r) ∧ Aside0 (kq ≤ k) ∧ Aside0 (Kd.R k27 27 w' w.heap.size (fun _ => True) v257 t253) ∧ Aside0 (Below w.heap.size w w'))
    case atStart => exact ⟨(0), (by first | rfl | (simp; done) | (simp [*]; done)), H', ⟨Nat.le_refl _⟩, ⟨by (with_reducible repeat (first | apply Kd.R_alloc | apply Kd.R_drewN | apply Kd.R_drew)); exact HO258.out⟩, ⟨by repeat (first | (with_reducible first | exact HB.out | apply below_alloc | apply pw_below_drewN | apply below_drew1) | exact HB.out)⟩⟩
    case round =>
      clear H'
      try clear p2
      try clear c4
      try clear c4b0
      try clear c4b1
      try clear c7
      obtain ⟨x10_1, rfl, HA, HK1, HO_6, HB⟩ := hrel
      cases gk with
      | zero => exact absurd HA.out (by simp [flaillaw08_AttrsClean.l0])
      | succ k1 =>
        have H := HA.out
        clear HA
        simp only [flaillaw08_AttrsClean.l0] at H
        by_cases c9 : x10_1 < (t253.length : Int)
        · rw [if_pos c9] at H
          have c9b0 : decide (x10_1 < (t253.length : Int)) = true := decide_eq_true c9
          clear c9
          by_cases c10 : 0 ≤ x10_1
          · rw [if_pos c10] at H
            have c10b0 : decide (0 ≤ x10_1) = true := decide_eq_true c10
            clear c10
            by_cases c11 : ((rd_T27 t253 x10_1).f0).size + ((rd_T27 t253 x10_1).f1).size ≤ 9223372036854775807
            · rw [if_pos c11] at H
              have c11b0 := eq_true c11
              have c11b1 : decide (((rd_T27 t253 x10_1).f0).size + ((rd_T27 t253 x10_1).f1).size ≤ 9223372036854775807) = true := decide_eq_true c11
              try have c11b2 : (9223372036854775807 < ((rd_T27 t253 x10_1).f0).size + ((rd_T27 t253 x10_1).f1).size) = False := eq_false (Nat.not_lt.2 c11)
              have H' := Aside0.mk H
              clear H
              obtain ⟨Ao12, co12, eo12⟩ := Kd.R_slice HO_6.out
              subst eo12
              have p259 : 0 ≤ (x10_1 : Int) := of_decide_eq_true (by first | (with_reducible assumption) | assumption)
              have q259 : x10_1 < (t253.length : Int) := of_decide_eq_true (by first | (with_reducible assumption) | assumption)
              obtain ⟨ad259, e259, hx259_0, hx259_1⟩ := at_T27 (Kd.R_reads' HO_6.out).2.2 x10_1 p259 q259
              cases e259
              replace p259 := eq_true p259
              replace q259 := eq_true q259
              have p260 : 0 ≤ (x10_1 : Int) := of_decide_eq_true (by first | (with_reducible assumption) | assumption)
              have q260 : x10_1 < (t253.length : Int) := of_decide_eq_true (by first | (with_reducible assumption) | assumption)
              obtain ⟨ad260, e260, hx260_0, hx260_1⟩ := at_T27 (Kd.R_reads' HO_6.out).2.2 x10_1 p260 q260
              obtain rfl : ad259 = ad260 := (by injection e260)
              replace p260 := eq_true p260
              replace q260 := eq_true q260
              go_wp2
              repeat (go_quiet (fail); try go_wp2)
              go_loopg [12] k1 (fun kq v12 w' => ∃ (x12_2 : Int), v12 = .int .i64 x12_2 ∧ Aside0 (flaillaw08_AttrsClean.l1 kq a1 t252 t253 x10_1 (((rd_T27 t253 x10_1).f0) ++ ((rd_T27 t253 x10_1).f1)) x12_2 = some r) ∧ Aside0 (kq ≤ k1) ∧ Aside0 (Kd.R k27 27 w' w.heap.size (fun _ => True) (.slice (some ad259) t253.length co12) t253) ∧ Aside0 (Below w.heap.size w w'))
              case atStart => exact ⟨(0), (by first | rfl | (simp; done) | (simp [*]; done)), H', ⟨Nat.le_refl _⟩, ⟨by (with_reducible repeat (first | apply Kd.R_alloc | apply Kd.R_drewN | apply Kd.R_drew)); exact HO_6.out⟩, ⟨by repeat (first | (with_reducible first | exact HB.out | apply below_alloc | apply pw_below_drewN | apply below_drew1) | exact HB.out)⟩⟩
              case round =>
                clear H'
                try clear c1
                try clear p2
                try clear q2
                try clear hx2
                try clear c4
                try clear c4b0
                try clear c4b1
                try clear c7
                try clear c9
                try clear c9b0
                try clear c10
                try clear c10b0
                try clear c11
                try clear c11b0
                try clear c11b1
                try clear c11b2
                try clear hx259_0
                try clear hx259_1
                try clear hx260_0
                try clear hx260_1
                try clear p2
                try clear p259
                try clear p260
                try clear q259
                try clear q260
                obtain ⟨x12_2, rfl, HA, HK2, HO_6, HB⟩ := hrel
                cases gk with
                | zero => exact absurd HA.out (by simp [flaillaw08_AttrsClean.l1])
                | succ k2 =>
                  have H := HA.out
                  clear HA
                  simp only [flaillaw08_AttrsClean.l1] at H
                  by_cases c13 : x12_2 < ((((rd_T27 t253 x10_1).f0) ++ ((rd_T27 t253 x10_1).f1)).size : Int)
                  · rw [if_pos c13] at H
                    have c13b0 : decide (x12_2 < ((((rd_T27 t253 x10_1).f0) ++ ((rd_T27 t253 x10_1).f1)).size : Int)) = true := decide_eq_true c13
                    (try (have c13b1 : decide (x12_2 < (((((rd_T27 t253 x10_1).f0)).size : Int) + ((((rd_T27 t253 x10_1).f1)).size : Int))) = true := by have h_ := c13; simp only [sz_app] at h_; exact decide_eq_true h_))
                    (try (have c13b2 : (x12_2 < (((((rd_T27 t253 x10_1).f0)).size : Int) + ((((rd_T27 t253 x10_1).f1)).size : Int))) = True := eq_true (by have h_ := c13; simp only [sz_app] at h_; exact h_)))
                    (try (have c13b3 : ((((((rd_T27 t253 x10_1).f0)).size : Int) + ((((rd_T27 t253 x10_1).f1)).size : Int)) ≤ x12_2) = False := eq_false (Int.not_le.2 (by have h_ := c13; simp only [sz_app] at h_; exact h_))))
                    clear c13
                    by_cases c14 : 0 ≤ x12_2
                    · rw [if_pos c14] at H
                      have c14b0 : decide (0 ≤ x12_2) = true := decide_eq_true c14
                      clear c14
                      by_cases c16 : (bt (((rd_T27 t253 x10_1).f0) ++ ((rd_T27 t253 x10_1).f1)) x12_2) = 0
                      · rw [if_pos c16] at H
                        have c16b0 : ((bt (((rd_T27 t253 x10_1).f0) ++ ((rd_T27 t253 x10_1).f1)) x12_2) == 0) = true := beq_iff_eq.mpr c16
                        have c16b1 : ((bt (((rd_T27 t253 x10_1).f0) ++ ((rd_T27 t253 x10_1).f1)) x12_2) != 0) = false := bne_eq_false_iff_eq.mpr c16
                        clear c16
                        obtain rfl := Option.some.inj H
                        have p15 : 0 ≤ (x12_2 : Int) := of_decide_eq_true (by first | (with_reducible assumption) | assumption)
                        have q15 : x12_2 < ((((rd_T27 t253 x10_1).f0) ++ ((rd_T27 t253 x10_1).f1)).size : Int) := of_decide_eq_true (by first | (with_reducible assumption) | assumption)
                        have hx15 := bt_at (((rd_T27 t253 x10_1).f0) ++ ((rd_T27 t253 x10_1).f1)) x12_2
                        replace p15 := eq_true p15
                        replace q15 := eq_true q15
                        go_wp2
                        repeat (go_quiet (fail); try go_wp2)
                        go_ret
                        exact ⟨by first | rfl | (simp [errW_none, errW_some] <;> rfl) | (simp [*, errW_none, errW_some] <;> rfl), by repeat (first | (with_reducible first | exact HB.out | apply below_alloc | apply pw_below_drewN | apply below_drew1) | exact HB.out)⟩
                      · rw [if_neg c16] at H
                        have c16b0 : ((bt (((rd_T27 t253 x10_1).f0) ++ ((rd_T27 t253 x10_1).f1)) x12_2) == 0) = false := beq_eq_false_iff_ne.mpr c16
                        have c16b1 : ((bt (((rd_T27 t253 x10_1).f0) ++ ((rd_T27 t253 x10_1).f1)) x12_2) != 0) = true := bne_iff_ne.mpr c16
                        have H' := Aside0.mk H
                        clear H
                        have p15 : 0 ≤ (x12_2 : Int) := of_decide_eq_true (by first | (with_reducible assumption) | assumption)
                        have q15 : x12_2 < ((((rd_T27 t253 x10_1).f0) ++ ((rd_T27 t253 x10_1).f1)).size : Int) := of_decide_eq_true (by first | (with_reducible assumption) | assumption)
                        have hx15 := bt_at (((rd_T27 t253 x10_1).f0) ++ ((rd_T27 t253 x10_1).f1)) x12_2
                        replace p15 := eq_true p15
                        replace q15 := eq_true q15
                        go_wp2
                        repeat (go_quiet (fail); try go_wp2)
                        go_roundg k2
                        case measure => have := HK1.out; have := HK2.out; omega
                        case rel => exact ⟨(wrap64 (x12_2 + 1)), (by first | rfl | (simp; done) | (simp [*]; done)), H', ⟨by have := HK1.out; have := HK2.out; omega⟩, ⟨by (with_reducible repeat (first | apply Kd.R_alloc | apply Kd.R_drewN | apply Kd.R_drew)); exact HO_6.out⟩, ⟨by repeat (first | (with_reducible first | exact HB.out | apply below_alloc | apply pw_below_drewN | apply below_drew1) | exact HB.out)⟩⟩
                    · rw [if_neg c14] at H
                      exact absurd H (by simp)
                  · rw [if_neg c13] at H
                    have c13b0 : decide (x12_2 < ((((rd_T27 t253 x10_1).f0) ++ ((rd_T27 t253 x10_1).f1)).size : Int)) = false := decide_eq_false c13
                    (try (have c13b1 : decide (x12_2 < (((((rd_T27 t253 x10_1).f0)).size : Int) + ((((rd_T27 t253 x10_1).f1)).size : Int))) = false := by have h_ := c13; simp only [sz_app] at h_; exact decide_eq_false h_))
                    (try (have c13b2 : (x12_2 < (((((rd_T27 t253 x10_1).f0)).size : Int) + ((((rd_T27 t253 x10_1).f1)).size : Int))) = False := eq_false (by have h_ := c13; simp only [sz_app] at h_; exact h_)))
                    (try (have c13b3 : ((((((rd_T27 t253 x10_1).f0)).size : Int) + ((((rd_T27 t253 x10_1).f1)).size : Int)) ≤ x12_2) = True := eq_true (Int.not_lt.1 (by have h_ := c13; simp only [sz_app] at h_; exact h_))))
                    clear c13
                    have H' := Aside0.mk H
                    clear H
                    go_wp2
                    repeat (go_quiet (fail); try go_wp2)
                    go_roundg k2
                    case measure => have := HK1.out; have := HK2.out; omega
                    case rel => exact ⟨(wrap64 (x10_1 + 1)), (by first | rfl | (simp; done) | (simp [*]; done)), H', ⟨by have := HK1.out; have := HK2.out; omega⟩, ⟨by (with_reducible repeat (first | apply Kd.R_alloc | apply Kd.R_drewN | apply Kd.R_drew)); exact HO_6.out⟩, ⟨by repeat (first | (with_reducible first | exact HB.out | apply below_alloc | apply pw_below_drewN | apply below_drew1) | exact HB.out)⟩⟩
            · rw [if_neg c11] at H
              exact absurd H (by simp)
          · rw [if_neg c10] at H
            exact absurd H (by simp)
        · rw [if_neg c9] at H
          have c9b0 : decide (x10_1 < (t253.length : Int)) = false := decide_eq_false c9
          clear c9
          replace H := Option.bind_eq_some_iff.mp H
          obtain ⟨t261, A170, H⟩ := H
          replace H : (if 5 + t261.size ≤ 9223372036854775807 then (if ((⟨#[97, 61, 39, 38, 35]⟩ : ByteArray) ++ t261).size + 2 ≤ 9223372036854775807 then ((attrs_Read.f (((⟨#[97, 61, 39, 38, 35]⟩ : ByteArray) ++ t261) ++ (⟨#[39, 62]⟩ : ByteArray)) 0).bind fun bt262 => (if t252 = true then (if bt262.2.2.2 = true then ((number_Fix.f (wrap64 (a1))).bind fun t268 => ((flailref08_Same.f k1 bt262.1 (([(⟨(⟨#[97]⟩ : ByteArray), t268⟩ : S27)] : List (S27)))).bind fun t272 => (some t272))) else (some false)) else (some false))) else (none)) else (none)) = some r := H
          have A17 := Aside0.mk A170
          clear A170
          by_cases c18 : 5 + t261.size ≤ 9223372036854775807
          · rw [if_pos c18] at H
            have c18b0 := eq_true c18
            have c18b1 : decide (5 + t261.size ≤ 9223372036854775807) = true := decide_eq_true c18
            try have c18b2 : (9223372036854775807 < 5 + t261.size) = False := eq_false (Nat.not_lt.2 c18)
            by_cases c19 : ((⟨#[97, 61, 39, 38, 35]⟩ : ByteArray) ++ t261).size + 2 ≤ 9223372036854775807
            · rw [if_pos c19] at H
              have c19b0 := eq_true c19
              have c19b1 : decide (((⟨#[97, 61, 39, 38, 35]⟩ : ByteArray) ++ t261).size + 2 ≤ 9223372036854775807) = true := decide_eq_true c19
              try have c19b2 : (9223372036854775807 < ((⟨#[97, 61, 39, 38, 35]⟩ : ByteArray) ++ t261).size + 2) = False := eq_false (Nat.not_lt.2 c19)
              (try (have c19b3 : (9223372036854775807 < (5 + t261.size) + 2) = False := eq_false (Nat.not_lt.2 (by have h_ := c19; simp only [ByteArray.size_append] at h_; exact h_))))
              (try (have c19b4 : ((5 + t261.size) + 2 ≤ 9223372036854775807) = True := eq_true (by have h_ := c19; simp only [ByteArray.size_append] at h_; exact h_)))
              (try (have c19b5 : decide ((5 + t261.size) + 2 ≤ 9223372036854775807) = true := decide_eq_true (by have h_ := c19; simp only [ByteArray.size_append] at h_; exact h_)))
              replace H := Option.bind_eq_some_iff.mp H
              obtain ⟨⟨t262, t263, t264, t265⟩, A200, H⟩ := H
              replace H : (if t252 = true then (if t265 = true then ((number_Fix.f (wrap64 (a1))).bind fun t268 => ((flailref08_Same.f k1 t262 (([(⟨(⟨#[97]⟩ : ByteArray), t268⟩ : S27)] : List (S27)))).bind fun t272 => (some t272))) else (some false)) else (some false)) = some r := H
              have A20 := Aside0.mk A200
              clear A200
              by_cases c21 : t252 = true
              · subst c21
                have H1 : (if t265 = true then ((number_Fix.f (wrap64 (a1))).bind fun t268 => ((flailref08_Same.f k1 t262 (([(⟨(⟨#[97]⟩ : ByteArray), t268⟩ : S27)] : List (S27)))).bind fun t272 => (some t272))) else (some false)) = some r := by rw [if_pos rfl] at H; exact H
                clear H
                have H := H1
                clear H1
                by_cases c22 : t265 = true
                · subst c22
                  have H1 : ((number_Fix.f (wrap64 (a1))).bind fun t268 => ((flailref08_Same.f k1 t262 (([(⟨(⟨#[97]⟩ : ByteArray), t268⟩ : S27)] : List (S27)))).bind fun t272 => (some t272))) = some r := by rw [if_pos rfl] at H; exact H
                  clear H
                  have H := H1
                  clear H1
                  replace H := Option.bind_eq_some_iff.mp H
                  obtain ⟨t268, A230, H⟩ := H
                  replace H : ((flailref08_Same.f k1 t262 (([(⟨(⟨#[97]⟩ : ByteArray), t268⟩ : S27)] : List (S27)))).bind fun t272 => (some t272)) = some r := H
                  have A23 := Aside0.mk A230
                  clear A230
                  obtain ⟨y269, hy269⟩ : ∃ y_ : List (S27), y_ = (([(⟨(⟨#[97]⟩ : ByteArray), t268⟩ : S27)] : List (S27))) := ⟨_, rfl⟩
                  replace H : ((flailref08_Same.f k1 t262 y269).bind fun t272 => (some t272)) = some r := by first | (rw [hy269]; with_reducible exact H) | (have H2_ := (Option.bind_some _ _).symm.trans H; rw [hy269]; with_reducible exact H2_) | (have H2_ := (Option.bind_some _ _).symm.trans H; with_reducible exact H2_) | with_reducible exact H | (rw [hy269]; exact H) | exact H
                  have Ny269 := Aside0.mk hy269
                  clear hy269
                  replace H := Option.bind_eq_some_iff.mp H
                  obtain ⟨t272, A240, H⟩ := H
                  replace H : (some t272) = some r := H
                  have A24 := Aside0.mk A240
                  clear A240
                  obtain rfl := Option.some.inj H
                  obtain ⟨Ao25, co25, eo25⟩ := Kd.R_slice HO_6.out
                  subst eo25
                  go_wp2_with (first | (go_at_call 15; (with_reducible refine (flailref01_Decimal.calls k1 (wrap64 (a1)) t261 _ A17.out).mono ?_); rintro e w26 ⟨rfl, hb⟩; have n0_ := Aside0.mk (Kd.R_below (by (with_reducible repeat (first | apply Kd.R_alloc | apply Kd.R_drewN | apply Kd.R_drew)); exact HO_6.out) hb); have n1_ := Aside0.mk (below_step (by repeat (first | (with_reducible first | exact HB.out | apply below_alloc | apply pw_below_drewN | apply below_drew1) | exact HB.out)) hb); clear HO_6; clear HB; have HO_6 := n0_; have HB := n1_; clear n0_ n1_; (try clear hb); (try clear hb2); (try clear hk); (try clear hi)) | (go_at_call 13; (with_reducible refine (attrs_Read.calls (((⟨#[97, 61, 39, 38, 35]⟩ : ByteArray) ++ t261) ++ (⟨#[39, 62]⟩ : ByteArray)) 0 t262 t263 t264 true _ ?side1 A20.out).mono ?_); (case side1 => first | (with_reducible exact HG.out) | exact Gl.below HG.out (by repeat (first | (with_reducible first | exact HB.out | apply below_alloc | apply pw_below_drewN | apply below_drew1) | exact HB.out)) | exact HG.out); rintro e w27 ⟨v266, rfl, ho0, hb⟩; have n0_ := Aside0.mk (Kd.R_elder' (by (with_reducible repeat (first | apply Kd.R_alloc | apply Kd.R_drewN | apply Kd.R_drew)); exact HO_6.out) (Kd.R_base ho0) hb); have n1_ := Aside0.mk (Kd.R_lower (Kd.R_new' ho0 (Kd.R_lt (by (with_reducible repeat (first | apply Kd.R_alloc | apply Kd.R_drewN | apply Kd.R_drew)); exact HO_6.out))) (below_size (by repeat (first | (with_reducible first | exact HB.out | apply below_alloc | apply pw_below_drewN | apply below_drew1) | exact HB.out)))); have n2_ := Aside0.mk (below_step (by repeat (first | (with_reducible first | exact HB.out | apply below_alloc | apply pw_below_drewN | apply below_drew1) | exact HB.out)) hb); clear HO_6; clear HB; have HO_6 := n0_; have HO267 := n1_; have HB := n2_; clear n0_ n1_ n2_; (try clear hb); (try clear hb2); (try clear hk); (try clear hi); (try clear ho0)) | (go_at_call 16; (with_reducible refine (number_Fix.calls (wrap64 (a1)) t268 _ A23.out).mono ?_); rintro e w28 ⟨rfl, hb⟩; have n0_ := Aside0.mk (Kd.R_below (by (with_reducible repeat (first | apply Kd.R_alloc | apply Kd.R_drewN | apply Kd.R_drew)); exact HO_6.out) hb); have n1_ := Aside0.mk (Kd.R_below (by (with_reducible repeat (first | apply Kd.R_alloc | apply Kd.R_drewN | apply Kd.R_drew)); exact HO267.out) hb); have n2_ := Aside0.mk (below_step (by repeat (first | (with_reducible first | exact HB.out | apply below_alloc | apply pw_below_drewN | apply below_drew1) | exact HB.out)) hb); clear HO_6; clear HO267; clear HB; have HO_6 := n0_; have HO267 := n1_; have HB := n2_; clear n0_ n1_ n2_; (try clear hb); (try clear hb2); (try clear hk); (try clear hi)) | ((with_reducible refine gate_dst (N := 77) rfl ?_); (try (refine gate_guard (by rfl) ?_; dsimp only)); refine Kd.R_lit k27 _ 27 ?hg (N := 77) ?hd (xs := ([(⟨(⟨#[97]⟩ : ByteArray), t268⟩ : S27)] : List (S27))) (inner := [.string (⟨#[97]⟩ : ByteArray), .string t268]) (ok := fun _ => True) (okp := fun _ => True) ?hr ?hp (fun _ hk => hk) trivial (Below.refl _ _) (Nat.le_refl _) (by simp) ?_; (case hd => rfl); (case hg => rfl); (case hr => first | (go_simp; done) | (go_simp; rfl)); (case hp => exact (Reps.c2 (show Kd.M k27 _ _ _ (⟨(⟨#[97]⟩ : ByteArray), t268⟩ : S27) [.string (⟨#[97]⟩ : ByteArray), .string t268] from (k27_mkM _ _ _ (⟨(⟨#[97]⟩ : ByteArray), t268⟩ : S27) )) (Reps.none _ _))); intro v270 w29 ho30 hb hg_ hnew_; clear hg_ hnew_; (first | rw [← Ny269.out] at ho30 | (simp only [Int.reduceToNat] at ho30; rw [← Ny269.out] at ho30)); have n0_ := Aside0.mk (Kd.R_elder' (by (with_reducible repeat (first | apply Kd.R_alloc | apply Kd.R_drewN | apply Kd.R_drew)); exact HO_6.out) (Kd.R_base ho30) hb); have n1_ := Aside0.mk (Kd.R_elder' (by (with_reducible repeat (first | apply Kd.R_alloc | apply Kd.R_drewN | apply Kd.R_drew)); exact HO267.out) (Kd.R_base ho30) hb); have n2_ := Aside0.mk (Kd.R_lower (Kd.R_new' (Kd.R_new' ho30 (Kd.R_lt (by (with_reducible repeat (first | apply Kd.R_alloc | apply Kd.R_drewN | apply Kd.R_drew)); exact HO_6.out))) (Kd.R_lt (by (with_reducible repeat (first | apply Kd.R_alloc | apply Kd.R_drewN | apply Kd.R_drew)); exact HO267.out))) (below_size (by repeat (first | (with_reducible first | exact HB.out | apply below_alloc | apply pw_below_drewN | apply below_drew1) | exact HB.out)))); have n3_ := Aside0.mk (below_step (by repeat (first | (with_reducible first | exact HB.out | apply below_alloc | apply pw_below_drewN | apply below_drew1) | exact HB.out)) hb); clear HO_6; clear HO267; clear HB; have HO_6 := n0_; have HO267 := n1_; have HO271 := n2_; have HB := n3_; clear n0_ n1_ n2_ n3_; clear hb ho30; obtain ⟨Ao31, co31, eo31⟩ := Kd.R_slice HO267.out; subst eo31; obtain ⟨Ao32, co32, eo32⟩ := Kd.R_slice HO271.out; subst eo32) | (go_at_call 14; (with_reducible refine (flailref08_Same.calls k1 _ _ t262 _ _ y269 t272 _ ?side1 ?side2 ?side3 ?side4 A24.out).mono ?_); (case side1 => repeat (first | exact (Kd.R_reads' HO267.out).2.2 | (with_reducible refine Kd.C_alloc ?_ _) | (with_reducible refine Kd.C_drewN ?_ _) | (with_reducible refine Kd.C_drew ?_))); (case side2 => exact (Kd.R_reads' HO267.out).2.1); (case side3 => repeat (first | exact (Kd.R_reads' HO271.out).2.2 | (with_reducible refine Kd.C_alloc ?_ _) | (with_reducible refine Kd.C_drewN ?_ _) | (with_reducible refine Kd.C_drew ?_))); (case side4 => exact (Kd.R_reads' HO271.out).2.1); rintro e w' ⟨rfl, ⟨nd, rfl⟩⟩; (try first | exact ⟨rfl, _, World.drewN_drewN _ _ _⟩ | exact ⟨rfl, _, Eq.trans (World.drewN_drewN _ _ _) (congrArg (World.drewN _) (Nat.add_assoc _ _ _))⟩)))
                  repeat (go_quiet (first | (go_at_call 15; (with_reducible refine (flailref01_Decimal.calls k1 (wrap64 (a1)) t261 _ A17.out).mono ?_); rintro e w26 ⟨rfl, hb⟩; have n0_ := Aside0.mk (Kd.R_below (by (with_reducible repeat (first | apply Kd.R_alloc | apply Kd.R_drewN | apply Kd.R_drew)); exact HO_6.out) hb); have n1_ := Aside0.mk (below_step (by repeat (first | (with_reducible first | exact HB.out | apply below_alloc | apply pw_below_drewN | apply below_drew1) | exact HB.out)) hb); clear HO_6; clear HB; have HO_6 := n0_; have HB := n1_; clear n0_ n1_; (try clear hb); (try clear hb2); (try clear hk); (try clear hi)) | (go_at_call 13; (with_reducible refine (attrs_Read.calls (((⟨#[97, 61, 39, 38, 35]⟩ : ByteArray) ++ t261) ++ (⟨#[39, 62]⟩ : ByteArray)) 0 t262 t263 t264 true _ ?side1 A20.out).mono ?_); (case side1 => first | (with_reducible exact HG.out) | exact Gl.below HG.out (by repeat (first | (with_reducible first | exact HB.out | apply below_alloc | apply pw_below_drewN | apply below_drew1) | exact HB.out)) | exact HG.out); rintro e w27 ⟨v266, rfl, ho0, hb⟩; have n0_ := Aside0.mk (Kd.R_elder' (by (with_reducible repeat (first | apply Kd.R_alloc | apply Kd.R_drewN | apply Kd.R_drew)); exact HO_6.out) (Kd.R_base ho0) hb); have n1_ := Aside0.mk (Kd.R_lower (Kd.R_new' ho0 (Kd.R_lt (by (with_reducible repeat (first | apply Kd.R_alloc | apply Kd.R_drewN | apply Kd.R_drew)); exact HO_6.out))) (below_size (by repeat (first | (with_reducible first | exact HB.out | apply below_alloc | apply pw_below_drewN | apply below_drew1) | exact HB.out)))); have n2_ := Aside0.mk (below_step (by repeat (first | (with_reducible first | exact HB.out | apply below_alloc | apply pw_below_drewN | apply below_drew1) | exact HB.out)) hb); clear HO_6; clear HB; have HO_6 := n0_; have HO267 := n1_; have HB := n2_; clear n0_ n1_ n2_; (try clear hb); (try clear hb2); (try clear hk); (try clear hi); (try clear ho0)) | (go_at_call 16; (with_reducible refine (number_Fix.calls (wrap64 (a1)) t268 _ A23.out).mono ?_); rintro e w28 ⟨rfl, hb⟩; have n0_ := Aside0.mk (Kd.R_below (by (with_reducible repeat (first | apply Kd.R_alloc | apply Kd.R_drewN | apply Kd.R_drew)); exact HO_6.out) hb); have n1_ := Aside0.mk (Kd.R_below (by (with_reducible repeat (first | apply Kd.R_alloc | apply Kd.R_drewN | apply Kd.R_drew)); exact HO267.out) hb); have n2_ := Aside0.mk (below_step (by repeat (first | (with_reducible first | exact HB.out | apply below_alloc | apply pw_below_drewN | apply below_drew1) | exact HB.out)) hb); clear HO_6; clear HO267; clear HB; have HO_6 := n0_; have HO267 := n1_; have HB := n2_; clear n0_ n1_ n2_; (try clear hb); (try clear hb2); (try clear hk); (try clear hi)) | ((with_reducible refine gate_dst (N := 77) rfl ?_); (try (refine gate_guard (by rfl) ?_; dsimp only)); refine Kd.R_lit k27 _ 27 ?hg (N := 77) ?hd (xs := ([(⟨(⟨#[97]⟩ : ByteArray), t268⟩ : S27)] : List (S27))) (inner := [.string (⟨#[97]⟩ : ByteArray), .string t268]) (ok := fun _ => True) (okp := fun _ => True) ?hr ?hp (fun _ hk => hk) trivial (Below.refl _ _) (Nat.le_refl _) (by simp) ?_; (case hd => rfl); (case hg => rfl); (case hr => first | (go_simp; done) | (go_simp; rfl)); (case hp => exact (Reps.c2 (show Kd.M k27 _ _ _ (⟨(⟨#[97]⟩ : ByteArray), t268⟩ : S27) [.string (⟨#[97]⟩ : ByteArray), .string t268] from (k27_mkM _ _ _ (⟨(⟨#[97]⟩ : ByteArray), t268⟩ : S27) )) (Reps.none _ _))); intro v270 w29 ho30 hb hg_ hnew_; clear hg_ hnew_; (first | rw [← Ny269.out] at ho30 | (simp only [Int.reduceToNat] at ho30; rw [← Ny269.out] at ho30)); have n0_ := Aside0.mk (Kd.R_elder' (by (with_reducible repeat (first | apply Kd.R_alloc | apply Kd.R_drewN | apply Kd.R_drew)); exact HO_6.out) (Kd.R_base ho30) hb); have n1_ := Aside0.mk (Kd.R_elder' (by (with_reducible repeat (first | apply Kd.R_alloc | apply Kd.R_drewN | apply Kd.R_drew)); exact HO267.out) (Kd.R_base ho30) hb); have n2_ := Aside0.mk (Kd.R_lower (Kd.R_new' (Kd.R_new' ho30 (Kd.R_lt (by (with_reducible repeat (first | apply Kd.R_alloc | apply Kd.R_drewN | apply Kd.R_drew)); exact HO_6.out))) (Kd.R_lt (by (with_reducible repeat (first | apply Kd.R_alloc | apply Kd.R_drewN | apply Kd.R_drew)); exact HO267.out))) (below_size (by repeat (first | (with_reducible first | exact HB.out | apply below_alloc | apply pw_below_drewN | apply below_drew1) | exact HB.out)))); have n3_ := Aside0.mk (below_step (by repeat (first | (with_reducible first | exact HB.out | apply below_alloc | apply pw_below_drewN | apply below_drew1) | exact HB.out)) hb); clear HO_6; clear HO267; clear HB; have HO_6 := n0_; have HO267 := n1_; have HO271 := n2_; have HB := n3_; clear n0_ n1_ n2_ n3_; clear hb ho30; obtain ⟨Ao31, co31, eo31⟩ := Kd.R_slice HO267.out; subst eo31; obtain ⟨Ao32, co32, eo32⟩ := Kd.R_slice HO271.out; subst eo32) | (go_at_call 14; (with_reducible refine (flailref08_Same.calls k1 _ _ t262 _ _ y269 t272 _ ?side1 ?side2 ?side3 ?side4 A24.out).mono ?_); (case side1 => repeat (first | exact (Kd.R_reads' HO267.out).2.2 | (with_reducible refine Kd.C_alloc ?_ _) | (with_reducible refine Kd.C_drewN ?_ _) | (with_reducible refine Kd.C_drew ?_))); (case side2 => exact (Kd.R_reads' HO267.out).2.1); (case side3 => repeat (first | exact (Kd.R_reads' HO271.out).2.2 | (with_reducible refine Kd.C_alloc ?_ _) | (with_reducible refine Kd.C_drewN ?_ _) | (with_reducible refine Kd.C_drew ?_))); (case side4 => exact (Kd.R_reads' HO271.out).2.1); rintro e w' ⟨rfl, ⟨nd, rfl⟩⟩; (try first | exact ⟨rfl, _, World.drewN_drewN _ _ _⟩ | exact ⟨rfl, _, Eq.trans (World.drewN_drewN _ _ _) (congrArg (World.drewN _) (Nat.add_assoc _ _ _))⟩))); try go_wp2_with (first | (go_at_call 15; (with_reducible refine (flailref01_Decimal.calls k1 (wrap64 (a1)) t261 _ A17.out).mono ?_); rintro e w26 ⟨rfl, hb⟩; have n0_ := Aside0.mk (Kd.R_below (by (with_reducible repeat (first | apply Kd.R_alloc | apply Kd.R_drewN | apply Kd.R_drew)); exact HO_6.out) hb); have n1_ := Aside0.mk (below_step (by repeat (first | (with_reducible first | exact HB.out | apply below_alloc | apply pw_below_drewN | apply below_drew1) | exact HB.out)) hb); clear HO_6; clear HB; have HO_6 := n0_; have HB := n1_; clear n0_ n1_; (try clear hb); (try clear hb2); (try clear hk); (try clear hi)) | (go_at_call 13; (with_reducible refine (attrs_Read.calls (((⟨#[97, 61, 39, 38, 35]⟩ : ByteArray) ++ t261) ++ (⟨#[39, 62]⟩ : ByteArray)) 0 t262 t263 t264 true _ ?side1 A20.out).mono ?_); (case side1 => first | (with_reducible exact HG.out) | exact Gl.below HG.out (by repeat (first | (with_reducible first | exact HB.out | apply below_alloc | apply pw_below_drewN | apply below_drew1) | exact HB.out)) | exact HG.out); rintro e w27 ⟨v266, rfl, ho0, hb⟩; have n0_ := Aside0.mk (Kd.R_elder' (by (with_reducible repeat (first | apply Kd.R_alloc | apply Kd.R_drewN | apply Kd.R_drew)); exact HO_6.out) (Kd.R_base ho0) hb); have n1_ := Aside0.mk (Kd.R_lower (Kd.R_new' ho0 (Kd.R_lt (by (with_reducible repeat (first | apply Kd.R_alloc | apply Kd.R_drewN | apply Kd.R_drew)); exact HO_6.out))) (below_size (by repeat (first | (with_reducible first | exact HB.out | apply below_alloc | apply pw_below_drewN | apply below_drew1) | exact HB.out)))); have n2_ := Aside0.mk (below_step (by repeat (first | (with_reducible first | exact HB.out | apply below_alloc | apply pw_below_drewN | apply below_drew1) | exact HB.out)) hb); clear HO_6; clear HB; have HO_6 := n0_; have HO267 := n1_; have HB := n2_; clear n0_ n1_ n2_; (try clear hb); (try clear hb2); (try clear hk); (try clear hi); (try clear ho0)) | (go_at_call 16; (with_reducible refine (number_Fix.calls (wrap64 (a1)) t268 _ A23.out).mono ?_); rintro e w28 ⟨rfl, hb⟩; have n0_ := Aside0.mk (Kd.R_below (by (with_reducible repeat (first | apply Kd.R_alloc | apply Kd.R_drewN | apply Kd.R_drew)); exact HO_6.out) hb); have n1_ := Aside0.mk (Kd.R_below (by (with_reducible repeat (first | apply Kd.R_alloc | apply Kd.R_drewN | apply Kd.R_drew)); exact HO267.out) hb); have n2_ := Aside0.mk (below_step (by repeat (first | (with_reducible first | exact HB.out | apply below_alloc | apply pw_below_drewN | apply below_drew1) | exact HB.out)) hb); clear HO_6; clear HO267; clear HB; have HO_6 := n0_; have HO267 := n1_; have HB := n2_; clear n0_ n1_ n2_; (try clear hb); (try clear hb2); (try clear hk); (try clear hi)) | ((with_reducible refine gate_dst (N := 77) rfl ?_); (try (refine gate_guard (by rfl) ?_; dsimp only)); refine Kd.R_lit k27 _ 27 ?hg (N := 77) ?hd (xs := ([(⟨(⟨#[97]⟩ : ByteArray), t268⟩ : S27)] : List (S27))) (inner := [.string (⟨#[97]⟩ : ByteArray), .string t268]) (ok := fun _ => True) (okp := fun _ => True) ?hr ?hp (fun _ hk => hk) trivial (Below.refl _ _) (Nat.le_refl _) (by simp) ?_; (case hd => rfl); (case hg => rfl); (case hr => first | (go_simp; done) | (go_simp; rfl)); (case hp => exact (Reps.c2 (show Kd.M k27 _ _ _ (⟨(⟨#[97]⟩ : ByteArray), t268⟩ : S27) [.string (⟨#[97]⟩ : ByteArray), .string t268] from (k27_mkM _ _ _ (⟨(⟨#[97]⟩ : ByteArray), t268⟩ : S27) )) (Reps.none _ _))); intro v270 w29 ho30 hb hg_ hnew_; clear hg_ hnew_; (first | rw [← Ny269.out] at ho30 | (simp only [Int.reduceToNat] at ho30; rw [← Ny269.out] at ho30)); have n0_ := Aside0.mk (Kd.R_elder' (by (with_reducible repeat (first | apply Kd.R_alloc | apply Kd.R_drewN | apply Kd.R_drew)); exact HO_6.out) (Kd.R_base ho30) hb); have n1_ := Aside0.mk (Kd.R_elder' (by (with_reducible repeat (first | apply Kd.R_alloc | apply Kd.R_drewN | apply Kd.R_drew)); exact HO267.out) (Kd.R_base ho30) hb); have n2_ := Aside0.mk (Kd.R_lower (Kd.R_new' (Kd.R_new' ho30 (Kd.R_lt (by (with_reducible repeat (first | apply Kd.R_alloc | apply Kd.R_drewN | apply Kd.R_drew)); exact HO_6.out))) (Kd.R_lt (by (with_reducible repeat (first | apply Kd.R_alloc | apply Kd.R_drewN | apply Kd.R_drew)); exact HO267.out))) (below_size (by repeat (first | (with_reducible first | exact HB.out | apply below_alloc | apply pw_below_drewN | apply below_drew1) | exact HB.out)))); have n3_ := Aside0.mk (below_step (by repeat (first | (with_reducible first | exact HB.out | apply below_alloc | apply pw_below_drewN | apply below_drew1) | exact HB.out)) hb); clear HO_6; clear HO267; clear HB; have HO_6 := n0_; have HO267 := n1_; have HO271 := n2_; have HB := n3_; clear n0_ n1_ n2_ n3_; clear hb ho30; obtain ⟨Ao31, co31, eo31⟩ := Kd.R_slice HO267.out; subst eo31; obtain ⟨Ao32, co32, eo32⟩ := Kd.R_slice HO271.out; subst eo32) | (go_at_call 14; (with_reducible refine (flailref08_Same.calls k1 _ _ t262 _ _ y269 t272 _ ?side1 ?side2 ?side3 ?side4 A24.out).mono ?_); (case side1 => repeat (first | exact (Kd.R_reads' HO267.out).2.2 | (with_reducible refine Kd.C_alloc ?_ _) | (with_reducible refine Kd.C_drewN ?_ _) | (with_reducible refine Kd.C_drew ?_))); (case side2 => exact (Kd.R_reads' HO267.out).2.1); (case side3 => repeat (first | exact (Kd.R_reads' HO271.out).2.2 | (with_reducible refine Kd.C_alloc ?_ _) | (with_reducible refine Kd.C_drewN ?_ _) | (with_reducible refine Kd.C_drew ?_))); (case side4 => exact (Kd.R_reads' HO271.out).2.1); rintro e w' ⟨rfl, ⟨nd, rfl⟩⟩; (try first | exact ⟨rfl, _, World.drewN_drewN _ _ _⟩ | exact ⟨rfl, _, Eq.trans (World.drewN_drewN _ _ _) (congrArg (World.drewN _) (Nat.add_assoc _ _ _))⟩))))
                  go_ret
                  exact ⟨by first | rfl | (simp [errW_none, errW_some] <;> rfl) | (simp [*, errW_none, errW_some] <;> rfl), by repeat (first | (with_reducible first | exact HB.out | apply below_alloc | apply pw_below_drewN | apply below_drew1) | exact HB.out)⟩
                · replace c22 := Bool.eq_false_iff.mpr c22
                  subst c22
                  have H1 : (some false) = some r := by rw [if_neg (show ¬ (false = true) by decide)] at H; exact H
                  clear H
                  have H := H1
                  clear H1
                  obtain rfl := Option.some.inj H
                  obtain ⟨Ao33, co33, eo33⟩ := Kd.R_slice HO_6.out
                  subst eo33
                  go_wp2_with (first | (go_at_call 15; (with_reducible refine (flailref01_Decimal.calls k1 (wrap64 (a1)) t261 _ A17.out).mono ?_); rintro e w34 ⟨rfl, hb⟩; have n0_ := Aside0.mk (Kd.R_below (by (with_reducible repeat (first | apply Kd.R_alloc | apply Kd.R_drewN | apply Kd.R_drew)); exact HO_6.out) hb); have n1_ := Aside0.mk (below_step (by repeat (first | (with_reducible first | exact HB.out | apply below_alloc | apply pw_below_drewN | apply below_drew1) | exact HB.out)) hb); clear HO_6; clear HB; have HO_6 := n0_; have HB := n1_; clear n0_ n1_; (try clear hb); (try clear hb2); (try clear hk); (try clear hi)) | (go_at_call 13; (with_reducible refine (attrs_Read.calls (((⟨#[97, 61, 39, 38, 35]⟩ : ByteArray) ++ t261) ++ (⟨#[39, 62]⟩ : ByteArray)) 0 t262 t263 t264 false _ ?side1 A20.out).mono ?_); (case side1 => first | (with_reducible exact HG.out) | exact Gl.below HG.out (by repeat (first | (with_reducible first | exact HB.out | apply below_alloc | apply pw_below_drewN | apply below_drew1) | exact HB.out)) | exact HG.out); rintro e w35 ⟨v266, rfl, ho0, hb⟩; have n0_ := Aside0.mk (Kd.R_elder' (by (with_reducible repeat (first | apply Kd.R_alloc | apply Kd.R_drewN | apply Kd.R_drew)); exact HO_6.out) (Kd.R_base ho0) hb); have n1_ := Aside0.mk (Kd.R_lower (Kd.R_new' ho0 (Kd.R_lt (by (with_reducible repeat (first | apply Kd.R_alloc | apply Kd.R_drewN | apply Kd.R_drew)); exact HO_6.out))) (below_size (by repeat (first | (with_reducible first | exact HB.out | apply below_alloc | apply pw_below_drewN | apply below_drew1) | exact HB.out)))); have n2_ := Aside0.mk (below_step (by repeat (first | (with_reducible first | exact HB.out | apply below_alloc | apply pw_below_drewN | apply below_drew1) | exact HB.out)) hb); clear HO_6; clear HB; have HO_6 := n0_; have HO267 := n1_; have HB := n2_; clear n0_ n1_ n2_; (try clear hb); (try clear hb2); (try clear hk); (try clear hi); (try clear ho0)))
                  repeat (go_quiet (first | (go_at_call 15; (with_reducible refine (flailref01_Decimal.calls k1 (wrap64 (a1)) t261 _ A17.out).mono ?_); rintro e w34 ⟨rfl, hb⟩; have n0_ := Aside0.mk (Kd.R_below (by (with_reducible repeat (first | apply Kd.R_alloc | apply Kd.R_drewN | apply Kd.R_drew)); exact HO_6.out) hb); have n1_ := Aside0.mk (below_step (by repeat (first | (with_reducible first | exact HB.out | apply below_alloc | apply pw_below_drewN | apply below_drew1) | exact HB.out)) hb); clear HO_6; clear HB; have HO_6 := n0_; have HB := n1_; clear n0_ n1_; (try clear hb); (try clear hb2); (try clear hk); (try clear hi)) | (go_at_call 13; (with_reducible refine (attrs_Read.calls (((⟨#[97, 61, 39, 38, 35]⟩ : ByteArray) ++ t261) ++ (⟨#[39, 62]⟩ : ByteArray)) 0 t262 t263 t264 false _ ?side1 A20.out).mono ?_); (case side1 => first | (with_reducible exact HG.out) | exact Gl.below HG.out (by repeat (first | (with_reducible first | exact HB.out | apply below_alloc | apply pw_below_drewN | apply below_drew1) | exact HB.out)) | exact HG.out); rintro e w35 ⟨v266, rfl, ho0, hb⟩; have n0_ := Aside0.mk (Kd.R_elder' (by (with_reducible repeat (first | apply Kd.R_alloc | apply Kd.R_drewN | apply Kd.R_drew)); exact HO_6.out) (Kd.R_base ho0) hb); have n1_ := Aside0.mk (Kd.R_lower (Kd.R_new' ho0 (Kd.R_lt (by (with_reducible repeat (first | apply Kd.R_alloc | apply Kd.R_drewN | apply Kd.R_drew)); exact HO_6.out))) (below_size (by repeat (first | (with_reducible first | exact HB.out | apply below_alloc | apply pw_below_drewN | apply below_drew1) | exact HB.out)))); have n2_ := Aside0.mk (below_step (by repeat (first | (with_reducible first | exact HB.out | apply below_alloc | apply pw_below_drewN | apply below_drew1) | exact HB.out)) hb); clear HO_6; clear HB; have HO_6 := n0_; have HO267 := n1_; have HB := n2_; clear n0_ n1_ n2_; (try clear hb); (try clear hb2); (try clear hk); (try clear hi); (try clear ho0))); try go_wp2_with (first | (go_at_call 15; (with_reducible refine (flailref01_Decimal.calls k1 (wrap64 (a1)) t261 _ A17.out).mono ?_); rintro e w34 ⟨rfl, hb⟩; have n0_ := Aside0.mk (Kd.R_below (by (with_reducible repeat (first | apply Kd.R_alloc | apply Kd.R_drewN | apply Kd.R_drew)); exact HO_6.out) hb); have n1_ := Aside0.mk (below_step (by repeat (first | (with_reducible first | exact HB.out | apply below_alloc | apply pw_below_drewN | apply below_drew1) | exact HB.out)) hb); clear HO_6; clear HB; have HO_6 := n0_; have HB := n1_; clear n0_ n1_; (try clear hb); (try clear hb2); (try clear hk); (try clear hi)) | (go_at_call 13; (with_reducible refine (attrs_Read.calls (((⟨#[97, 61, 39, 38, 35]⟩ : ByteArray) ++ t261) ++ (⟨#[39, 62]⟩ : ByteArray)) 0 t262 t263 t264 false _ ?side1 A20.out).mono ?_); (case side1 => first | (with_reducible exact HG.out) | exact Gl.below HG.out (by repeat (first | (with_reducible first | exact HB.out | apply below_alloc | apply pw_below_drewN | apply below_drew1) | exact HB.out)) | exact HG.out); rintro e w35 ⟨v266, rfl, ho0, hb⟩; have n0_ := Aside0.mk (Kd.R_elder' (by (with_reducible repeat (first | apply Kd.R_alloc | apply Kd.R_drewN | apply Kd.R_drew)); exact HO_6.out) (Kd.R_base ho0) hb); have n1_ := Aside0.mk (Kd.R_lower (Kd.R_new' ho0 (Kd.R_lt (by (with_reducible repeat (first | apply Kd.R_alloc | apply Kd.R_drewN | apply Kd.R_drew)); exact HO_6.out))) (below_size (by repeat (first | (with_reducible first | exact HB.out | apply below_alloc | apply pw_below_drewN | apply below_drew1) | exact HB.out)))); have n2_ := Aside0.mk (below_step (by repeat (first | (with_reducible first | exact HB.out | apply below_alloc | apply pw_below_drewN | apply below_drew1) | exact HB.out)) hb); clear HO_6; clear HB; have HO_6 := n0_; have HO267 := n1_; have HB := n2_; clear n0_ n1_ n2_; (try clear hb); (try clear hb2); (try clear hk); (try clear hi); (try clear ho0))))
                  go_ret
                  exact ⟨by first | rfl | (simp [errW_none, errW_some] <;> rfl) | (simp [*, errW_none, errW_some] <;> rfl), by repeat (first | (with_reducible first | exact HB.out | apply below_alloc | apply pw_below_drewN | apply below_drew1) | exact HB.out)⟩
              · replace c21 := Bool.eq_false_iff.mpr c21
                subst c21
                have H1 : (some false) = some r := by rw [if_neg (show ¬ (false = true) by decide)] at H; exact H
                clear H
                have H := H1
                clear H1
                obtain rfl := Option.some.inj H
                obtain ⟨Ao36, co36, eo36⟩ := Kd.R_slice HO_6.out
                subst eo36
                go_wp2_with (first | (go_at_call 15; (with_reducible refine (flailref01_Decimal.calls k1 (wrap64 (a1)) t261 _ A17.out).mono ?_); rintro e w37 ⟨rfl, hb⟩; have n0_ := Aside0.mk (Kd.R_below (by (with_reducible repeat (first | apply Kd.R_alloc | apply Kd.R_drewN | apply Kd.R_drew)); exact HO_6.out) hb); have n1_ := Aside0.mk (below_step (by repeat (first | (with_reducible first | exact HB.out | apply below_alloc | apply pw_below_drewN | apply below_drew1) | exact HB.out)) hb); clear HO_6; clear HB; have HO_6 := n0_; have HB := n1_; clear n0_ n1_; (try clear hb); (try clear hb2); (try clear hk); (try clear hi)) | (go_at_call 13; (with_reducible refine (attrs_Read.calls (((⟨#[97, 61, 39, 38, 35]⟩ : ByteArray) ++ t261) ++ (⟨#[39, 62]⟩ : ByteArray)) 0 t262 t263 t264 t265 _ ?side1 A20.out).mono ?_); (case side1 => first | (with_reducible exact HG.out) | exact Gl.below HG.out (by repeat (first | (with_reducible first | exact HB.out | apply below_alloc | apply pw_below_drewN | apply below_drew1) | exact HB.out)) | exact HG.out); rintro e w38 ⟨v266, rfl, ho0, hb⟩; have n0_ := Aside0.mk (Kd.R_elder' (by (with_reducible repeat (first | apply Kd.R_alloc | apply Kd.R_drewN | apply Kd.R_drew)); exact HO_6.out) (Kd.R_base ho0) hb); have n1_ := Aside0.mk (Kd.R_lower (Kd.R_new' ho0 (Kd.R_lt (by (with_reducible repeat (first | apply Kd.R_alloc | apply Kd.R_drewN | apply Kd.R_drew)); exact HO_6.out))) (below_size (by repeat (first | (with_reducible first | exact HB.out | apply below_alloc | apply pw_below_drewN | apply below_drew1) | exact HB.out)))); have n2_ := Aside0.mk (below_step (by repeat (first | (with_reducible first | exact HB.out | apply below_alloc | apply pw_below_drewN | apply below_drew1) | exact HB.out)) hb); clear HO_6; clear HB; have HO_6 := n0_; have HO267 := n1_; have HB := n2_; clear n0_ n1_ n2_; (try clear hb); (try clear hb2); (try clear hk); (try clear hi); (try clear ho0)))
                repeat (go_quiet (first | (go_at_call 15; (with_reducible refine (flailref01_Decimal.calls k1 (wrap64 (a1)) t261 _ A17.out).mono ?_); rintro e w37 ⟨rfl, hb⟩; have n0_ := Aside0.mk (Kd.R_below (by (with_reducible repeat (first | apply Kd.R_alloc | apply Kd.R_drewN | apply Kd.R_drew)); exact HO_6.out) hb); have n1_ := Aside0.mk (below_step (by repeat (first | (with_reducible first | exact HB.out | apply below_alloc | apply pw_below_drewN | apply below_drew1) | exact HB.out)) hb); clear HO_6; clear HB; have HO_6 := n0_; have HB := n1_; clear n0_ n1_; (try clear hb); (try clear hb2); (try clear hk); (try clear hi)) | (go_at_call 13; (with_reducible refine (attrs_Read.calls (((⟨#[97, 61, 39, 38, 35]⟩ : ByteArray) ++ t261) ++ (⟨#[39, 62]⟩ : ByteArray)) 0 t262 t263 t264 t265 _ ?side1 A20.out).mono ?_); (case side1 => first | (with_reducible exact HG.out) | exact Gl.below HG.out (by repeat (first | (with_reducible first | exact HB.out | apply below_alloc | apply pw_below_drewN | apply below_drew1) | exact HB.out)) | exact HG.out); rintro e w38 ⟨v266, rfl, ho0, hb⟩; have n0_ := Aside0.mk (Kd.R_elder' (by (with_reducible repeat (first | apply Kd.R_alloc | apply Kd.R_drewN | apply Kd.R_drew)); exact HO_6.out) (Kd.R_base ho0) hb); have n1_ := Aside0.mk (Kd.R_lower (Kd.R_new' ho0 (Kd.R_lt (by (with_reducible repeat (first | apply Kd.R_alloc | apply Kd.R_drewN | apply Kd.R_drew)); exact HO_6.out))) (below_size (by repeat (first | (with_reducible first | exact HB.out | apply below_alloc | apply pw_below_drewN | apply below_drew1) | exact HB.out)))); have n2_ := Aside0.mk (below_step (by repeat (first | (with_reducible first | exact HB.out | apply below_alloc | apply pw_below_drewN | apply below_drew1) | exact HB.out)) hb); clear HO_6; clear HB; have HO_6 := n0_; have HO267 := n1_; have HB := n2_; clear n0_ n1_ n2_; (try clear hb); (try clear hb2); (try clear hk); (try clear hi); (try clear ho0))); try go_wp2_with (first | (go_at_call 15; (with_reducible refine (flailref01_Decimal.calls k1 (wrap64 (a1)) t261 _ A17.out).mono ?_); rintro e w37 ⟨rfl, hb⟩; have n0_ := Aside0.mk (Kd.R_below (by (with_reducible repeat (first | apply Kd.R_alloc | apply Kd.R_drewN | apply Kd.R_drew)); exact HO_6.out) hb); have n1_ := Aside0.mk (below_step (by repeat (first | (with_reducible first | exact HB.out | apply below_alloc | apply pw_below_drewN | apply below_drew1) | exact HB.out)) hb); clear HO_6; clear HB; have HO_6 := n0_; have HB := n1_; clear n0_ n1_; (try clear hb); (try clear hb2); (try clear hk); (try clear hi)) | (go_at_call 13; (with_reducible refine (attrs_Read.calls (((⟨#[97, 61, 39, 38, 35]⟩ : ByteArray) ++ t261) ++ (⟨#[39, 62]⟩ : ByteArray)) 0 t262 t263 t264 t265 _ ?side1 A20.out).mono ?_); (case side1 => first | (with_reducible exact HG.out) | exact Gl.below HG.out (by repeat (first | (with_reducible first | exact HB.out | apply below_alloc | apply pw_below_drewN | apply below_drew1) | exact HB.out)) | exact HG.out); rintro e w38 ⟨v266, rfl, ho0, hb⟩; have n0_ := Aside0.mk (Kd.R_elder' (by (with_reducible repeat (first | apply Kd.R_alloc | apply Kd.R_drewN | apply Kd.R_drew)); exact HO_6.out) (Kd.R_base ho0) hb); have n1_ := Aside0.mk (Kd.R_lower (Kd.R_new' ho0 (Kd.R_lt (by (with_reducible repeat (first | apply Kd.R_alloc | apply Kd.R_drewN | apply Kd.R_drew)); exact HO_6.out))) (below_size (by repeat (first | (with_reducible first | exact HB.out | apply below_alloc | apply pw_below_drewN | apply below_drew1) | exact HB.out)))); have n2_ := Aside0.mk (below_step (by repeat (first | (with_reducible first | exact HB.out | apply below_alloc | apply pw_below_drewN | apply below_drew1) | exact HB.out)) hb); clear HO_6; clear HB; have HO_6 := n0_; have HO267 := n1_; have HB := n2_; clear n0_ n1_ n2_; (try clear hb); (try clear hb2); (try clear hk); (try clear hi); (try clear ho0))))
                go_ret
                exact ⟨by first | rfl | (simp [errW_none, errW_some] <;> rfl) | (simp [*, errW_none, errW_some] <;> rfl), by repeat (first | (with_reducible first | exact HB.out | apply below_alloc | apply pw_below_drewN | apply below_drew1) | exact HB.out)⟩
            · rw [if_neg c19] at H
              exact absurd H (by simp)
          · rw [if_neg c18] at H
            exact absurd H (by simp)

/-- THE ONE PURE STATEMENT of flaillaw08_AttrsClean: yours. -/
def flaillaw08_AttrsClean.Pure : Prop := ∀ (a0 : ByteArray) (a1 : Int), a0.size ≤ 140737488351232 → (Lit.int .u32 a1).wf = true → ∃ k, flaillaw08_AttrsClean.f k a0 a1 = some true
theorem flaillaw08_AttrsClean.walk (P : flaillaw08_AttrsClean.Pure) (a0 : ByteArray) (a1 : Int) (w : World) (hG : Gl w) (w0 : a0.size ≤ 140737488351232) (w1 : (Lit.int .u32 a1).wf = true) :
    Calls Tryd.prog 7 #[.string a0, .int .u32 a1] w fun e w' => e = .returned (.bool true) ∧ Below w.heap.size w w' := by
  obtain ⟨k, h⟩ := P a0 a1 w0 w1
  refine (flaillaw08_AttrsClean.calls k a0 a1 true w hG h).mono ?_
  rintro e w' ⟨rfl, hd⟩
  exact ⟨rfl, hd⟩

end Go.Proofs.YtfhjfidkcdcjnaaDoor.Q

/- AttrsClean: the pure statement. -/
namespace Go.Proofs.YtfhjfidkcdcjnaaDoor.Pure
open Go Go.RowKit Go.Proofs.YtfhjfidkcdcjnaaDoor.Q Go.Proofs.YtfhjfidkcdcjnaaDoorW.PrintWords Go.Proofs.YtfhjfidkcdcjnaaDoorW.PrintLast Go.Proofs.YtfhjfidkcdcjnaaDoorW.PrintMore
set_option linter.unusedVariables false
set_option linter.unusedSimpArgs false

theorem big_le {n : Nat} (h : n < 4294967296) : n ≤ 9223372036854775807 := Nat.le_trans (Nat.le_of_lt h) (Nat.le_of_ble_eq_true rfl)
theorem decimal_ev : ∀ (f n : Nat), n < f → n < 4294967296 → Ev (fun k => flailref01_Decimal.f k (n : Int)) (Fl.ofL (Fl.digits n)) := by
  intro f
  induction f with
  | zero => intro n h; omega
  | succ f ih =>
    intro n hf hn
    have hone : strOfNums [wrap64 (48 + Int.tmod (n : Int) 10) % 256] = Fl.ofL [UInt8.ofNat (48 + n % 10)] := by
      have e1 : Int.tmod (n : Int) 10 = ((n % 10 : Nat) : Int) := by rw [Int.tmod_eq_emod_of_nonneg (by omega)]; rfl
      have e2 : wrap64 (48 + Int.tmod (n : Int) 10) % 256 = ((48 + n % 10 : Nat) : Int) := by
        rw [e1, Fl.wrap_in _ (by omega) (by omega)]; omega
      rw [e2]
      rfl
    by_cases hlt : n < 10
    · refine Ev.step (f := fun k => some (Fl.ofL (Fl.digits n))) (fun k => ?_) (Ev.now _)
      simp only [flailref01_Decimal.f, Option.bind_some]
      rw [if_pos (by omega), hone, Fl.digits_lt hlt, show n % 10 = n by omega]
    · have e3 : wrap64 (Int.tdiv (n : Int) 10) = ((n / 10 : Nat) : Int) := by
        have : Int.tdiv (n : Int) 10 = ((n / 10 : Nat) : Int) := by rw [Int.tdiv_eq_ediv_of_nonneg (by omega)]; rfl
        rw [this, Fl.wrap_in _ (by omega) (by omega)]
      have hl := Fl.digits_len (n / 10 + 1) (n / 10) (by omega) (by omega)
      refine Ev.step (f := fun k => (flailref01_Decimal.f k ((n / 10 : Nat) : Int)).bind fun t => if t.size + 1 ≤ 9223372036854775807 then some (t ++ Fl.ofL [UInt8.ofNat (48 + n % 10)]) else none) (fun k => ?_) ?_
      · simp only [flailref01_Decimal.f, Option.bind_some]
        rw [if_neg (by omega), hone, e3]
        rfl
      · refine Ev.bind (f := fun _ t => if t.size + 1 ≤ 9223372036854775807 then some (t ++ Fl.ofL [UInt8.ofNat (48 + n % 10)]) else none) (ih (n / 10) (by omega) (by omega)) ?_
        rw [if_pos (big_le (by rw [Fl.ofL_size]; omega))]
        refine Ev.congr (f := fun _ => some (Fl.ofL (Fl.digits n))) (fun k => ?_) (Ev.now _)
        congr 1
        apply Fl.toL_inj
        rw [Fl.digits_ge hlt]
        unfold Fl.toL
        rw [ByteArray.data_append, Array.toList_append]; rfl
theorem clean_l1 (n : Int) (l : List S27) (i : Int) (s : ByteArray) (hs : s.size < 2147483648) (h0 : ∀ d ∈ Fl.toL s, d ≠ 0) (r : Bool) (next : Ev (fun k => flaillaw08_AttrsClean.l0 k n true l (wrap64 (i + 1))) r) :
    ∀ (d j : Nat), j + d = s.size → Ev (fun k => flaillaw08_AttrsClean.l1 k n true l i s (j : Int)) r := by
  intro d
  induction d with
  | zero =>
    intro j hj
    refine Ev.step (f := fun k => flaillaw08_AttrsClean.l0 k n true l (wrap64 (i + 1))) (fun k => ?_) next
    simp only [flaillaw08_AttrsClean.l1]
    rw [if_neg (by omega)]
  | succ d ih =>
    intro j hj
    refine Ev.step (f := fun k => flaillaw08_AttrsClean.l1 k n true l i s ((j + 1 : Nat) : Int)) (fun k => ?_) (ih (j + 1) (by omega))
    have hb := bt_toL s j (by omega)
    have hne : ¬ bt s (j : Int) = 0 := by
      rw [hb]
      intro e
      refine h0 ((Fl.toL s)[j]'(by rw [Fl.toL_length]; omega)) (List.getElem_mem _) (UInt8.toNat_inj.1 ?_)
      have : (0 : UInt8).toNat = 0 := rfl
      omega
    simp only [flaillaw08_AttrsClean.l1]
    rw [if_pos (by omega), if_pos (by omega), if_neg hne, Fl.wrap_in _ (by omega) (by omega)]
    rfl
theorem toL_app (a b : ByteArray) : Fl.toL (a ++ b) = Fl.toL a ++ Fl.toL b := by
  unfold Fl.toL
  rw [ByteArray.data_append, Array.toList_append]
theorem clean_l0 (n : Int) (l : List Fl.Att) (hl : l.length < 2147483648) (hb : ∀ a ∈ l, a.1.length < 1073741823 ∧ a.2.length < 1073741823) (hg : Fl.Good l) (r : Bool) (next : Ev (fun k => flaillaw08_AttrsClean.l0 k n true (l.map toS) ((l.length : Nat) : Int)) r) :
    ∀ (d i : Nat), i + d = l.length → Ev (fun k => flaillaw08_AttrsClean.l0 k n true (l.map toS) (i : Int)) r := by
  intro d
  induction d with
  | zero =>
    intro i hi
    rw [show i = l.length by omega]; exact next
  | succ d ih =>
    intro i hi
    have hil : i < l.length := by omega
    have hbb := hb l[i] (List.getElem_mem _)
    have hsz : ((toS l[i]).f0 ++ (toS l[i]).f1).size = l[i].1.length + l[i].2.length := by rw [ByteArray.size_append]; rfl
    have h1 := clean_l1 n (l.map toS) (i : Int) ((toS l[i]).f0 ++ (toS l[i]).f1) (by omega) (by
      intro d hd
      rw [toL_app] at hd
      rcases List.mem_append.1 hd with hd | hd
      · obtain ⟨c, t, e, hc, ht⟩ := hg.names l[i] (List.getElem_mem _)
        have hd' : d ∈ l[i].1 := hd
        have hok : Fl.okc d = true := by
          rw [e] at hd'
          rcases List.mem_cons.1 hd' with rfl | hd'
          · exact hc
          · exact (ht d hd').1
        intro e0; rw [e0] at hok; exact absurd hok (by decide)
      · exact hg.vals l[i] (List.getElem_mem _) d hd) r (by
      rw [Fl.wrap_in _ (by omega) (by omega)]; exact ih (i + 1) (by omega)) _ 0 (Nat.zero_add _)
    refine Ev.step (f := fun k => flaillaw08_AttrsClean.l1 k n true (l.map toS) (i : Int) ((toS l[i]).f0 ++ (toS l[i]).f1) 0) (fun k => ?_) h1
    simp only [flaillaw08_AttrsClean.l0, rd_map l i hil]
    rw [if_pos (by rw [List.length_map]; omega), if_pos (by omega), if_pos (big_le (by rw [ByteArray.size_append] at hsz; omega))]
theorem clean_end (n : Nat) (hn : n < 4294967296) (l : List S27) : Ev (fun k => flaillaw08_AttrsClean.l0 k (n : Int) true l ((l.length : Nat) : Int)) true := by
  have hl := Fl.digits_len (n + 1) n (by omega) hn
  have hw : wrap64 (n : Int) = (n : Int) := Fl.wrap_in _ (by omega) (by omega)
  obtain ⟨T, hT⟩ : ∃ T, ((⟨#[97, 61, 39, 38, 35]⟩ : ByteArray) ++ Fl.ofL (Fl.digits n)) ++ (⟨#[39, 62]⟩ : ByteArray) = T := ⟨_, rfl⟩
  have hTl : Fl.toL T = 97 :: ([] : Fl.Bs) ++ 61 :: 39 :: (38 :: 35 :: Fl.digits n) ++ 39 :: [62] := by
    rw [← hT, toL_app, toL_app]; rfl
  have hTs : T.size < 268435456 := by
    have := congrArg List.length hTl
    rw [Fl.toL_length] at this; simp at this; omega
  have hno39 : (38 :: 35 :: Fl.digits n).count 39 = 0 := by
    rw [List.count_eq_zero]
    intro hm
    rcases List.mem_cons.1 hm with h | hm
    · exact absurd h (by decide)
    · rcases List.mem_cons.1 hm with h | hm
      · exact absurd h (by decide)
      · have := Fl.digits_dig (n + 1) n (by omega) 39 hm
        exact absurd this (by decide)
  have hrd : Fl.readL (Fl.toL T) = some ([([97], Fl.toL (Q.fixB (n : Int)))], false, []) := by
    have h1 := Fl.readN_quoted ((Fl.toL T).length) [] (38 :: 35 :: Fl.digits n) [62] 39 97 [] (by decide) (by simp) (Or.inr rfl) hno39
    unfold Fl.readL
    rw [← hTl] at h1
    rw [h1, Fl.decode_number n hn, Fl.fixB_top, Fl.clean_none (Fl.fixB_no0 _)]
    obtain ⟨m, hm⟩ : ∃ m, (Fl.toL T).length = m + 1 := ⟨(Fl.toL T).length - 1, by rw [hTl]; simp⟩
    rw [hm, show Fl.clean (Fl.lower [97]) = [97] from by decide]
    rfl
  have hread := read_some hTs hrd
  have hfix : number_Fix.f (n : Int) = some (Q.fixB (n : Int)) := by
    unfold number_Fix.f; rw [if_pos (by omega)]
  have hsame := same_ev ([([97], Fl.toL (Q.fixB (n : Int)))].map toS) (by simp)
  refine Ev.step (f := fun k => (flailref01_Decimal.f k (n : Int)).bind fun t => if 5 + t.size ≤ 9223372036854775807 then (if ((⟨#[97, 61, 39, 38, 35]⟩ : ByteArray) ++ t).size + 2 ≤ 9223372036854775807 then ((attrs_Read.f (((⟨#[97, 61, 39, 38, 35]⟩ : ByteArray) ++ t) ++ (⟨#[39, 62]⟩ : ByteArray)) 0).bind fun bt262 => (if true = true then (if bt262.2.2.2 = true then ((number_Fix.f (n : Int)).bind fun t268 => ((flailref08_Same.f k bt262.1 (([(⟨(⟨#[97]⟩ : ByteArray), t268⟩ : S27)] : List (S27)))).bind fun t272 => (some t272))) else (some false)) else (some false))) else (none)) else (none)) (fun k => ?_) ?_
  · simp only [flaillaw08_AttrsClean.l0]
    rw [if_neg (by omega), hw]
  · refine Ev.bind (f := fun k t => if 5 + t.size ≤ 9223372036854775807 then (if ((⟨#[97, 61, 39, 38, 35]⟩ : ByteArray) ++ t).size + 2 ≤ 9223372036854775807 then ((attrs_Read.f (((⟨#[97, 61, 39, 38, 35]⟩ : ByteArray) ++ t) ++ (⟨#[39, 62]⟩ : ByteArray)) 0).bind fun bt262 => (if true = true then (if bt262.2.2.2 = true then ((number_Fix.f (n : Int)).bind fun t268 => ((flailref08_Same.f k bt262.1 (([(⟨(⟨#[97]⟩ : ByteArray), t268⟩ : S27)] : List (S27)))).bind fun t272 => (some t272))) else (some false)) else (some false))) else (none)) else (none)) (decimal_ev (n + 1) n (by omega) hn) ?_
    refine Ev.congr (fun k => ?_) (Ev.bind (f := fun _ t => some t) hsame (Ev.now true))
    have hsz2 : ((⟨#[97, 61, 39, 38, 35]⟩ : ByteArray) ++ Fl.ofL (Fl.digits n)).size = 5 + (Fl.digits n).length := by rw [ByteArray.size_append, Fl.ofL_size]; rfl
    rw [if_pos (big_le (by rw [Fl.ofL_size]; omega)), if_pos (big_le (by rw [hsz2]; omega)), hT, hread, hfix]
    simp only [Option.bind_some, if_true]
    rfl
theorem AttrsClean : flaillaw08_AttrsClean.Pure := by
  intro s n _ hwf
  have hn : 0 ≤ n ∧ n < 4294967296 := by simp [Lit.wf, show IntKind.u32.min = 0 from rfl, show IntKind.u32.max = 4294967295 from rfl] at hwf; omega
  obtain ⟨N, rfl⟩ : ∃ N : Nat, n = N := ⟨n.toNat, by omega⟩
  apply Ev.rounds
  unfold flaillaw08_AttrsClean.f
  refine Ev.bind awake_ev ?_
  by_cases hs : (s.size : Int) > 300
  · simp only [if_pos hs]; exact Ev.now true
  · simp only [if_neg hs]
    cases hr : Fl.readL (Fl.toL s) with
    | none =>
      rw [read_none (by omega) hr]
      simp only [Option.bind_some]
      exact clean_end N (by omega) []
    | some x =>
      obtain ⟨l, b, r⟩ := x
      rw [read_some (by omega) hr]
      simp only [Option.bind_some]
      have hcount := Fl.readL_count hr
      rw [Fl.toL_length] at hcount
      have hb : ∀ a ∈ l, a.1.length < 1073741823 ∧ a.2.length < 1073741823 := fun a ha => by
        have h1 := Fl.readL_short hr a ha
        have h2 := Fl.readL_vshort hr a ha
        rw [Fl.toL_length] at h1 h2; omega
      have := clean_end N (by omega) (l.map toS)
      rw [List.length_map] at this
      exact clean_l0 (N : Int) l (by omega) hb (Fl.readL_good hr) true this l.length 0 (by omega)
end Go.Proofs.YtfhjfidkcdcjnaaDoor.Pure

/- The law AttrsClean: its row and its card. -/
namespace Go.Proofs.YtfhjfidkcdcjnaaDoor.attrsClean
open Go.ChangeShapes Go.WideShapes Go.ChangeAt Go.RowKit
open Go.ChangeMaps (open_string shut_string)
set_option linter.unusedVariables false
set_option maxRecDepth 100000 in
theorem lifted (os : Os) (started : os.Started) (H : Type) (enc : TypeId × Value → H) :
    ReturnsInHanded {} Tryd.checked os 7 .any (fun w args => (Rows.attrsCleanSpec.pre enc Tryd.prog Tryd.f7 Rows.attrsCleanRow.domain false w args ∧ laidMetH Tryd.prog laid7 w) ∧ sizedMet enc Tryd.prog Tryd.f7 (OpenSpec.ofChange Rows.attrsCleanSpec) false w args) (Rows.attrsCleanSpec.post enc Tryd.prog Tryd.f7 false true false false) := by
  refine row_returns started (by kernel_rfl) Tryd.func7 #[.string ByteArray.empty, .int .u32 0] (by kernel_rfl) (by kernel_rfl) (by kernel_rfl) ?_
  intro W base args ds gs before hval0 hW hsz0 hG
  have hsz : (DataW.weightsEach Tryd.prog (Tryd.f7.params.toList ++ Rows.attrsCleanSpec.plain.varTypes Tryd.prog) (ds ++ gs)).all (· ≤ reachBytes) = true := hsz0
  have hval : ∀ (j : Nat) t v, Tryd.f7.params[j]? = some t → args[j]? = some v → Value.okWide Tryd.prog W .any base t v := hval0
  have hW' := hW
  obtain ⟨p, q, hA0, hV, rfl, hfz, hnd⟩ := hW
  have hA : DataW.TrodAll enc Tryd.prog W 0 (fun _ => true) true Tryd.f7.params.toList args.toList ds p := hA0
  rw [Tryd.params7] at hA hval hsz
  obtain ⟨v0, vs0, d0, ds0, p0, q0, hargs, rfl, rfl, h0, r0⟩ := trodAll_cons hA
  obtain ⟨v1, vs1, d1, ds1, p1, q1, rfl, rfl, rfl, h1, r1⟩ := trodAll_cons r0
  obtain ⟨rfl, rfl, rfl⟩ := trodAll_nil r1
  obtain rfl : args = #[v0, v1] := by cases args; simp_all
  obtain ⟨rfl, rfl⟩ := trodVars_none hV
  obtain ⟨a0, rfl, rfl, rfl, y0⟩ := open_string Tryd.underlying9 (hval 0 9 v0 rfl rfl) h0
  have w0 : a0.size ≤ 140737488351232 := by
    have z := sized_string hsz (j := 0) (t := 9) rfl rfl
    rw [Array.length_toList] at z
    exact z
  obtain ⟨a1, rfl, rfl, rfl, w1⟩ := open_int Tryd.underlying34 (hval 1 34 v1 rfl rfl) h1
  clear hA0 hval0 hsz0 hsz
  refine (Q.flaillaw08_AttrsClean.walk Pure.AttrsClean a0 a1 W hG w0 w1).mono fun e W' ⟨he, bel⟩ => ?_
  subst he
  exact ⟨_, rfl, _, _, _, [], _, [], hW', trodAll_mk1 (shut_bool Tryd.underlying4 _), (trodAll_cons_mk (shut_string Tryd.underlying9 y0) (trodAll_cons_mk (shut_int Tryd.underlying34 w1) trodAll_mk0)), rfl, bel.frame _, fun h => by cases h⟩
theorem over : Rows.attrsCleanRow.holds Tryd.pinned (OpenSpec.ofChange Rows.attrsCleanSpec) :=
  OpenClaim.holds_of_wide 7 Tryd.f7 rfl rfl rfl rfl rfl rfl rfl ⟨rfl, rfl, rfl, rfl, rfl⟩ rfl rfl rfl rfl rfl (by kernel_rfl) Tryd.func7 (by kernel_rfl)
    (of_decide_eq_true (by kernel_rfl)) (by unfold Func.isWrapper; first | (rw [if_pos (by decide +kernel)]; kernel_rfl) | (rw [if_neg (by decide +kernel)]; exact ⟨rfl, rfl⟩))
    (fun os started H enc _ => lifted os started H enc)
theorem proved : Rows.AttrsCleanCardSaid :=
  Claim7.holds_tied_plain_at .later [] [.data, .data, .data, .data, .sentinel, .sentinel, .pinned] true Rows.attrsCleanCard.stood.harness true over (fun _ h => by cases h) (by kernel_rfl) (fun _ h => by cases h) attrsClean_row_tie rfl ⟨rfl, rfl⟩ (by kernel_rfl) rfl
    (card_in 7 Tryd.func7 (by kernel_rfl) [9, 34] Tryd.params7 (by kernel_rfl) (by kernel_rfl)) (by kernel_rfl)
end Go.Proofs.YtfhjfidkcdcjnaaDoor.attrsClean
namespace Go.Proofs.YtfhjfidkcdcjnaaDoor
theorem attrsClean_holds : Rows.AttrsCleanCardSaid := attrsClean.proved
#print axioms attrsClean_holds
end Go.Proofs.YtfhjfidkcdcjnaaDoor
