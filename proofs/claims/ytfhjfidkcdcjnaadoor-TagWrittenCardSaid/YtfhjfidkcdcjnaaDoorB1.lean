/- The law TagWritten, proved whole (for every input, as the given card says; no condition beyond it): its row and its card, and what they lean on. -/
import Derived.Lib.Bytealg
import Derived.Lib.LastIndexByte
import Derived.Lib.SlicesS
import Derived.Below
import Derived.Deep.Draws
import Derived.Test.YtfhjfidkcdcjnaaDoorProg
import Derived.Deep.AppendLies
import Derived.Maps.AppendAt
import Derived.OwnWalk
import Derived.Laws.BytesArg
import Derived.Laws.MakeOwn
import Derived.Laws.OwnMore
import Derived.Deep.OwnRows
import Derived.Tactics
import Derived.Lib.ConvBytes
import Derived.Laws.Slices
import Derived.WalkKit
import Derived.KernelRfl
import Derived.RowKit3
import Derived.Deep.LoopGhost
import Derived.Deep.QuietTactic
import Derived.BigQuiet
import Derived.WideLaws
import Derived.Deep.DeepCutAuto
import Derived.Deep.CutBlock
import Derived.Deep.RegionHeld3
import Derived.Laws.Rows
import Derived.Lib.AppendStr
import Derived.ArgAppend
import Derived.Laws.IdiomCopy
import Derived.OrdersHeld
import Derived.Laws.BitsLemmas
import Derived.RowKit
import Derived.Test.YtfhjfidkcdcjnaaDoorWWords
import Derived.Test.YtfhjfidkcdcjnaaDoorWLast
import Derived.Test.YtfhjfidkcdcjnaaDoorWTab
import Derived.Test.YtfhjfidkcdcjnaaDoorWFour
import Derived.Test.YtfhjfidkcdcjnaaDoorWQPut
import Derived.Test.YtfhjfidkcdcjnaaDoorWApart
import Derived.Test.YtfhjfidkcdcjnaaDoorWArr
import Derived.Test.YtfhjfidkcdcjnaaDoorWZeros
import Derived.Test.YtfhjfidkcdcjnaaDoorWFoot
import Derived.Test.YtfhjfidkcdcjnaaDoorWKept
import Derived.Test.YtfhjfidkcdcjnaaDoorWShare
import Derived.Test.YtfhjfidkcdcjnaaDoorWN
import Derived.Test.YtfhjfidkcdcjnaaDoorWFootNe
import Derived.Test.YtfhjfidkcdcjnaaDoorWAt
import Derived.Test.YtfhjfidkcdcjnaaDoorWEqStruct
import Derived.Test.YtfhjfidkcdcjnaaDoorWRepsOne
import Derived.Test.YtfhjfidkcdcjnaaDoorWInv
import Derived.Test.YtfhjfidkcdcjnaaDoorWInvWords
import Derived.Test.YtfhjfidkcdcjnaaDoorWGuard
import Derived.Test.YtfhjfidkcdcjnaaDoorWNEv
import Derived.Test.YtfhjfidkcdcjnaaDoorWMore
import Derived.Shelf.Strings.Builder1
import Derived.Shelf.Strings.Builder2
import Derived.Shelf.Small.Strs
import Derived.Shelf.Strings.BuilderF
import Derived.Shelf.Strings.BuilderK
import Derived.Shelf.LaysM
import Derived.Shelf.Strconv.Clone
import Derived.Shelf.Strconv.SyntaxError
import Derived.Shelf.LaysC
import Derived.Shelf.Strconv.ToError
import Derived.Shelf.Strconv.Lower
import Derived.Shelf.Strconv.ParseUint10b32
import Derived.Shelf.Strings.Search1
import Derived.Shelf.Strings.Search2
import Derived.Shelf.Strings.Search3
import Derived.Shelf.Strings.Cut
import Derived.Shelf.Strings.Count
import Derived.Shelf.Strings.Shaped
import Derived.Shelf.Strings.LastIndex
import Derived.Shelf.Strings.Prefix
import Derived.Shelf.Strings.Split
import Derived.Shelf.Strings.Replace
import Derived.Shelf.Strings.SplitShaped
import Derived.Shelf.Unicode.Decode
import Derived.Shelf.Strings.RuneCount
import Derived.Shelf.Unicode.DecodeSlow
import Derived.Scope
import Derived.ScopeJumps
import Derived.Lib.Hide
import Derived.WalkMore
import Derived.WalkLawsBesides
import Derived.Laws.FloatArith
import Derived.Laws.ComplexArith
import Derived.Laws.Cover2
import Derived.Laws.Cover3
import Derived.Laws.Runes
import Derived.Laws.ResultCell
import Derived.Deep.WholeRow
set_option linter.unusedVariables false
set_option linter.unusedSimpArgs false
set_option linter.unusedSectionVars false

/- The plain functions on lists of bytes that the program's functions come to: signs, names, what is cleaned. No program in sight. -/
namespace Go.Proofs.YtfhjfidkcdcjnaaDoor.Fl

abbrev Bs := List UInt8
def toL (s : ByteArray) : Bs := s.data.toList
def ofL (l : Bs) : ByteArray := ⟨l.toArray⟩
@[simp] theorem toL_ofL (l : Bs) : toL (ofL l) = l := rfl
@[simp] theorem ofL_toL (s : ByteArray) : ofL (toL s) = s := rfl
theorem toL_inj {a b : ByteArray} (h : toL a = toL b) : a = b := by rw [← ofL_toL a, h, ofL_toL]
@[simp] theorem toL_length (s : ByteArray) : (toL s).length = s.size := Array.length_toList
@[simp] theorem ofL_size (l : Bs) : (ofL l).size = l.length := rfl

theorem byteAll (p : UInt8 → Bool) (h : (List.range 256).all (fun n => p (UInt8.ofNat n)) = true) (c : UInt8) : p c = true := by
  rw [List.all_eq_true] at h
  have := h c.toNat (List.mem_range.2 c.toNat_lt)
  rwa [UInt8.ofNat_toNat] at this

def lw (c : UInt8) : UInt8 := if 65 ≤ c.toNat ∧ c.toNat ≤ 90 then UInt8.ofNat (c.toNat + 32) else c
def lower (l : Bs) : Bs := l.map lw
def bad : Bs := [239, 191, 189]
def clean : Bs → Bs
  | [] => []
  | c :: l => if c = 0 then bad ++ clean l else c :: clean l

end Go.Proofs.YtfhjfidkcdcjnaaDoor.Fl

/- Where a byte stands first, and last. -/
namespace Go.Proofs.YtfhjfidkcdcjnaaDoor.Fl
open Go

theorem indexByte_lt (l : Bs) (c : UInt8) : -1 ≤ Lib.indexByte l c ∧ Lib.indexByte l c < l.length := by
  induction l with
  | nil => exact ⟨by simp [Lib.indexByte], by simp [Lib.indexByte]⟩
  | cons b l ih =>
    simp only [Lib.indexByte, List.length_cons]
    split
    · omega
    · split
      · omega
      · rename_i h; have : Lib.indexByte l c ≠ -1 := by simpa using h
        omega
theorem indexByte_at (l : Bs) (c : UInt8) (j : Nat) (h : Lib.indexByte l c = j) : l[j]? = some c := by
  induction l generalizing j with
  | nil => simp [Lib.indexByte] at h
  | cons b l ih =>
    simp only [Lib.indexByte] at h
    split at h
    · rename_i hb
      obtain rfl : j = 0 := by omega
      have : b = c := by simpa using hb
      simp [this]
    · split at h
      · omega
      · obtain ⟨i, rfl⟩ : ∃ i, j = i + 1 := ⟨j - 1, by
          rename_i h2
          have := indexByte_lt l c
          have : Lib.indexByte l c ≠ -1 := by simpa using h2
          omega⟩
        simpa using ih i (by omega)
theorem extract_toL (s : ByteArray) (a b : Nat) : toL (s.extract a b) = ((toL s).drop a).take (b - a) := Lib.extract_data s a b

/-- A line's begin and end. -/
def lnFrom (t : ByteArray) (i : Nat) : Nat := (Lib.lastIndexByte (t.extract 0 i) 10 + 1).toNat
def lnTo (t : ByteArray) (a : Nat) : Nat := if Lib.indexByte (toL (t.extract a t.size)) 10 < 0 then t.size else a + (Lib.indexByte (toL (t.extract a t.size)) 10).toNat
theorem size_extract (s : ByteArray) (a b : Nat) (h : b ≤ s.size) : (s.extract a b).size = b - a := by rw [ByteArray.size_extract]; omega
theorem lnFrom_le (t : ByteArray) (i : Nat) (hi : i ≤ t.size) : lnFrom t i ≤ i ∧ -1 ≤ Lib.lastIndexByte (t.extract 0 i) 10 := by
  unfold lnFrom
  have hs := size_extract t 0 i hi
  rcases Lib.lastIndexByte_spec (t.extract 0 i) 10 with ⟨e, _⟩ | ⟨k, hk, e, _⟩
  · rw [e]; exact ⟨by show 0 ≤ i; omega, by omega⟩
  · rw [e]; omega
theorem lnTo_range (t : ByteArray) (a : Nat) (ha : a ≤ t.size) : a ≤ lnTo t a ∧ lnTo t a ≤ t.size := by
  unfold lnTo
  have hb := indexByte_lt (toL (t.extract a t.size)) 10
  rw [toL_length, size_extract t a _ (Nat.le_refl _)] at hb
  split <;> omega
theorem data_get (s : ByteArray) (j : Nat) (h : j < s.size) : (toL s)[j]? = some (s.data[j]!) := by
  have h' : j < s.data.size := h
  rw [toL, Array.getElem?_toList, Array.getElem?_eq_getElem h', getElem!_pos s.data j h']
/-- The byte at which one begins lies within the line. -/
theorem lnTo_ge (t : ByteArray) (i : Nat) (hi : i ≤ t.size) : i ≤ lnTo t (lnFrom t i) := by
  have ⟨h1, h2⟩ := lnFrom_le t i hi
  have h3 := lnTo_range t (lnFrom t i) (by omega)
  unfold lnTo
  split
  · exact hi
  · rename_i hj
    have hb := indexByte_lt (toL (t.extract (lnFrom t i) t.size)) 10
    obtain ⟨j, hjj⟩ : ∃ j : Nat, Lib.indexByte (toL (t.extract (lnFrom t i) t.size)) 10 = j := ⟨(Lib.indexByte (toL (t.extract (lnFrom t i) t.size)) 10).toNat, by omega⟩
    have hat := indexByte_at _ _ _ hjj
    rw [hjj]
    rcases Nat.lt_or_ge (lnFrom t i + j) i with hlt | hge
    · exfalso
      have hs := size_extract t 0 i hi
      have key : ((t.extract 0 i).data[lnFrom t i + j]!).toNat = 10 := by
        have e1 := data_get (t.extract 0 i) (lnFrom t i + j) (by rw [hs]; omega)
        rw [extract_toL, List.drop_zero, Nat.sub_zero, List.getElem?_take_of_lt hlt] at e1
        have hl : lnFrom t i + j < t.size := by omega
        rw [extract_toL, List.getElem?_take_of_lt (show j < t.size - lnFrom t i by omega), List.getElem?_drop, e1] at hat
        have := Option.some.inj hat
        rw [this]; rfl
      rcases Lib.lastIndexByte_spec (t.extract 0 i) 10 with ⟨e, hn⟩ | ⟨k, hk, e, hc, hn⟩
      · exact hn (lnFrom t i + j) (by rw [hs]; omega) (by rw [key]; rfl)
      · have : lnFrom t i = k + 1 := by unfold lnFrom; rw [e]; omega
        exact hn (lnFrom t i + j) (by omega) (by rw [hs]; omega) (by rw [key]; rfl)
    · simpa using hge
end Go.Proofs.YtfhjfidkcdcjnaaDoor.Fl

/- Lines of a text: where they lie; what a search by halving finds among lines whose keys rise. -/
namespace Go.Proofs.YtfhjfidkcdcjnaaDoor.Fl
open Go

def joinL : List Bs → Bs
  | [] => []
  | [x] => x
  | x :: y :: r => x ++ 10 :: joinL (y :: r)
def linesA : Bs → List Bs → Bs → List Bs
  | cur, acc, [] => (cur.reverse :: acc).reverse
  | cur, acc, c :: l => if c.toNat = 10 then linesA [] (cur.reverse :: acc) l else linesA (c :: cur) acc l
theorem joinL_two (A : List Bs) (x y : Bs) : joinL (A ++ [x, y]) = joinL (A ++ [x ++ 10 :: y]) := by
  induction A with
  | nil => rfl
  | cons a A ih =>
    cases A with
    | nil => rfl
    | cons b A => simp only [List.cons_append, joinL] at ih ⊢; rw [ih]
theorem joinL_linesA (l : Bs) : ∀ (cur : Bs) (acc : List Bs), joinL (linesA cur acc l) = joinL (acc.reverse ++ [cur.reverse ++ l]) := by
  induction l with
  | nil => intro cur acc; simp [linesA]
  | cons c l ih =>
    intro cur acc
    simp only [linesA]
    split
    · rename_i h
      have hc : c = 10 := UInt8.toNat_inj.1 h
      rw [ih, List.reverse_cons, List.append_assoc, List.reverse_nil, List.nil_append]
      rw [show [cur.reverse] ++ [l] = [cur.reverse, l] from rfl, joinL_two, hc]
    · rw [ih]; simp
theorem joinL_lines (l : Bs) : joinL (linesA [] [] l) = l := by rw [joinL_linesA]; rfl

def keyOf (l : Bs) : Bs := l.takeWhile fun c => c.toNat != 32
def restOf (l : Bs) : Bs := (l.dropWhile fun c => c.toNat != 32).drop 1
/-- Where line k begins. -/
def off (ls : List Bs) (k : Nat) : Nat := ((ls.take k).map fun x => x.length + 1).sum
theorem off_zero (ls : List Bs) : off ls 0 = 0 := rfl
theorem off_succ (ls : List Bs) (k : Nat) (h : k < ls.length) : off ls (k + 1) = off ls k + ls[k].length + 1 := by
  unfold off
  rw [List.take_succ_eq_append_getElem h, List.map_append, List.sum_append]; simp; omega
theorem off_cons (x : Bs) (ls : List Bs) (k : Nat) : off (x :: ls) (k + 1) = x.length + 1 + off ls k := by simp [off]
theorem joinL_drop (ls : List Bs) : ∀ k, k < ls.length → (joinL ls).drop (off ls k) = joinL (ls.drop k) := by
  induction ls with
  | nil => intro k h; simp at h
  | cons x ls ih =>
    intro k h
    cases k with
    | zero => rfl
    | succ k =>
      have h' : k < ls.length := by simpa using h
      cases ls with
      | nil => simp at h'
      | cons y ls =>
        rw [off_cons, List.drop_succ_cons, ← ih k h', ← List.drop_drop]
        congr 1
        simp only [joinL]
        rw [show x ++ 10 :: joinL (y :: ls) = (x ++ [10]) ++ joinL (y :: ls) from by simp, List.drop_left' (by simp)]
theorem joinL_length (ls : List Bs) (h : ls ≠ []) : (joinL ls).length + 1 = off ls ls.length := by
  induction ls with
  | nil => exact absurd rfl h
  | cons x ls ih =>
    cases ls with
    | nil => simp [joinL, off]
    | cons y ls =>
      have := ih (by simp)
      rw [show (x :: y :: ls).length = (y :: ls).length + 1 from rfl, off_cons]
      simp only [joinL, List.length_append, List.length_cons] at this ⊢
      omega
theorem off_mono (ls : List Bs) {a b : Nat} (h : a ≤ b) (hb : b ≤ ls.length) : off ls a ≤ off ls b := by
  induction b with
  | zero => have : a = 0 := by omega
            subst this; exact Nat.le_refl _
  | succ b ih =>
    rcases Nat.lt_or_ge b a with h1 | h1
    · have : a = b + 1 := by omega
      subst this; exact Nat.le_refl _
    · have := ih h1 (by omega)
      have := off_succ ls b (by omega)
      omega
/-- What stands from a line's begin on: the line, then nothing, or a line's end. -/
theorem joinL_at (ls : List Bs) (k : Nat) (h : k < ls.length) : ∃ r, (joinL ls).drop (off ls k) = ls[k] ++ r ∧ (r = [] ∧ k + 1 = ls.length ∨ ∃ r', r = 10 :: r') := by
  rw [joinL_drop ls k h, List.drop_eq_getElem_cons h]
  rcases hd : ls.drop (k + 1) with _ | ⟨y, r⟩
  · refine ⟨[], by simp [joinL], .inl ⟨rfl, ?_⟩⟩
    have := List.drop_eq_nil_iff.1 hd; omega
  · exact ⟨10 :: joinL (y :: r), rfl, .inr ⟨_, rfl⟩⟩

theorem indexByte_left {x : Bs} (r : Bs) (h : ∀ c ∈ x, c ≠ 10) : Lib.indexByte (x ++ 10 :: r) 10 = x.length := by
  induction x with
  | nil => simp [Lib.indexByte]
  | cons b x ih =>
    have hb : (b == 10) = false := by simpa using h b (by simp)
    have := ih (fun c hc => h c (by simp [hc]))
    simp only [List.cons_append, Lib.indexByte, hb, this, List.length_cons]
    have h2 : ((x.length : Int) == -1) = false := by rw [beq_eq_false_iff_ne]; omega
    simp [h2]
theorem indexByte_not {x : Bs} (h : ∀ c ∈ x, c ≠ 10) : Lib.indexByte x 10 = -1 := by
  induction x with
  | nil => rfl
  | cons b x ih =>
    have hb : (b == 10) = false := by simpa using h b (by simp)
    have := ih (fun c hc => h c (by simp [hc]))
    simp [Lib.indexByte, hb, this]

section
variable {t : ByteArray} {ls : List Bs} (ht : toL t = joinL ls) (h10 : ∀ x ∈ ls, ∀ c ∈ x, c ≠ 10)
include ht
theorem at_line (k : Nat) (hk : k < ls.length) (m : Nat) (hm : m < ls[k].length) : (toL t)[off ls k + m]? = some (ls[k][m]) := by
  obtain ⟨r, h, _⟩ := joinL_at ls k hk
  rw [ht, ← List.getElem?_drop, h, List.getElem?_append_left hm, List.getElem?_eq_getElem hm]
theorem at_end (k : Nat) (hk : k + 1 < ls.length) : (toL t)[off ls k + ls[k].length]? = some 10 := by
  obtain ⟨r, h, hr⟩ := joinL_at ls k (by omega)
  rcases hr with ⟨_, h1⟩ | ⟨r', rfl⟩
  · omega
  · rw [ht, ← List.getElem?_drop, h, List.getElem?_append_right (Nat.le_refl _)]; simp
theorem line_fits (k : Nat) (hk : k < ls.length) : off ls k + ls[k].length ≤ t.size := by
  obtain ⟨r, h, _⟩ := joinL_at ls k hk
  have h1 := congrArg List.length h
  rw [List.length_drop, List.length_append] at h1
  have h2 := congrArg List.length ht
  rw [toL_length] at h2
  have h3 := joinL_length ls (by intro e; simp [e] at hk)
  have h4 := off_mono ls (a := k) (b := ls.length) (by omega) (Nat.le_refl _)
  have h5 := off_mono ls (a := k + 1) (b := ls.length) (by omega) (Nat.le_refl _)
  have h6 := off_succ ls k hk
  omega
include h10
theorem lnTo_at (k : Nat) (hk : k < ls.length) : lnTo t (off ls k) = off ls k + ls[k].length := by
  obtain ⟨r, h, hr⟩ := joinL_at ls k hk
  have hf := line_fits ht k hk
  have e : toL (t.extract (off ls k) t.size) = ls[k] ++ r := by
    rw [extract_toL, ht, h]
    rw [List.take_of_length_le]
    have := congrArg List.length h
    rw [List.length_drop] at this
    have h2 := congrArg List.length ht
    rw [toL_length] at h2
    omega
  have hn := h10 ls[k] (List.getElem_mem hk)
  unfold lnTo
  rw [e]
  rcases hr with ⟨rfl, h1⟩ | ⟨r', rfl⟩
  · rw [List.append_nil, indexByte_not hn, if_pos (by decide)]
    have h3 := joinL_length ls (by intro e; simp [e] at hk)
    have h2 := congrArg List.length ht
    rw [toL_length] at h2
    have h6 := off_succ ls k hk
    rw [h1] at h6
    omega
  · rw [indexByte_left _ hn, if_neg (by omega)]; rfl
theorem lnFrom_at (k : Nat) (hk : k < ls.length) (i : Nat) (h1 : off ls k ≤ i) (h2 : i ≤ off ls k + ls[k].length) : lnFrom t i = off ls k := by
  have hf := line_fits ht k hk
  have hs := size_extract t 0 i (by omega)
  have hget : ∀ j, j < i → (toL t)[j]? = some ((t.extract 0 i).data[j]!) := by
    intro j hj
    rw [← data_get (t.extract 0 i) j (by rw [hs]; omega), extract_toL, List.drop_zero, Nat.sub_zero, List.getElem?_take_of_lt hj]
  have hno : ∀ j, off ls k ≤ j → j < i → ((t.extract 0 i).data[j]!).toNat ≠ 10 := by
    intro j hj1 hj2 hc
    have e := at_line ht k hk (j - off ls k) (by omega)
    rw [show off ls k + (j - off ls k) = j by omega, hget j hj2] at e
    have e2 := Option.some.inj e
    have := h10 ls[k] (List.getElem_mem hk) _ (List.getElem_mem (by omega : j - off ls k < ls[k].length))
    rw [← e2] at this
    exact this (UInt8.toNat_inj.1 hc)
  unfold lnFrom
  cases k with
  | zero =>
    rw [off_zero] at *
    rcases Lib.lastIndexByte_spec (t.extract 0 i) 10 with ⟨e, _⟩ | ⟨p, hp, e, hc, _⟩
    · rw [e]; rfl
    · rw [hs] at hp
      exact absurd (by omega) (hno p (by omega) (by omega))
  | succ k =>
    have h6 := off_succ ls k (by omega)
    have hend := at_end ht k (by omega)
    have hin : ((t.extract 0 i).data[off ls k + ls[k].length]!).toNat = 10 := by
      have := hget (off ls k + ls[k].length) (by omega)
      rw [hend] at this
      rw [← Option.some.inj this]; rfl
    rcases Lib.lastIndexByte_spec (t.extract 0 i) 10 with ⟨e, hn⟩ | ⟨p, hp, e, hc, hn⟩
    · exact absurd (by rw [hin]; rfl) (hn (off ls k + ls[k].length) (by rw [hs]; omega))
    · rw [hs] at hp hn
      rw [e]
      have hp1 : ¬ off ls (k + 1) ≤ p := fun hle => hno p hle (by omega) (by omega)
      have hp2 : ¬ p < off ls k + ls[k].length := fun hlt => hn (off ls k + ls[k].length) hlt (by omega) (by rw [hin]; rfl)
      omega
/-- Each place up to the text's end lies in a line (its end with it). -/
theorem in_line (i : Nat) : ∀ b a, a < b → b ≤ ls.length → off ls a ≤ i → i < off ls b → ∃ k, ∃ hk : k < ls.length, a ≤ k ∧ k < b ∧ off ls k ≤ i ∧ i ≤ off ls k + ls[k].length := by
  intro b
  induction b with
  | zero => intro a h; omega
  | succ b ih =>
    intro a hab hb h1 h2
    have h6 := off_succ ls b (by omega)
    rcases Nat.lt_or_ge i (off ls b) with h | h
    · rcases Nat.lt_or_ge a b with hlt | hge
      · obtain ⟨k, hk, h3, h4, h5⟩ := ih a hlt (by omega) h1 h
        exact ⟨k, hk, h3, by omega, h5⟩
      · have : a = b := by omega
        subst this; omega
    · exact ⟨b, by omega, by omega, by omega, h, by omega⟩
end
end Go.Proofs.YtfhjfidkcdcjnaaDoor.Fl

/- What the walks ask of the world: two of the library's variables can be read. -/
namespace Go.Proofs.YtfhjfidkcdcjnaaDoor.Q
open Go.RowKit

/-- 'bytealg.MaxLen' holds a number, 'strconv.ErrSyntax' an error (or nil). -/
structure Gl (w : World) : Prop where
  len : ∃ m : Int, w.cell? ⟨0, 0, none⟩ = some (.int .i64 m)
  err : ∃ ev : Value, w.cell? ⟨3, 0, none⟩ = some ev ∧ (ev = .nilIface ∨ ∃ te pe, ev = .iface te pe)
theorem Gl.below {w w' : World} (h : Gl w) (hb : Below w.heap.size w w') : Gl w' := by
  obtain ⟨⟨m, hm⟩, ev, he, hev⟩ := h
  refine ⟨⟨m, ?_⟩, ev, ?_, hev⟩
  · rw [hb.cell (World.block_lt_of_cell? _ _ hm)]; exact hm
  · rw [hb.cell (World.block_lt_of_cell? _ _ he)]; exact he
theorem Gl.drewN {w : World} (h : Gl w) (n : Nat) : Gl (w.drewN n) := ⟨h.len, h.err⟩
theorem sz_app (a b : ByteArray) : ((a ++ b).size : Int) = (a.size : Int) + (b.size : Int) := by rw [ByteArray.size_append]; rfl
end Go.Proofs.YtfhjfidkcdcjnaaDoor.Q

namespace Go.Proofs.YtfhjfidkcdcjnaaDoor.Q
open Go.RowKit Go.Proofs.YtfhjfidkcdcjnaaDoorW.PrintWords Go.Proofs.YtfhjfidkcdcjnaaDoorW.PrintLast Go.Proofs.YtfhjfidkcdcjnaaDoorW.PrintMore
attribute [local go_sem] max2_int min2_int max_two min_two max_three min_three max_four min_four   -- for this text's walks alone
set_option linter.unusedVariables false
set_option linter.unusedSimpArgs false



def errW : Option Int → Value
  | none => .nilIface
  | some c => .iface 0 (.int .i64 c)
theorem errW_none : errW none = .nilIface := rfl
theorem errW_some (c : Int) : errW (some c) = .iface 0 (.int .i64 c) := rfl

theorem info5 : (Tryd.prog.info? 5).map (fun i => (i.zero, i.size, i.bytes)) = some (some (.int .u8 0), 1, 1) := by kernel_rfl
theorem info27 : (Tryd.prog.info? 27).map (fun i => (i.zero, i.size, i.bytes)) = some (some (.agg #[(.string ⟨#[]⟩), (.string ⟨#[]⟩)]), 2, 32) := by kernel_rfl
-- the values' own types
/-! #### struct type 27 -/
structure S27 where
  f0 : ByteArray
  f1 : ByteArray
def z27 : S27 := ⟨(⟨#[]⟩ : ByteArray), (⟨#[]⟩ : ByteArray)⟩
def k27 : Kd S27 := Kd.iso (Kd.pair Kd.string Kd.string) (fun x : S27 => (x.f0, x.f1))
theorem k27_open {w : World} {x : S27} {cs : List Value} (h : k27.K w x cs) : cs = [.string x.f0, .string x.f1] := by
  obtain ⟨_, _, rfl, rfl, rfl⟩ := h
  exact rfl
theorem k27_openM {w : World} {base : Nat} {ok : Nat → Prop} {x : S27} {cs : List Value} (h : k27.M w base ok x cs) : cs = [.string x.f0, .string x.f1] := by
  obtain ⟨_, _, rfl, rfl, rfl⟩ := h
  exact rfl
theorem k27_mk (w : World) (x : S27)  : k27.K w x [.string x.f0, .string x.f1] := ⟨[.string x.f0], [.string x.f1], rfl, rfl, rfl⟩
theorem k27_mkM (w : World) (base : Nat) (ok : Nat → Prop) (x : S27)  : k27.M w base ok x [.string x.f0, .string x.f1] := ⟨[.string x.f0], [.string x.f1], rfl, rfl, rfl⟩
def rd_T27 (xs : List S27) (i : Int) : S27 := xs.getD i.toNat z27
theorem at_T27 {w : World} {A : Option Addr} {n : Nat} {xs : List S27} (h : Kd.C k27 w A n xs) (i : Int) (h0 : 0 ≤ i) (h1 : i < n) : ∃ ad , A = some ad ∧ w.cell? (ad.add (i.toNat * 2)) = some (.string (rd_T27 xs i).f0) ∧ w.cell? ⟨(ad.add (i.toNat * 2)).block, (ad.add (i.toNat * 2)).off + 1, none⟩ = some (.string (rd_T27 xs i).f1) := by
  obtain ⟨ad, c, e, _, hK, hc0⟩ := Kd.C_get h z27 i h0 h1
  have hc : ∀ j u, c[j]? = some u → w.cell? (ad.add (i.toNat * 2 + j)) = some u := hc0
  obtain rfl := k27_open hK
  exact ⟨ad, e, hc 0 _ rfl, by rw [← add_field _ _ 1 (by omega)]; exact hc 1 _ rfl⟩

end Go.Proofs.YtfhjfidkcdcjnaaDoor.Q

/- The shelf's contracts at this seat's translation, laid in plain words by the kit's own tools (lay-shelf.mjs, lay-plain.mjs); those that are used. -/
namespace Go.Proofs
open Go.Shelf
def Tryd.lays137_ren : Go.Shelf.Ren := ⟨fun | 137 => 37 | 217 => 45 | 266 => 58 | n => n, fun | 9 => 9 | 5 => 5 | 3 => 3 | n => n, fun | n => n⟩
theorem Tryd.lays137 : Go.Proofs.Lays.n137 Tryd.prog Tryd.lays137_ren := {
  mixed := by kernel_rfl
  f137 := Tryd.func37.trans (congrArg some (by kernel_rfl))
  f217 := Tryd.func45.trans (congrArg some (by kernel_rfl))
  f266 := Tryd.func58.trans (congrArg some (by kernel_rfl))
  t3 := Tryd.underlying3
  a3 := Tryd.isAgg3
  z3 := Tryd.sizeOf3
  v3 := Tryd.zeroValue3
  t5 := Tryd.underlying5
  a5 := Tryd.isAgg5
  z5 := Tryd.sizeOf5
  v5 := Tryd.zeroValue5
  t9 := Tryd.underlying9
  a9 := Tryd.isAgg9
  z9 := Tryd.sizeOf9
  v9 := Tryd.zeroValue9 }
open Go.RowKit in
theorem Tryd.strings_IndexByte (s : ByteArray) (c : Int) (w : World) :
    Calls Tryd.prog 37 #[.string s, .int .u8 c] w fun e w' => e = .returned (.int .i64 (Lib.indexByte s.data.toList c.toNat.toUInt8)) ∧ w' = w := Any.strings_IndexByte Tryd.lays137 s c w
def Tryd.laysC245_ren : Go.Shelf.Ren := ⟨fun | 245 => 84 | 279 => 89 | 280 => 90 | 281 => 91 | 282 => 92 | 316 => 93 | 171 => 95 | 205 => 94 | 243 => 96 | 246 => 97 | 283 => 98 | 284 => 99 | 285 => 100 | 286 => 101 | 129 => 103 | 317 => 102 | 318 => 104 | 319 => 105 | 320 => 106 | 337 => 107 | 338 => 108 | n => n, fun | 9 => 9 | 3 => 3 | 75 => 70 | 167 => 119 | 4 => 4 | 168 => 121 | 210 => 125 | 37 => 29 | 0 => 0 | 127 => 80 | 145 => 129 | 143 => 127 | 2 => 2 | 171 => 131 | 53 => 106 | 5 => 5 | 173 => 134 | 212 => 137 | 51 => 34 | 20 => 20 | 213 => 138 | 46 => 111 | 232 => 141 | 233 => 142 | 80 => 73 | n => n, fun | 15 => 3 | 16 => 4 | 17 => 5 | 18 => 6 | 19 => 7 | n => n⟩
theorem Tryd.laysC245 : Go.Proofs.LaysC.n245 Tryd.prog Tryd.laysC245_ren := {
  mixed := by kernel_rfl
  f129 := Tryd.func103.trans (congrArg some (by kernel_rfl))
  f171 := Tryd.func95.trans (congrArg some (by kernel_rfl))
  f205 := Tryd.func94.trans (congrArg some (by kernel_rfl))
  f243 := Tryd.func96.trans (congrArg some (by kernel_rfl))
  f245 := Tryd.func84.trans (congrArg some (by kernel_rfl))
  f246 := Tryd.func97.trans (congrArg some (by kernel_rfl))
  f279 := Tryd.func89.trans (congrArg some (by kernel_rfl))
  f280 := Tryd.func90.trans (congrArg some (by kernel_rfl))
  f281 := Tryd.func91.trans (congrArg some (by kernel_rfl))
  f282 := Tryd.func92.trans (congrArg some (by kernel_rfl))
  f283 := Tryd.func98.trans (congrArg some (by kernel_rfl))
  f284 := Tryd.func99.trans (congrArg some (by kernel_rfl))
  f285 := Tryd.func100.trans (congrArg some (by kernel_rfl))
  f286 := Tryd.func101.trans (congrArg some (by kernel_rfl))
  f316 := Tryd.func93.trans (congrArg some (by kernel_rfl))
  f317 := Tryd.func102.trans (congrArg some (by kernel_rfl))
  f318 := Tryd.func104.trans (congrArg some (by kernel_rfl))
  f319 := Tryd.func105.trans (congrArg some (by kernel_rfl))
  f320 := Tryd.func106.trans (congrArg some (by kernel_rfl))
  f337 := Tryd.func107.trans (congrArg some (by kernel_rfl))
  f338 := Tryd.func108.trans (congrArg some (by kernel_rfl))
  t0 := Tryd.underlying0
  a0 := Tryd.isAgg0
  z0 := Tryd.sizeOf0
  v0 := Tryd.zeroValue0
  t2 := Tryd.underlying2
  a2 := Tryd.isAgg2
  z2 := Tryd.sizeOf2
  v2 := Tryd.zeroValue2
  t3 := Tryd.underlying3
  a3 := Tryd.isAgg3
  z3 := Tryd.sizeOf3
  v3 := Tryd.zeroValue3
  t4 := Tryd.underlying4
  a4 := Tryd.isAgg4
  z4 := Tryd.sizeOf4
  v4 := Tryd.zeroValue4
  t5 := Tryd.underlying5
  a5 := Tryd.isAgg5
  z5 := Tryd.sizeOf5
  v5 := Tryd.zeroValue5
  t9 := Tryd.underlying9
  a9 := Tryd.isAgg9
  z9 := Tryd.sizeOf9
  v9 := Tryd.zeroValue9
  t20 := Tryd.underlying20
  a20 := Tryd.isAgg20
  z20 := Tryd.sizeOf20
  v20 := Tryd.zeroValue20
  t37 := Tryd.underlying29
  a37 := Tryd.isAgg29
  z37 := Tryd.sizeOf29
  v37 := Tryd.zeroValue29
  t46 := Tryd.underlying111
  a46 := Tryd.isAgg111
  z46 := Tryd.sizeOf111
  v46 := Tryd.zeroValue111
  t51 := Tryd.underlying34
  a51 := Tryd.isAgg34
  z51 := Tryd.sizeOf34
  v51 := Tryd.zeroValue34
  t53 := Tryd.underlying106
  a53 := Tryd.isAgg106
  z53 := Tryd.sizeOf106
  v53 := Tryd.zeroValue106
  t75 := Tryd.underlying70
  a75 := Tryd.isAgg70
  z75 := Tryd.sizeOf70
  v75 := Tryd.zeroValue70
  t127 := Tryd.underlying80
  a127 := Tryd.isAgg80
  z127 := Tryd.sizeOf80
  v127 := Tryd.zeroValue80
  t143 := Tryd.underlying127
  a143 := Tryd.isAgg127
  z143 := Tryd.sizeOf127
  v143 := Tryd.zeroValue127
  t145 := Tryd.underlying129
  a145 := Tryd.isAgg129
  z145 := Tryd.sizeOf129
  v145 := Tryd.zeroValue129
  t167 := Tryd.underlying119
  a167 := Tryd.isAgg119
  z167 := Tryd.sizeOf119
  v167 := Tryd.zeroValue119
  t168 := Tryd.underlying121
  a168 := Tryd.isAgg121
  z168 := Tryd.sizeOf121
  v168 := Tryd.zeroValue121
  t171 := Tryd.underlying131
  a171 := Tryd.isAgg131
  z171 := Tryd.sizeOf131
  v171 := Tryd.zeroValue131
  t173 := Tryd.underlying134
  a173 := Tryd.isAgg134
  z173 := Tryd.sizeOf134
  v173 := Tryd.zeroValue134
  t210 := Tryd.underlying125
  a210 := Tryd.isAgg125
  z210 := Tryd.sizeOf125
  v210 := Tryd.zeroValue125
  t212 := Tryd.underlying137
  a212 := Tryd.isAgg137
  z212 := Tryd.sizeOf137
  v212 := Tryd.zeroValue137
  t213 := Tryd.underlying138
  a213 := Tryd.isAgg138
  z213 := Tryd.sizeOf138
  t232 := Tryd.underlying141
  a232 := Tryd.isAgg141
  z232 := Tryd.sizeOf141
  v232 := Tryd.zeroValue141
  t233 := Tryd.underlying142
  a233 := Tryd.isAgg142
  z233 := Tryd.sizeOf142
  v233 := Tryd.zeroValue142
  g15 := by kernel_rfl
  g16 := by kernel_rfl
  g17 := by kernel_rfl
  g18 := by kernel_rfl
  g19 := by kernel_rfl
  t80 := Tryd.underlying73
  a80 := Tryd.isAgg73
  z80 := Tryd.sizeOf73
  v80 := Tryd.zeroValue73
  i0 := by kernel_rfl
  i2 := by kernel_rfl
  i3 := by kernel_rfl
  i4 := by kernel_rfl
  i5 := by kernel_rfl
  i9 := by kernel_rfl
  i20 := by kernel_rfl
  i37 := by kernel_rfl
  i46 := by kernel_rfl
  i51 := by kernel_rfl
  i53 := by kernel_rfl
  i75 := by kernel_rfl
  i80 := by kernel_rfl
  i127 := by kernel_rfl
  i143 := by kernel_rfl
  i145 := by kernel_rfl
  i167 := by kernel_rfl
  i168 := by kernel_rfl
  i171 := by kernel_rfl
  i173 := by kernel_rfl
  i210 := by kernel_rfl
  i212 := by kernel_rfl
  i232 := by kernel_rfl
  i233 := by kernel_rfl
  m15 := by kernel_rfl
  m16 := by kernel_rfl
  m17 := by kernel_rfl
  m18 := by kernel_rfl
  m19 := by kernel_rfl
  c0 := by kernel_rfl
  c2 := by kernel_rfl
  c3 := by kernel_rfl
  c4 := by kernel_rfl
  c5 := by kernel_rfl
  c9 := by kernel_rfl
  c20 := by kernel_rfl
  c37 := by kernel_rfl
  c46 := by kernel_rfl
  c51 := by kernel_rfl
  c53 := by kernel_rfl
  c75 := by kernel_rfl
  c80 := by kernel_rfl
  c127 := by kernel_rfl
  c143 := by kernel_rfl
  c145 := by kernel_rfl
  c167 := by kernel_rfl
  c168 := by kernel_rfl
  c171 := by kernel_rfl
  c173 := by kernel_rfl
  c210 := by kernel_rfl
  c212 := by kernel_rfl
  c213 := by kernel_rfl
  c232 := by kernel_rfl
  c233 := by kernel_rfl }
open Go.RowKit in
theorem Tryd.strconv_toError_syntax (fn s : ByteArray) (base bits : Int) (ev : Value) (w : World) (hlim : s.size ≤ 281474976710656) (hv : w.cell? ⟨3, 0, none⟩ = some ev) (hev : ev = .nilIface ∨ ∃ te pe, ev = .iface te pe) :
    Calls Tryd.prog 84 #[.string fn, .string s, .int .i64 base, .int .i64 bits, .iface 119 (.int .i64 2)] w fun e w' => ∃ N, e = .returned (.iface 121 (.pointer (some ⟨N, 0, none⟩))) ∧ w.heap.size ≤ N ∧ w'.heap[N]? = some (.cells #[.string fn, .string s, ev] 125 (0, 0)) ∧ Below w.heap.size w w' := Any.strconv_toError_syntax Tryd.laysC245 fn s base bits ev w hlim hv hev
def Tryd.lays219_ren : Go.Shelf.Ren := ⟨fun | 219 => 72 | 217 => 45 | 225 => 79 | 224 => 80 | 267 => 81 | 266 => 58 | 314 => 85 | n => n, fun | 9 => 9 | 3 => 3 | 4 => 4 | 5 => 5 | 46 => 111 | 146 => 117 | 51 => 34 | n => n, fun | 1 => 0 | n => n⟩
theorem Tryd.lays219 : Go.Proofs.Lays.n219 Tryd.prog Tryd.lays219_ren := {
  mixed := by kernel_rfl
  f217 := Tryd.func45.trans (congrArg some (by kernel_rfl))
  f219 := Tryd.func72.trans (congrArg some (by kernel_rfl))
  f224 := Tryd.func80.trans (congrArg some (by kernel_rfl))
  f225 := Tryd.func79.trans (congrArg some (by kernel_rfl))
  f266 := Tryd.func58.trans (congrArg some (by kernel_rfl))
  f267 := Tryd.func81.trans (congrArg some (by kernel_rfl))
  f314 := Tryd.func85.trans (congrArg some (by kernel_rfl))
  t3 := Tryd.underlying3
  a3 := Tryd.isAgg3
  z3 := Tryd.sizeOf3
  v3 := Tryd.zeroValue3
  t4 := Tryd.underlying4
  a4 := Tryd.isAgg4
  z4 := Tryd.sizeOf4
  v4 := Tryd.zeroValue4
  t5 := Tryd.underlying5
  a5 := Tryd.isAgg5
  z5 := Tryd.sizeOf5
  v5 := Tryd.zeroValue5
  t9 := Tryd.underlying9
  a9 := Tryd.isAgg9
  z9 := Tryd.sizeOf9
  v9 := Tryd.zeroValue9
  t46 := Tryd.underlying111
  a46 := Tryd.isAgg111
  z46 := Tryd.sizeOf111
  v46 := Tryd.zeroValue111
  t51 := Tryd.underlying34
  a51 := Tryd.isAgg34
  z51 := Tryd.sizeOf34
  v51 := Tryd.zeroValue34
  t146 := Tryd.underlying117
  a146 := Tryd.isAgg117
  z146 := Tryd.sizeOf117
  v146 := Tryd.zeroValue117
  g1 := by kernel_rfl }
open Go.RowKit Go.Lib in
theorem Tryd.stringslite_Index_one (s : ByteArray) (c : UInt8) (w : World) :
    Calls Tryd.prog 72 #[.string s, .string ⟨#[c]⟩] w fun e w' => e = .returned (.int .i64 (Lib.indexByte s.data.toList c)) ∧ w' = w := Any.stringslite_Index_one Tryd.lays219 s c w
def Tryd.lays143_ren : Go.Shelf.Ren := ⟨fun | 143 => 56 | 219 => 72 | 217 => 45 | 225 => 79 | 224 => 80 | 267 => 81 | 266 => 58 | 314 => 85 | n => n, fun | 9 => 9 | 3 => 3 | 4 => 4 | 5 => 5 | 46 => 111 | 146 => 117 | 51 => 34 | n => n, fun | 1 => 0 | n => n⟩
theorem Tryd.lays143 : Go.Proofs.Lays.n143 Tryd.prog Tryd.lays143_ren := {
  mixed := by kernel_rfl
  f143 := Tryd.func56.trans (congrArg some (by kernel_rfl))
  f217 := Tryd.func45.trans (congrArg some (by kernel_rfl))
  f219 := Tryd.func72.trans (congrArg some (by kernel_rfl))
  f224 := Tryd.func80.trans (congrArg some (by kernel_rfl))
  f225 := Tryd.func79.trans (congrArg some (by kernel_rfl))
  f266 := Tryd.func58.trans (congrArg some (by kernel_rfl))
  f267 := Tryd.func81.trans (congrArg some (by kernel_rfl))
  f314 := Tryd.func85.trans (congrArg some (by kernel_rfl))
  t3 := Tryd.underlying3
  a3 := Tryd.isAgg3
  z3 := Tryd.sizeOf3
  v3 := Tryd.zeroValue3
  t4 := Tryd.underlying4
  a4 := Tryd.isAgg4
  z4 := Tryd.sizeOf4
  v4 := Tryd.zeroValue4
  t5 := Tryd.underlying5
  a5 := Tryd.isAgg5
  z5 := Tryd.sizeOf5
  v5 := Tryd.zeroValue5
  t9 := Tryd.underlying9
  a9 := Tryd.isAgg9
  z9 := Tryd.sizeOf9
  v9 := Tryd.zeroValue9
  t46 := Tryd.underlying111
  a46 := Tryd.isAgg111
  z46 := Tryd.sizeOf111
  v46 := Tryd.zeroValue111
  t51 := Tryd.underlying34
  a51 := Tryd.isAgg34
  z51 := Tryd.sizeOf34
  v51 := Tryd.zeroValue34
  t146 := Tryd.underlying117
  a146 := Tryd.isAgg117
  z146 := Tryd.sizeOf117
  v146 := Tryd.zeroValue117
  g1 := by kernel_rfl }
open Go.RowKit Go.Lib in
theorem Tryd.strings_Index_one (s : ByteArray) (c : UInt8) (w : World) :
    Calls Tryd.prog 56 #[.string s, .string ⟨#[c]⟩] w fun e w' => e = .returned (.int .i64 (Lib.indexByte s.data.toList c)) ∧ w' = w := Any.strings_Index_one Tryd.lays143 s c w
def Tryd.lays138_ren : Go.Shelf.Ren := ⟨fun | 138 => 54 | 195 => 69 | 218 => 70 | 143 => 56 | 219 => 72 | 217 => 45 | 225 => 79 | 224 => 80 | 267 => 81 | 266 => 58 | 314 => 85 | n => n, fun | 9 => 9 | 3 => 3 | 4 => 4 | 5 => 5 | 0 => 0 | 46 => 111 | 146 => 117 | 51 => 34 | n => n, fun | 1 => 0 | n => n⟩
theorem Tryd.lays138 : Go.Proofs.Lays.n138 Tryd.prog Tryd.lays138_ren := {
  mixed := by kernel_rfl
  f138 := Tryd.func54.trans (congrArg some (by kernel_rfl))
  f143 := Tryd.func56.trans (congrArg some (by kernel_rfl))
  f195 := Tryd.func69.trans (congrArg some (by kernel_rfl))
  f217 := Tryd.func45.trans (congrArg some (by kernel_rfl))
  f218 := Tryd.func70.trans (congrArg some (by kernel_rfl))
  f219 := Tryd.func72.trans (congrArg some (by kernel_rfl))
  f224 := Tryd.func80.trans (congrArg some (by kernel_rfl))
  f225 := Tryd.func79.trans (congrArg some (by kernel_rfl))
  f266 := Tryd.func58.trans (congrArg some (by kernel_rfl))
  f267 := Tryd.func81.trans (congrArg some (by kernel_rfl))
  f314 := Tryd.func85.trans (congrArg some (by kernel_rfl))
  t0 := Tryd.underlying0
  a0 := Tryd.isAgg0
  z0 := Tryd.sizeOf0
  v0 := Tryd.zeroValue0
  t3 := Tryd.underlying3
  a3 := Tryd.isAgg3
  z3 := Tryd.sizeOf3
  v3 := Tryd.zeroValue3
  t4 := Tryd.underlying4
  a4 := Tryd.isAgg4
  z4 := Tryd.sizeOf4
  v4 := Tryd.zeroValue4
  t5 := Tryd.underlying5
  a5 := Tryd.isAgg5
  z5 := Tryd.sizeOf5
  v5 := Tryd.zeroValue5
  t9 := Tryd.underlying9
  a9 := Tryd.isAgg9
  z9 := Tryd.sizeOf9
  v9 := Tryd.zeroValue9
  t46 := Tryd.underlying111
  a46 := Tryd.isAgg111
  z46 := Tryd.sizeOf111
  v46 := Tryd.zeroValue111
  t51 := Tryd.underlying34
  a51 := Tryd.isAgg34
  z51 := Tryd.sizeOf34
  v51 := Tryd.zeroValue34
  t146 := Tryd.underlying117
  a146 := Tryd.isAgg117
  z146 := Tryd.sizeOf117
  v146 := Tryd.zeroValue117
  g1 := by kernel_rfl }
open Go.RowKit Go.Lib in
theorem Tryd.strings_Count_one (s : ByteArray) (c : UInt8) (w : World) :
    Calls Tryd.prog 54 #[.string s, .string ⟨#[c]⟩] w fun e w' => e = .returned (.int .i64 (Lib.countByte s.data.toList c)) ∧ w' = w := Any.strings_Count_one Tryd.lays138 s c w
def Tryd.lays149_ren : Go.Shelf.Ren := ⟨fun | 149 => 82 | 222 => 86 | n => n, fun | 9 => 9 | 5 => 5 | 3 => 3 | 4 => 4 | n => n, fun | n => n⟩
theorem Tryd.lays149 : Go.Proofs.Lays.n149 Tryd.prog Tryd.lays149_ren := {
  mixed := by kernel_rfl
  f149 := Tryd.func82.trans (congrArg some (by kernel_rfl))
  f222 := Tryd.func86.trans (congrArg some (by kernel_rfl))
  t3 := Tryd.underlying3
  a3 := Tryd.isAgg3
  z3 := Tryd.sizeOf3
  v3 := Tryd.zeroValue3
  t4 := Tryd.underlying4
  a4 := Tryd.isAgg4
  z4 := Tryd.sizeOf4
  v4 := Tryd.zeroValue4
  t5 := Tryd.underlying5
  a5 := Tryd.isAgg5
  z5 := Tryd.sizeOf5
  v5 := Tryd.zeroValue5
  t9 := Tryd.underlying9
  a9 := Tryd.isAgg9
  z9 := Tryd.sizeOf9
  v9 := Tryd.zeroValue9 }
open Go.RowKit Go.Lib in
theorem Tryd.strings_LastIndexByte (s : ByteArray) (c : Int) (hs : s.size < 4611686018427387904) (w : World) :
    Calls Tryd.prog 82 #[.string s, .int .u8 c] w fun e w' => e = .returned (.int .i64 (Lib.lastIndexByte s c)) ∧ w' = w := Any.strings_LastIndexByte Tryd.lays149 s c hs w
def Tryd.lays100_ren : Go.Shelf.Ren := ⟨fun | 100 => 67 | 207 => 77 | n => n, fun | 9 => 9 | 4 => 4 | 3 => 3 | n => n, fun | n => n⟩
theorem Tryd.lays100 : Go.Proofs.Lays.n100 Tryd.prog Tryd.lays100_ren := {
  mixed := by kernel_rfl
  f100 := Tryd.func67.trans (congrArg some (by kernel_rfl))
  f207 := Tryd.func77.trans (congrArg some (by kernel_rfl))
  t3 := Tryd.underlying3
  a3 := Tryd.isAgg3
  z3 := Tryd.sizeOf3
  v3 := Tryd.zeroValue3
  t4 := Tryd.underlying4
  a4 := Tryd.isAgg4
  z4 := Tryd.sizeOf4
  v4 := Tryd.zeroValue4
  t9 := Tryd.underlying9
  a9 := Tryd.isAgg9
  z9 := Tryd.sizeOf9
  v9 := Tryd.zeroValue9 }
open Go.RowKit Go.Lib in
theorem Tryd.strings_HasSuffix (s p : ByteArray) (w : World) (hs : s.size ≤ 9223372036854775807) :
    Calls Tryd.prog 67 #[.string s, .string p] w fun e w' => e = .returned (.bool (Lib.hasSuffix s.data.toList p.data.toList)) ∧ w' = w := Any.strings_HasSuffix Tryd.lays100 s p w hs
def Tryd.lays154_ren : Go.Shelf.Ren := ⟨fun | 154 => 44 | 138 => 54 | 165 => 55 | 143 => 56 | 166 => 39 | 197 => 57 | 169 => 40 | 195 => 69 | 218 => 70 | 240 => 46 | 241 => 71 | 219 => 72 | 260 => 73 | 276 => 59 | 277 => 78 | 217 => 45 | 225 => 79 | 224 => 80 | 267 => 81 | 266 => 58 | 314 => 85 | n => n, fun | 9 => 9 | 3 => 3 | 4 => 4 | 72 => 68 | 0 => 0 | 76 => 71 | 105 => 90 | 21 => 21 | 5 => 5 | 70 => 66 | 20 => 20 | 37 => 29 | 75 => 70 | 127 => 80 | 164 => 92 | 46 => 111 | 119 => 112 | 139 => 115 | 138 => 114 | 146 => 117 | 51 => 34 | 80 => 73 | n => n, fun | 1 => 0 | 3 => 1 | 4 => 2 | n => n⟩
theorem Tryd.lays154 : Go.Proofs.Lays.n154 Tryd.prog Tryd.lays154_ren := {
  mixed := by kernel_rfl
  f138 := Tryd.func54.trans (congrArg some (by kernel_rfl))
  f143 := Tryd.func56.trans (congrArg some (by kernel_rfl))
  f154 := Tryd.func44.trans (congrArg some (by kernel_rfl))
  f165 := Tryd.func55.trans (congrArg some (by kernel_rfl))
  f166 := Tryd.func39.trans (congrArg some (by kernel_rfl))
  f169 := Tryd.func40.trans (congrArg some (by kernel_rfl))
  f195 := Tryd.func69.trans (congrArg some (by kernel_rfl))
  f197 := Tryd.func57.trans (congrArg some (by kernel_rfl))
  f217 := Tryd.func45.trans (congrArg some (by kernel_rfl))
  f218 := Tryd.func70.trans (congrArg some (by kernel_rfl))
  f219 := Tryd.func72.trans (congrArg some (by kernel_rfl))
  f224 := Tryd.func80.trans (congrArg some (by kernel_rfl))
  f225 := Tryd.func79.trans (congrArg some (by kernel_rfl))
  f240 := Tryd.func46.trans (congrArg some (by kernel_rfl))
  f241 := Tryd.func71.trans (congrArg some (by kernel_rfl))
  f260 := Tryd.func73.trans (congrArg some (by kernel_rfl))
  f266 := Tryd.func58.trans (congrArg some (by kernel_rfl))
  f267 := Tryd.func81.trans (congrArg some (by kernel_rfl))
  f276 := Tryd.func59.trans (congrArg some (by kernel_rfl))
  f277 := Tryd.func78.trans (congrArg some (by kernel_rfl))
  f314 := Tryd.func85.trans (congrArg some (by kernel_rfl))
  t0 := Tryd.underlying0
  a0 := Tryd.isAgg0
  z0 := Tryd.sizeOf0
  v0 := Tryd.zeroValue0
  t3 := Tryd.underlying3
  a3 := Tryd.isAgg3
  z3 := Tryd.sizeOf3
  v3 := Tryd.zeroValue3
  t4 := Tryd.underlying4
  a4 := Tryd.isAgg4
  z4 := Tryd.sizeOf4
  v4 := Tryd.zeroValue4
  t5 := Tryd.underlying5
  a5 := Tryd.isAgg5
  z5 := Tryd.sizeOf5
  v5 := Tryd.zeroValue5
  t9 := Tryd.underlying9
  a9 := Tryd.isAgg9
  z9 := Tryd.sizeOf9
  v9 := Tryd.zeroValue9
  t20 := Tryd.underlying20
  a20 := Tryd.isAgg20
  z20 := Tryd.sizeOf20
  v20 := Tryd.zeroValue20
  t21 := Tryd.underlying21
  a21 := Tryd.isAgg21
  z21 := Tryd.sizeOf21
  v21 := Tryd.zeroValue21
  t37 := Tryd.underlying29
  a37 := Tryd.isAgg29
  z37 := Tryd.sizeOf29
  v37 := Tryd.zeroValue29
  t46 := Tryd.underlying111
  a46 := Tryd.isAgg111
  z46 := Tryd.sizeOf111
  v46 := Tryd.zeroValue111
  t51 := Tryd.underlying34
  a51 := Tryd.isAgg34
  z51 := Tryd.sizeOf34
  v51 := Tryd.zeroValue34
  t70 := Tryd.underlying66
  a70 := Tryd.isAgg66
  z70 := Tryd.sizeOf66
  v70 := Tryd.zeroValue66
  t72 := Tryd.underlying68
  a72 := Tryd.isAgg68
  z72 := Tryd.sizeOf68
  v72 := Tryd.zeroValue68
  t75 := Tryd.underlying70
  a75 := Tryd.isAgg70
  z75 := Tryd.sizeOf70
  v75 := Tryd.zeroValue70
  t76 := Tryd.underlying71
  a76 := Tryd.isAgg71
  z76 := Tryd.sizeOf71
  v76 := Tryd.zeroValue71
  t105 := Tryd.underlying90
  a105 := Tryd.isAgg90
  z105 := Tryd.sizeOf90
  v105 := Tryd.zeroValue90
  t119 := Tryd.underlying112
  a119 := Tryd.isAgg112
  z119 := Tryd.sizeOf112
  t127 := Tryd.underlying80
  a127 := Tryd.isAgg80
  z127 := Tryd.sizeOf80
  v127 := Tryd.zeroValue80
  t138 := Tryd.underlying114
  a138 := Tryd.isAgg114
  z138 := Tryd.sizeOf114
  v138 := Tryd.zeroValue114
  t139 := Tryd.underlying115
  a139 := Tryd.isAgg115
  z139 := Tryd.sizeOf115
  v139 := Tryd.zeroValue115
  t146 := Tryd.underlying117
  a146 := Tryd.isAgg117
  z146 := Tryd.sizeOf117
  v146 := Tryd.zeroValue117
  t164 := Tryd.underlying92
  a164 := Tryd.isAgg92
  z164 := Tryd.sizeOf92
  v164 := Tryd.zeroValue92
  g1 := by kernel_rfl
  g3 := by kernel_rfl
  g4 := by kernel_rfl }
theorem Tryd.Builder_Extra_154 : Builder.Extra Tryd.prog Tryd.lays154_ren := {
  sizeBuilder := by kernel_rfl
  liesBuilder := by kernel_rfl
  t5 := Tryd.underlying5
  a5 := Tryd.isAgg5
  z5 := Tryd.sizeOf5
  v5 := Tryd.zeroValue5
  infoByte := by kernel_rfl
  cellsByte := by kernel_rfl
  sizeByte := by kernel_rfl
  neB5 := by decide }
end Go.Proofs

/- 'strings.IndexByte', 'strings.LastIndexByte': off the shelf. -/
namespace Go.Proofs.YtfhjfidkcdcjnaaDoor.Q
open Go.RowKit Go.Proofs.YtfhjfidkcdcjnaaDoorW.PrintWords Go.Proofs.YtfhjfidkcdcjnaaDoorW.PrintLast Go.Proofs.YtfhjfidkcdcjnaaDoorW.PrintMore

def strings_IndexByte.f (a0 : ByteArray) (a1 : Int) : Option (Int) := some (Lib.indexByte a0.data.toList a1.toNat.toUInt8)
theorem strings_IndexByte.calls (a0 : ByteArray) (a1 : Int) (r : Int) (w : World) (h : strings_IndexByte.f a0 a1 = some r) :
    Calls Tryd.prog 37 #[.string a0, .int .u8 a1] w fun e w' => e = .returned (.int .i64 r) ∧ Drawn0 w w' := by
  obtain rfl := Option.some.inj h
  refine (Tryd.strings_IndexByte a0 a1 w).mono ?_
  rintro e w' ⟨rfl, rfl⟩
  exact ⟨rfl, Drawn0.refl _⟩

def strings_LastIndexByte.f (a0 : ByteArray) (a1 : Int) : Option (Int) := if a0.size < 4611686018427387904 then some (Lib.lastIndexByte a0 a1) else none
theorem strings_LastIndexByte.calls (a0 : ByteArray) (a1 : Int) (r : Int) (w : World) (h : strings_LastIndexByte.f a0 a1 = some r) :
    Calls Tryd.prog 82 #[.string a0, .int .u8 a1] w fun e w' => e = .returned (.int .i64 r) ∧ Drawn0 w w' := by
  unfold strings_LastIndexByte.f at h
  split at h
  · rename_i hs
    obtain rfl := Option.some.inj h
    refine (Tryd.strings_LastIndexByte a0 a1 hs w).mono ?_
    rintro e w' ⟨rfl, rfl⟩
    exact ⟨rfl, Drawn0.refl _⟩
  · cases h

end Go.Proofs.YtfhjfidkcdcjnaaDoor.Q

namespace Go.Proofs.YtfhjfidkcdcjnaaDoor.Q
open Go.RowKit Go.Proofs.YtfhjfidkcdcjnaaDoorW.PrintWords Go.Proofs.YtfhjfidkcdcjnaaDoorW.PrintLast Go.Proofs.YtfhjfidkcdcjnaaDoorW.PrintMore
attribute [local go_sem] max2_int min2_int max_two min_two max_three min_three max_four min_four   -- for this text's walks alone
set_option linter.unusedVariables false
set_option linter.unusedSimpArgs false

/-! ### search_line: function 74 -/
noncomputable def search_line.f (a0 : ByteArray) (a1 : Int) : Option (Int × Int) := if 0 ≤ a1 then (if a1 ≤ (a0.size : Int) then ((strings_LastIndexByte.f (a0.extract 0 (a1 : Int).toNat) 10).bind fun t105 => (if 0 ≤ (wrap64 (t105 + 1)) then (if (wrap64 (t105 + 1)) ≤ (a0.size : Int) then ((strings_IndexByte.f (a0.extract ((wrap64 (t105 + 1)) : Int).toNat a0.size) 10).bind fun t106 => (if t106 < 0 then (some (wrap64 (t105 + 1), (a0.size : Int))) else (some (wrap64 (t105 + 1), wrap64 ((wrap64 (t105 + 1)) + t106))))) else (none)) else (none))) else (none)) else (none)
set_option maxHeartbeats 8000000 in
set_option maxRecDepth 100000 in
theorem search_line.calls (a0 : ByteArray) (a1 : Int) (r1 : Int) (r2 : Int) (w : World) (h : search_line.f a0 a1 = some (r1, r2)) :
    Calls Tryd.prog 74 #[.string a0, .int .i64 a1] w fun e w' => e = .returned (.tuple #[.int .i64 r1, .int .i64 r2]) ∧ Drawn0 w w' := by
  have H : (if 0 ≤ a1 then (if a1 ≤ (a0.size : Int) then ((strings_LastIndexByte.f (a0.extract 0 (a1 : Int).toNat) 10).bind fun t105 => (if 0 ≤ (wrap64 (t105 + 1)) then (if (wrap64 (t105 + 1)) ≤ (a0.size : Int) then ((strings_IndexByte.f (a0.extract ((wrap64 (t105 + 1)) : Int).toNat a0.size) 10).bind fun t106 => (if t106 < 0 then (some (wrap64 (t105 + 1), (a0.size : Int))) else (some (wrap64 (t105 + 1), wrap64 ((wrap64 (t105 + 1)) + t106))))) else (none)) else (none))) else (none)) else (none)) = some (r1, r2) := h
  clear h
  by_cases c3 : 0 ≤ a1
  · rw [if_pos c3] at H
    have c3b0 := eq_true c3
    have c3b1 : decide (0 ≤ a1) = true := decide_eq_true c3
    clear c3
    by_cases c4 : a1 ≤ (a0.size : Int)
    · rw [if_pos c4] at H
      have c4b0 := eq_true c4
      have c4b1 : decide (a1 ≤ (a0.size : Int)) = true := decide_eq_true c4
      clear c4
      replace H := Option.bind_eq_some_iff.mp H
      obtain ⟨t105, A50, H⟩ := H
      replace H : (if 0 ≤ (wrap64 (t105 + 1)) then (if (wrap64 (t105 + 1)) ≤ (a0.size : Int) then ((strings_IndexByte.f (a0.extract ((wrap64 (t105 + 1)) : Int).toNat a0.size) 10).bind fun t106 => (if t106 < 0 then (some (wrap64 (t105 + 1), (a0.size : Int))) else (some (wrap64 (t105 + 1), wrap64 ((wrap64 (t105 + 1)) + t106))))) else (none)) else (none)) = some (r1, r2) := H
      have A5 := Aside0.mk A50
      clear A50
      obtain ⟨ji6, hji6⟩ : ∃ j_ : Int, (wrap64 (t105 + 1)) = j_ := ⟨_, rfl⟩
      replace H : (if 0 ≤ (ji6) then (if (ji6) ≤ (a0.size : Int) then ((strings_IndexByte.f (a0.extract ((ji6) : Int).toNat a0.size) 10).bind fun t106 => (if t106 < 0 then (some (ji6, (a0.size : Int))) else (some (ji6, wrap64 ((ji6) + t106))))) else (none)) else (none)) = some (r1, r2) := by first | (rw [hji6] at H; exact H) | (simp only [hji6] at H ⊢; exact H)
      (try rw [hji6] at A5)
      have hji6w : (IntKind.i64.wrap (t105 + 1)) = ji6 := (i64_w _).trans hji6
      by_cases c7 : 0 ≤ (ji6)
      · rw [if_pos c7] at H
        have c7b0 := eq_true c7
        have c7b1 : decide (0 ≤ (ji6)) = true := decide_eq_true c7
        clear c7
        by_cases c8 : (ji6) ≤ (a0.size : Int)
        · rw [if_pos c8] at H
          have c8b0 := eq_true c8
          have c8b1 : decide ((ji6) ≤ (a0.size : Int)) = true := decide_eq_true c8
          clear c8
          replace H := Option.bind_eq_some_iff.mp H
          obtain ⟨t106, A90, H⟩ := H
          replace H : (if t106 < 0 then (some (ji6, (a0.size : Int))) else (some (ji6, wrap64 ((ji6) + t106)))) = some (r1, r2) := H
          have A9 := Aside0.mk A90
          clear A90
          by_cases c10 : t106 < 0
          · rw [if_pos c10] at H
            have c10b0 : decide (t106 < 0) = true := decide_eq_true c10
            clear c10
            simp only [Option.some.injEq, Prod.mk.injEq] at H
            obtain ⟨rfl, rfl⟩ := H
            go_enter Tryd.func74, Tryd.ntmps74
            go_wp2_with (first | ((with_reducible refine gate_callee (f := 82) rfl ?_); refine goesL_ (some 9) rfl rfl Tryd.func82 (by kernel_rfl) rfl #[.string (a0.extract 0 (a1 : Int).toNat), .int .u8 10] rfl (by (try simp only [List.map_toArray, List.map_cons, List.map_nil]); first | done | rfl | (simp only [List.length_drop, List.length_take]; rfl)) ?_; (with_reducible refine (strings_LastIndexByte.calls (a0.extract 0 (a1 : Int).toNat) 10 t105 _ A5.out).mono ?_); rintro e w' ⟨rfl, ⟨nd, rfl⟩⟩; refine ⟨_, rfl, ?_⟩) | ((with_reducible refine gate_callee (f := 37) rfl ?_); refine goesL_ (some 14) rfl rfl Tryd.func37 (by kernel_rfl) rfl #[.string (a0.extract ((ji6) : Int).toNat a0.size), .int .u8 10] rfl (by (try simp only [List.map_toArray, List.map_cons, List.map_nil]); first | done | (simp only [hji6]; rfl) | rfl | (simp only [List.length_drop, List.length_take]; rfl)) ?_; (with_reducible refine (strings_IndexByte.calls (a0.extract ((ji6) : Int).toNat a0.size) 10 t106 _ A9.out).mono ?_); rintro e w' ⟨rfl, ⟨nd, rfl⟩⟩; refine ⟨_, rfl, ?_⟩))
            go_ret2
            exact ⟨by first | rfl | (simp; done) | (simp only [← hji6] <;> (first | rfl | simp)) | (simp [*]; done), by repeat (first | exact Drawn0.refl _ | apply Drawn0.step)⟩
          · rw [if_neg c10] at H
            have c10b0 : decide (t106 < 0) = false := decide_eq_false c10
            clear c10
            simp only [Option.some.injEq, Prod.mk.injEq] at H
            obtain ⟨rfl, rfl⟩ := H
            go_enter Tryd.func74, Tryd.ntmps74
            go_wp2_with (first | ((with_reducible refine gate_callee (f := 82) rfl ?_); refine goesL_ (some 9) rfl rfl Tryd.func82 (by kernel_rfl) rfl #[.string (a0.extract 0 (a1 : Int).toNat), .int .u8 10] rfl (by (try simp only [List.map_toArray, List.map_cons, List.map_nil]); first | done | rfl | (simp only [List.length_drop, List.length_take]; rfl)) ?_; (with_reducible refine (strings_LastIndexByte.calls (a0.extract 0 (a1 : Int).toNat) 10 t105 _ A5.out).mono ?_); rintro e w' ⟨rfl, ⟨nd, rfl⟩⟩; refine ⟨_, rfl, ?_⟩) | ((with_reducible refine gate_callee (f := 37) rfl ?_); refine goesL_ (some 14) rfl rfl Tryd.func37 (by kernel_rfl) rfl #[.string (a0.extract ((ji6) : Int).toNat a0.size), .int .u8 10] rfl (by (try simp only [List.map_toArray, List.map_cons, List.map_nil]); first | done | (simp only [hji6]; rfl) | rfl | (simp only [List.length_drop, List.length_take]; rfl)) ?_; (with_reducible refine (strings_IndexByte.calls (a0.extract ((ji6) : Int).toNat a0.size) 10 t106 _ A9.out).mono ?_); rintro e w' ⟨rfl, ⟨nd, rfl⟩⟩; refine ⟨_, rfl, ?_⟩))
            go_ret2
            exact ⟨by first | rfl | (simp; done) | (simp only [← hji6] <;> (first | rfl | simp)) | (simp [*]; done), by repeat (first | exact Drawn0.refl _ | apply Drawn0.step)⟩
        · rw [if_neg c8] at H
          exact absurd H (by simp)
      · rw [if_neg c7] at H
        exact absurd H (by simp)
    · rw [if_neg c4] at H
      exact absurd H (by simp)
  · rw [if_neg c3] at H
    exact absurd H (by simp)

end Go.Proofs.YtfhjfidkcdcjnaaDoor.Q

/- A scope in which the run jumps back to one label: what is walked behind the label is walked once. -/
namespace Go.Proofs.YtfhjfidkcdcjnaaDoor.Q
open Go

theorem wp_scope_once {P : Program} {a : Act} {w : World} {Q : Exit → Act → World → Prop} {c rest : Code} (l : Nat) (J : Act → World → Prop) (μ : Act → World → Nat) (hf : findLabel c l = some (Code.seq Code.skip rest))
    (pass : ∀ a w, J a w → rest.wp P (Exit.jump l (fun a' w' => J a' w' ∧ μ a' w' < μ a w) Q) a w)
    (first : (∀ a w, J a w → rest.wp P (Exit.jump l J Q) a w) → c.wp P (Exit.jump l J Q) a w) : (Code.scope c).wp P Q a w :=
  wp_scope_jumps l J μ hf (first fun a w h => wp_mono (pass a w h) fun e a w h => by
    cases e with
    | goto l' => exact ⟨h.1, h.2.1⟩
    | _ => exact h) fun a w h => wp_seq (wp_skip (pass a w h))
end Go.Proofs.YtfhjfidkcdcjnaaDoor.Q

/- 'search.Line' looks a key up by halving: the walk. 'strings.Cut' at one byte. -/
namespace Go.Proofs.YtfhjfidkcdcjnaaDoor.Q
open Go.RowKit Go.Proofs.YtfhjfidkcdcjnaaDoorW.PrintWords Go.Proofs.YtfhjfidkcdcjnaaDoorW.PrintLast Go.Proofs.YtfhjfidkcdcjnaaDoorW.PrintMore
set_option linter.unusedVariables false
set_option linter.unusedSimpArgs false

/-- What stands ahead of a byte, what stands behind it, and whether it is there. -/
def cutB (s : ByteArray) (c : UInt8) : ByteArray × ByteArray × Bool :=
  if Lib.indexByte (Fl.toL s) c < 0 then (s, ⟨#[]⟩, false) else (s.extract 0 (Lib.indexByte (Fl.toL s) c).toNat, s.extract ((Lib.indexByte (Fl.toL s) c).toNat + 1) s.size, true)

set_option maxHeartbeats 2000000 in
set_option maxRecDepth 100000 in
theorem slcut_calls (s : ByteArray) (c : UInt8) (w : World) (hs : s.size ≤ 9223372036854775807) :
    Calls Tryd.prog 75 #[.string s, .string ⟨#[c]⟩] w fun e w' => e = .returned (.tuple #[.string (cutB s c).1, .string (cutB s c).2.1, .bool (cutB s c).2.2]) ∧ Drawn0 w w' := by
  have hi := Tryd.stringslite_Index_one s c
  have hb := Fl.indexByte_lt (Fl.toL s) c
  rw [Fl.toL_length] at hb
  obtain ⟨R, hR⟩ : ∃ R, cutB s c = R := ⟨_, rfl⟩
  rw [hR]
  unfold cutB at hR
  rw [show Lib.indexByte s.data.toList c = Lib.indexByte (Fl.toL s) c from rfl] at hi
  generalize Lib.indexByte (Fl.toL s) c = j at *
  obtain ⟨hb1, hb2⟩ := hb
  by_cases hj : j < 0
  · rw [if_pos hj] at hR
    subst hR
    go_enter Tryd.func75, Tryd.ntmps75
    go_wp2_with (first | (go_at_call 72; refine (hi _).mono ?_; rintro e w1 ⟨rfl, hw⟩; obtain rfl := hw.symm))
    go_ret3
    exact ⟨rfl, Drawn0.refl _⟩
  · rw [if_neg hj] at hR
    subst hR
    obtain ⟨j, rfl⟩ : ∃ n : Nat, j = n := ⟨j.toNat, by omega⟩
    have c1 : (0 : Int) ≤ (j : Int) := by omega
    have c2 : (j : Int) ≤ (s.size : Int) := by omega
    have c3 : (j : Int) + 1 ≤ (s.size : Int) := by omega
    have c4 : IntKind.i64.wrap ((j : Int) + 1) = (j : Int) + 1 := IntWalk.i64_in _ (by omega)
    have c5 : (0 : Int) ≤ (j : Int) + 1 := by omega
    have c6 : ((j : Int) + 1).toNat = j + 1 := by omega
    have H6 := Lib.hid c6
    clear c6 hj
    go_enter Tryd.func75, Tryd.ntmps75
    go_wp2_with (first | (go_at_call 72; refine (hi _).mono ?_; rintro e w1 ⟨rfl, hw⟩; obtain rfl := hw.symm))
    go_quiet (fail)
    all_goals
      go_wp2
      go_ret3
      exact ⟨rfl, ⟨⟨_, rfl⟩⟩⟩

set_option maxHeartbeats 2000000 in
set_option maxRecDepth 100000 in
theorem cut_calls (s : ByteArray) (c : UInt8) (w : World) (hs : s.size ≤ 9223372036854775807) :
    Calls Tryd.prog 65 #[.string s, .string ⟨#[c]⟩] w fun e w' => e = .returned (.tuple #[.string (cutB s c).1, .string (cutB s c).2.1, .bool (cutB s c).2.2]) ∧ Drawn0 w w' := by
  have hc := slcut_calls s c w hs
  obtain ⟨R, hR⟩ : ∃ R, cutB s c = R := ⟨_, rfl⟩
  rw [hR] at hc ⊢
  clear hR
  obtain ⟨a, b, d⟩ := R
  go_enter Tryd.func65, Tryd.ntmps65
  go_wp2_with (first | (go_at_call 75; refine hc.mono ?_; rintro e w1 ⟨rfl, ⟨⟨n1, rfl⟩⟩⟩))
  go_ret3
  exact ⟨rfl, ⟨⟨_, rfl⟩⟩⟩

theorem line_f (t : ByteArray) (i : Nat) (ht : t.size < 4294967296) (hi : i ≤ t.size) :
    search_line.f t (i : Int) = some ((Fl.lnFrom t i : Int), (Fl.lnTo t (Fl.lnFrom t i) : Int)) := by
  have ⟨h1, h2⟩ := Fl.lnFrom_le t i hi
  have h3 := Fl.lnTo_range t (Fl.lnFrom t i) (by omega)
  have hs := Fl.size_extract t 0 i hi
  unfold search_line.f strings_LastIndexByte.f strings_IndexByte.f
  rw [if_pos (by omega), if_pos (by omega), Int.toNat_natCast, if_pos (by rw [hs]; omega)]
  simp only [Option.bind_some]
  have e1 : wrap64 (Lib.lastIndexByte (t.extract 0 i) 10 + 1) = (Fl.lnFrom t i : Int) := by
    have : (Fl.lnFrom t i : Int) = Lib.lastIndexByte (t.extract 0 i) 10 + 1 := by unfold Fl.lnFrom; omega
    rw [← this]; unfold wrap64; omega
  rw [e1, if_pos (by omega), if_pos (by omega), Int.toNat_natCast]
  have e2 : Lib.indexByte (t.extract (Fl.lnFrom t i) t.size).data.toList (Int.toNat 10).toUInt8 = Lib.indexByte (Fl.toL (t.extract (Fl.lnFrom t i) t.size)) 10 := rfl
  rw [e2]
  have hb := Fl.indexByte_lt (Fl.toL (t.extract (Fl.lnFrom t i) t.size)) 10
  rw [Fl.toL_length, Fl.size_extract t _ _ (Nat.le_refl _)] at hb
  have e3 : ∀ a, Fl.lnTo t a = if Lib.indexByte (Fl.toL (t.extract a t.size)) 10 < 0 then t.size else a + (Lib.indexByte (Fl.toL (t.extract a t.size)) 10).toNat := fun _ => rfl
  rw [e3]
  split
  · rfl
  · refine congrArg some (Prod.ext rfl ?_)
    show wrap64 _ = _
    unfold wrap64
    omega

/-- The search, by halving; none: so many rounds aren't enough. -/
def srch (t key : ByteArray) : Nat → Nat → Nat → Option (ByteArray × Bool)
  | 0, _, _ => none
  | g + 1, low, high => if high ≤ low then some (⟨#[]⟩, false) else
    if Op.bytesLess (cutB (t.extract (Fl.lnFrom t ((low + high) / 2)) (Fl.lnTo t (Fl.lnFrom t ((low + high) / 2)))) 32).1.toList key.toList = true then srch t key g (Fl.lnTo t (Fl.lnFrom t ((low + high) / 2)) + 1) high else
    if ((cutB (t.extract (Fl.lnFrom t ((low + high) / 2)) (Fl.lnTo t (Fl.lnFrom t ((low + high) / 2)))) 32).1.toList == key.toList) = true then some ((cutB (t.extract (Fl.lnFrom t ((low + high) / 2)) (Fl.lnTo t (Fl.lnFrom t ((low + high) / 2)))) 32).2.1, !key.toList.isEmpty)
    else srch t key g low (Fl.lnFrom t ((low + high) / 2))

def LineJ (t key : ByteArray) (r : ByteArray × Bool) (w : World) (a' : Act) (w' : World) : Prop :=
  Drawn0 w w' ∧ ∃ (low high : Nat) (u4 u8 u9 u10 u13 u14 u15 u16 u17 u18 u19 u20 u21 u22 u23 u24 u25 u26 u27 u28 u29 u30 u31 u32 u33 u34 u35 u36 u37 u38 u39 u40 u41 u42 u43 u44 u45 u46 u47 : Value), a' = { tmps := #[.string t, .string key, undef, undef, u4, .bool false, .int .i64 low, .int .i64 high, u8, u9, u10, .string t, .int .i64 t.size, u13, u14, u15, u16, u17, u18, u19, u20, u21, u22, u23, u24, u25, u26, u27, u28, u29, u30, u31, u32, u33, u34, u35, u36, u37, u38, u39, u40, u41, u42, u43, u44, u45, u46, u47], defers := [] } ∧ high ≤ t.size ∧ Hid (∃ g, srch t key g low high = some r) ∧ low ≤ t.size + 1

set_option maxHeartbeats 4000000 in
set_option maxRecDepth 100000 in
theorem line_calls (t key : ByteArray) (r : ByteArray × Bool) (w : World) (ht : t.size < 4294967296) (hr : ∃ g, srch t key g 0 t.size = some r) :
    Calls Tryd.prog 64 #[.string t, .string key] w fun e w' => e = .returned (.tuple #[.string r.1, .bool r.2]) ∧ Drawn0 w w' := by
  have HR := Lib.hid hr
  clear hr
  go_enter Tryd.func64, Tryd.ntmps64
  go_wp2
  refine wp_scope_once 0 (LineJ t key r w) (fun a' _ => (intOf (a'.tmps.getD 7 undef) - intOf (a'.tmps.getD 6 undef)).toNat) rfl ?_ ?_
  · rintro a' w' ⟨⟨⟨nd, rfl⟩⟩, low, high, u4, u8, u9, u10, u13, u14, u15, u16, u17, u18, u19, u20, u21, u22, u23, u24, u25, u26, u27, u28, u29, u30, u31, u32, u33, u34, u35, u36, u37, u38, u39, u40, u41, u42, u43, u44, u45, u46, u47, rfl, hh, HG, hlow⟩
    by_cases hle : high ≤ low
    · obtain ⟨g, hg⟩ := HG.out
      have hres : r = (⟨#[]⟩, false) := by
        cases g with
        | zero => simp [srch] at hg
        | succ g => simp only [srch, if_pos hle] at hg; exact (Option.some.inj hg).symm
      subst hres
      clear hg HG HR
      go_wp2
      simp only [Exit.jump]
      go_ret2
      exact ⟨rfl, ⟨⟨_, rfl⟩⟩⟩
    · obtain ⟨i, hi⟩ : ∃ i : Nat, i = (low + high) / 2 := ⟨_, rfl⟩
      have hi1 : low ≤ i := by omega
      have hi2 : i < high := by omega
      have hdiv : ((low : Int) + (high : Int)) / 2 = (i : Int) := by omega
      have hlf := line_f t i ht (by omega)
      have ⟨ha1, _⟩ := Fl.lnFrom_le t i (by omega)
      have ⟨hb1, hb2⟩ := Fl.lnTo_range t (Fl.lnFrom t i) (by omega)
      have hb3 := Fl.lnTo_ge t i (by omega)
      obtain ⟨g, hg⟩ := HG.out
      have hg2 : ∃ g', srch t key (g' + 1) low high = some r := by
        cases g with
        | zero => simp [srch] at hg
        | succ g => exact ⟨g, hg⟩
      obtain ⟨g, hg⟩ := hg2
      simp only [srch, if_neg hle, ← hi] at hg
      have hcut := fun W hs => cut_calls (t.extract (Fl.lnFrom t i) (Fl.lnTo t (Fl.lnFrom t i))) 32 W hs
      have hcs : (t.extract (Fl.lnFrom t i) (Fl.lnTo t (Fl.lnFrom t i))).size ≤ 9223372036854775807 := by rw [Fl.size_extract _ _ _ hb2]; omega
      generalize Fl.lnFrom t i = a at *
      generalize Fl.lnTo t a = b at *
      obtain ⟨C, hC⟩ : ∃ C, cutB (t.extract a b) 32 = C := ⟨_, rfl⟩
      rw [hC] at hg hcut
      clear hC
      obtain ⟨k, rest, is⟩ := C
      have HLF := Lib.hid hlf
      have HDIV := Lib.hid hdiv
      have c1 : (0 : Int) ≤ (a : Int) := by omega
      have c2 : (a : Int) ≤ (b : Int) := by omega
      have c3 : (b : Int) ≤ (t.size : Int) := by omega
      clear hlf hi HG
      by_cases hk1 : Op.bytesLess k.toList key.toList = true
      · rw [if_pos hk1] at hg
        have Hg := Lib.hid hg
        clear hg
        go_wp2_with (first | (go_at_call 74; refine (search_line.calls _ _ _ _ _ HLF.out).mono ?_; rintro e w1 ⟨rfl, ⟨⟨n1, rfl⟩⟩⟩) | (go_at_call 65; refine (hcut _ hcs).mono ?_; rintro e w2 ⟨rfl, ⟨⟨n2, rfl⟩⟩⟩))
        go_step3
        refine ⟨rfl, ⟨⟨⟨_, rfl⟩⟩, b + 1, high, _, _, _, _, _, _, _, _, _, _, _, _, _, _, _, _, _, _, _, _, _, _, _, _, _, _, _, _, _, _, _, _, _, _, _, _, _, _, _, rfl, hh, Lib.hid ⟨g, Hg.out⟩, by omega⟩, ?_⟩
        simp [intOf]; omega
      · have hk1b : Op.bytesLess k.toList key.toList = false := by simpa using hk1
        rw [if_neg hk1] at hg
        clear hk1
        by_cases hk2 : (k.toList == key.toList) = true
        · rw [if_pos hk2] at hg
          obtain rfl := Option.some.inj hg
          clear hg
          go_wp2_with (first | (go_at_call 74; refine (search_line.calls _ _ _ _ _ HLF.out).mono ?_; rintro e w1 ⟨rfl, ⟨⟨n1, rfl⟩⟩⟩) | (go_at_call 65; refine (hcut _ hcs).mono ?_; rintro e w2 ⟨rfl, ⟨⟨n2, rfl⟩⟩⟩))
          simp only [Exit.jump]
          go_ret2
          exact ⟨by first | rfl | (simp; done) | (simp [*]; done), ⟨⟨_, rfl⟩⟩⟩
        · have hk2b : (k.toList == key.toList) = false := by simpa using hk2
          rw [if_neg hk2] at hg
          have Hg := Lib.hid hg
          clear hg hk2
          go_wp2_with (first | (go_at_call 74; refine (search_line.calls _ _ _ _ _ HLF.out).mono ?_; rintro e w1 ⟨rfl, ⟨⟨n1, rfl⟩⟩⟩) | (go_at_call 65; refine (hcut _ hcs).mono ?_; rintro e w2 ⟨rfl, ⟨⟨n2, rfl⟩⟩⟩))
          go_step3
          refine ⟨rfl, ⟨⟨⟨_, rfl⟩⟩, low, a, _, _, _, _, _, _, _, _, _, _, _, _, _, _, _, _, _, _, _, _, _, _, _, _, _, _, _, _, _, _, _, _, _, _, _, _, _, _, _, rfl, by omega, Lib.hid ⟨g, Hg.out⟩, by omega⟩, ?_⟩
          simp [intOf]; omega
  · intro pass
    go_wp2
    go_step3
    rename_i hK
    exact hK _ _ (pass _ _ ⟨Drawn0.refl _, 0, t.size, _, _, _, _, _, _, _, _, _, _, _, _, _, _, _, _, _, _, _, _, _, _, _, _, _, _, _, _, _, _, _, _, _, _, _, _, _, _, _, rfl, Nat.le_refl _, HR, by omega⟩)

def search_Line.f (a0 : ByteArray) (a1 : ByteArray) : Option (ByteArray × Bool) := if a0.size < 4294967296 then srch a0 a1 (a0.size + 2) 0 a0.size else none
theorem search_Line.calls (a0 : ByteArray) (a1 : ByteArray) (r1 : ByteArray) (r2 : Bool) (w : World) (h : search_Line.f a0 a1 = some (r1, r2)) :
    Calls Tryd.prog 64 #[.string a0, .string a1] w fun e w' => e = .returned (.tuple #[.string r1, .bool r2]) ∧ Drawn0 w w' := by
  unfold search_Line.f at h
  split at h
  · rename_i hs
    exact line_calls a0 a1 (r1, r2) w hs ⟨_, h⟩
  · cases h

end Go.Proofs.YtfhjfidkcdcjnaaDoor.Q

/- What the search by halving finds, among lines whose keys rise: the line with the key, if there is one. -/
namespace Go.Proofs.YtfhjfidkcdcjnaaDoor.Fl
open Go

abbrev less := Op.bytesLess
theorem less_irrefl : ∀ x, less x x = false
  | [] => rfl
  | a :: x => by simp [less, Op.bytesLess]; exact less_irrefl x
theorem less_trans : ∀ x y z, less x y = true → less y z = true → less x z = true
  | _, [], _, h, _ => by simp [less, Op.bytesLess] at h
  | _, _ :: _, [], _, h => by simp [less, Op.bytesLess] at h
  | [], _ :: _, _ :: _, _, _ => rfl
  | a :: x, b :: y, c :: z, h1, h2 => by
    simp only [less, Op.bytesLess, Bool.or_eq_true, decide_eq_true_eq, Bool.and_eq_true, beq_iff_eq, UInt8.lt_iff_toNat_lt] at h1 h2 ⊢
    rcases h1 with h1 | ⟨rfl, h1⟩ <;> rcases h2 with h2 | ⟨rfl, h2⟩
    · exact .inl (by omega)
    · exact .inl h1
    · exact .inl h2
    · exact .inr ⟨rfl, less_trans x y z h1 h2⟩
theorem less_tri : ∀ x y, less x y = false → x ≠ y → less y x = true
  | [], [], _, h => absurd rfl h
  | [], _ :: _, h, _ => by simp [less, Op.bytesLess] at h
  | _ :: _, [], _, _ => rfl
  | a :: x, b :: y, h1, h2 => by
    simp only [less, Op.bytesLess, Bool.or_eq_false_iff, Bool.or_eq_true, decide_eq_true_eq, decide_eq_false_iff_not, Bool.and_eq_true, Bool.and_eq_false_iff, beq_iff_eq, beq_eq_false_iff_ne, UInt8.lt_iff_toNat_lt] at h1 ⊢
    by_cases hab : a = b
    · subst hab
      refine .inr ⟨rfl, less_tri x y ?_ (fun e => h2 (by rw [e]))⟩
      rcases h1.2 with h | h
      · exact absurd rfl h
      · exact h
    · refine .inl ?_
      have : a.toNat ≠ b.toNat := fun e => hab (UInt8.toNat_inj.1 e)
      omega

theorem indexByte_key (x : Bs) : Lib.indexByte x 32 = if 32 ∈ x then ((keyOf x).length : Int) else -1 := by
  unfold keyOf
  induction x with
  | nil => rfl
  | cons b x ih =>
    by_cases hb : b = 32
    · subst hb; simp [Lib.indexByte]
    · have h1 : (b == 32) = false := by simpa using hb
      have h2 : (b.toNat != 32) = true := by
        rw [bne_iff_ne]; exact fun e => hb (UInt8.toNat_inj.1 e)
      have h3 : (32 ∈ b :: x) ↔ 32 ∈ x := by simp [Ne.symm hb]
      simp only [Lib.indexByte, h1, ih, List.takeWhile_cons, h2, h3]
      by_cases h32 : 32 ∈ x
      · simp only [h32, if_true]
        have : (((x.takeWhile fun c => c.toNat != 32).length : Int) == -1) = false := by rw [beq_eq_false_iff_ne]; omega
        simp [this]
      · simp [h32]
theorem key_full {x : Bs} (h : ¬ 32 ∈ x) : keyOf x = x ∧ restOf x = [] := by
  unfold keyOf restOf
  induction x with
  | nil => exact ⟨rfl, rfl⟩
  | cons b x ih =>
    have hb : (b.toNat != 32) = true := by
      rw [bne_iff_ne]; intro e; have : b = 32 := UInt8.toNat_inj.1 e; exact h (by simp [this])
    obtain ⟨h1, h2⟩ := ih (fun hx => h (by simp [hx]))
    simp only [List.takeWhile_cons, List.dropWhile_cons, hb, if_true]
    exact ⟨by rw [h1], h2⟩
theorem rest_drop (x : Bs) : restOf x = x.drop ((keyOf x).length + 1) := by
  induction x with
  | nil => rfl
  | cons b x ih =>
    unfold restOf keyOf at *
    by_cases hb : (b.toNat != 32) = true
    · simp only [List.dropWhile_cons, List.takeWhile_cons, hb, if_true, List.length_cons, List.drop_succ_cons, ih]
    · simp only [List.dropWhile_cons, List.takeWhile_cons, hb, if_false, List.length_nil, Nat.zero_add]; rfl
theorem key_take (x : Bs) : keyOf x = x.take (keyOf x).length := by
  induction x with
  | nil => rfl
  | cons b x ih =>
    unfold keyOf at *
    by_cases hb : (b.toNat != 32) = true
    · simp only [List.takeWhile_cons, hb, if_true, List.length_cons, List.take_succ_cons]; rw [← ih]
    · simp [List.takeWhile_cons, hb]
theorem key_length (x : Bs) : (keyOf x).length ≤ x.length := by
  have := congrArg List.length (key_take x); rw [List.length_take] at this; omega
theorem cutB_key (s : ByteArray) : toL (Q.cutB s 32).1 = keyOf (toL s) ∧ toL (Q.cutB s 32).2.1 = restOf (toL s) := by
  unfold Q.cutB
  rw [indexByte_key]
  by_cases h : 32 ∈ toL s
  · rw [if_pos h, if_neg (by omega)]
    have hl := key_length (toL s)
    rw [toL_length] at hl
    simp only [Int.toNat_natCast, extract_toL]
    constructor
    · rw [List.drop_zero, Nat.sub_zero, ← key_take]
    · rw [rest_drop, List.take_of_length_le]
      rw [List.length_drop, toL_length]; omega
  · rw [if_neg h, if_pos (by decide)]
    obtain ⟨h1, h2⟩ := key_full h
    rw [h1, h2]; exact ⟨rfl, rfl⟩
theorem toList_toL (s : ByteArray) : s.toList = toL s := ByteArray.toList_eq s

def hiO (t : ByteArray) (ls : List Bs) (b : Nat) : Nat := if b = ls.length then t.size else off ls b
/-- What the search finds. -/
def look (ls : List Bs) (key : Bs) : ByteArray × Bool := match ls.find? fun l => keyOf l == key with
  | some l => (ofL (restOf l), !key.isEmpty)
  | none => (ofL [], false)
theorem find_at (ls : List Bs) (p : Bs → Bool) (k : Nat) (hk : k < ls.length) (h : p ls[k] = true) (hb : ∀ j, (hj : j < k) → p (ls[j]'(by omega)) = false) : ls.find? p = some ls[k] := by
  induction ls generalizing k with
  | nil => simp at hk
  | cons x ls ih =>
    cases k with
    | zero => simp at h; simp [h]
    | succ k =>
      have h0 := hb 0 (by omega)
      simp at h0
      rw [List.find?_cons, h0]
      have := ih k (by simpa using hk) (by simpa using h) (fun j hj => by simpa using hb (j + 1) (by omega))
      simpa using this

theorem srch_succ (t key : ByteArray) (g low high : Nat) : Q.srch t key (g + 1) low high = if high ≤ low then some (⟨#[]⟩, false) else
    if Op.bytesLess (Q.cutB (t.extract (lnFrom t ((low + high) / 2)) (lnTo t (lnFrom t ((low + high) / 2)))) 32).1.toList key.toList = true then Q.srch t key g (lnTo t (lnFrom t ((low + high) / 2)) + 1) high else
    if ((Q.cutB (t.extract (lnFrom t ((low + high) / 2)) (lnTo t (lnFrom t ((low + high) / 2)))) 32).1.toList == key.toList) = true then some ((Q.cutB (t.extract (lnFrom t ((low + high) / 2)) (lnTo t (lnFrom t ((low + high) / 2)))) 32).2.1, !key.toList.isEmpty)
    else Q.srch t key g low (lnFrom t ((low + high) / 2)) := rfl
theorem srch_spec {t key : ByteArray} {ls : List Bs} (ht : toL t = joinL ls) (h10 : ∀ x ∈ ls, ∀ c ∈ x, c ≠ 10) (hne : ∀ x ∈ ls, x ≠ [])
    (hs : ∀ i j (hi : i < j) (hj : j < ls.length), less (keyOf (ls[i]'(by omega))) (keyOf ls[j]) = true) (hn0 : ls ≠ []) :
    ∀ d a b, b - a ≤ d → (hab : a ≤ b) → (hb : b ≤ ls.length) → (∀ j (hj : j < a), less (keyOf (ls[j]'(by omega))) (toL key) = true) → (∀ j (_ : b ≤ j) (hj : j < ls.length), less (toL key) (keyOf ls[j]) = true) →
      Q.srch t key (d + 1) (off ls a) (hiO t ls b) = some (look ls (toL key)) := by
  have hsz : t.size + 1 = off ls ls.length := by
    have := joinL_length ls hn0
    have h2 := congrArg List.length ht
    rw [toL_length] at h2; omega
  intro d
  induction d with
  | zero =>
    intro a b hd hab hb hlo hhi
    have : a = b := by omega
    subst this
    have hle : hiO t ls a ≤ off ls a := by
      unfold hiO; split
      · rename_i e; rw [e]; omega
      · exact Nat.le_refl _
    rw [srch_succ, if_pos hle]
    have hn : ls.find? (fun l => keyOf l == toL key) = none := by
     refine List.find?_eq_none.2 ?_
     intro x hx
     obtain ⟨j, hj, rfl⟩ := List.getElem_of_mem hx
     simp only [beq_iff_eq]
     intro e
     rcases Nat.lt_or_ge j a with h | h
     · have := hlo j h; rw [e, less_irrefl] at this; cases this
     · have := hhi j h hj; rw [e, less_irrefl] at this; cases this
    unfold look
    rw [hn]; rfl
  | succ d ih =>
    intro a b hd hab hb hlo hhi
    rcases Nat.eq_or_lt_of_le hab with rfl | hlt
    · have hle : hiO t ls a ≤ off ls a := by
        unfold hiO; split
        · rename_i e; rw [e]; omega
        · exact Nat.le_refl _
      rw [show Q.srch t key (d + 1 + 1) (off ls a) (hiO t ls a) = some (⟨#[]⟩, false) from by rw [srch_succ, if_pos hle]]
      have := ih a a (by omega) (Nat.le_refl _) hb hlo hhi
      rw [← this, srch_succ, if_pos hle]
    · have hla : ls[a]'(by omega) ≠ [] := hne _ (List.getElem_mem _)
      have hla' : 1 ≤ (ls[a]'(by omega)).length := by
        rcases h : ls[a]'(by omega) with _ | _
        · exact absurd h hla
        · simp
      have h6 := off_succ ls a (by omega)
      have hm := off_mono ls (a := a + 1) (b := b) (by omega) hb
      have hhb : hiO t ls b ≤ off ls b ∧ off ls b ≤ hiO t ls b + 1 := by
        unfold hiO; split
        · rename_i e; rw [e]; omega
        · omega
      have hgt : ¬ hiO t ls b ≤ off ls a := by omega
      obtain ⟨i, hi⟩ : ∃ i, i = (off ls a + hiO t ls b) / 2 := ⟨_, rfl⟩
      obtain ⟨k, hk, hak, hkb, hk1, hk2⟩ := in_line ht h10 i b a hlt hb (by omega) (by omega)
      have hf := lnFrom_at ht h10 k hk i hk1 hk2
      have hto := lnTo_at ht h10 k hk
      have hfit := line_fits ht k hk
      have hlin : toL (t.extract (off ls k) (off ls k + ls[k].length)) = ls[k] := by
        obtain ⟨r, h, _⟩ := joinL_at ls k hk
        rw [extract_toL, ht, h, Nat.add_sub_cancel_left, List.take_left' rfl]
      have hcut := cutB_key (t.extract (off ls k) (off ls k + ls[k].length))
      rw [hlin] at hcut
      have h7 := off_succ ls k hk
      rw [srch_succ, if_neg hgt, ← hi, hf, hto, toList_toL, toList_toL, hcut.1]
      by_cases hc1 : Op.bytesLess (keyOf ls[k]) (toL key) = true
      · rw [if_pos hc1, ← h7]
        exact ih (k + 1) b (by omega) (by omega) hb (fun j hj => by
          rcases Nat.lt_or_ge j k with h | h
          · exact less_trans _ _ _ (hs j k h hk) hc1
          · have : j = k := by omega
            subst this; exact hc1) hhi
      · rw [if_neg hc1]
        by_cases hc2 : keyOf ls[k] = toL key
        · have hc2b : (keyOf ls[k] == toL key) = true := by rw [hc2]; exact beq_self_eq_true _
          rw [if_pos hc2b]
          have hfd := find_at ls (fun l => keyOf l == toL key) k hk (by simpa using hc2) (fun j hj => by
            have := hs j k hj hk
            rw [beq_eq_false_iff_ne]
            intro e
            rw [e, hc2, less_irrefl] at this; cases this)
          unfold look
          rw [hfd]
          refine congrArg some (Prod.ext (toL_inj ?_) rfl)
          show toL _ = toL (ofL (restOf ls[k]))
          rw [toL_ofL]; exact hcut.2
        · have hc2b : ¬ (keyOf ls[k] == toL key) = true := fun h => hc2 (by simpa using h)
          rw [if_neg hc2b]
          have hg : less (toL key) (keyOf ls[k]) = true := less_tri _ _ (Bool.eq_false_iff.2 hc1) hc2
          have := ih a k (by omega) hak (by omega) hlo (fun j hj1 hj2 => by
            rcases Nat.lt_or_ge k j with h | h
            · exact less_trans _ _ _ hg (hs k j h hj2)
            · have : j = k := by omega
              subst this; exact hg)
          rw [show hiO t ls k = off ls k from by unfold hiO; rw [if_neg (by omega)]] at this
          exact this
end Go.Proofs.YtfhjfidkcdcjnaaDoor.Fl

/- The table of names, as the program holds it. -/
namespace Go.Proofs.YtfhjfidkcdcjnaaDoor.Q
open Go.RowKit Go.Proofs.YtfhjfidkcdcjnaaDoorW.PrintWords Go.Proofs.YtfhjfidkcdcjnaaDoorW.PrintLast Go.Proofs.YtfhjfidkcdcjnaaDoorW.PrintMore

/-- The text that is the first argument of the one call in a function's second region. -/
def textOf (f : Func) : ByteArray :=
  match f.body with
  | some (.seq _ (.seq (.region _ ops _) _)) => match ops.toList with
    | [_, _, o, _] => match o.op with
      | .call r => match r.args.toList with
        | .const (.string s) :: _ => s
        | _ => ByteArray.empty
      | _ => ByteArray.empty
    | _ => ByteArray.empty
  | _ => ByteArray.empty
noncomputable def namesB : ByteArray := textOf Tryd.f48

end Go.Proofs.YtfhjfidkcdcjnaaDoor.Q

namespace Go.Proofs.YtfhjfidkcdcjnaaDoor.Q
open Go.RowKit Go.Proofs.YtfhjfidkcdcjnaaDoorW.PrintWords Go.Proofs.YtfhjfidkcdcjnaaDoorW.PrintLast Go.Proofs.YtfhjfidkcdcjnaaDoorW.PrintMore
attribute [local go_sem] max2_int min2_int max_two min_two max_three min_three max_four min_four   -- for this text's walks alone
set_option linter.unusedVariables false
set_option linter.unusedSimpArgs false

/-! ### sign_within: function 35 -/
noncomputable def sign_within.f (a0 : Int) (a1 : Int) (a2 : Int) : Option (Bool) := if a0 ≥ a1 then (some (decide (a0 ≤ a2))) else (some false)
set_option maxHeartbeats 8000000 in
set_option maxRecDepth 100000 in
theorem sign_within.calls (a0 : Int) (a1 : Int) (a2 : Int) (r : Bool) (w : World) (h : sign_within.f a0 a1 a2 = some r) :
    Calls Tryd.prog 35 #[.int .u8 a0, .int .u8 a1, .int .u8 a2] w fun e w' => e = .returned (.bool r) ∧ Drawn0 w w' := by
  have H : (if a0 ≥ a1 then (some (decide (a0 ≤ a2))) else (some false)) = some r := h
  clear h
  by_cases c4 : a0 ≥ a1
  · rw [if_pos c4] at H
    have c4b0 : decide (a1 ≤ a0) = true := decide_eq_true c4
    clear c4
    obtain rfl := Option.some.inj H
    go_enter Tryd.func35, Tryd.ntmps35
    go_wp2
    go_ret
    exact ⟨by first | rfl | (simp; done) | (simp [*]; done), by repeat (first | exact Drawn0.refl _ | apply Drawn0.step)⟩
  · rw [if_neg c4] at H
    have c4b0 : decide (a1 ≤ a0) = false := decide_eq_false c4
    clear c4
    obtain rfl := Option.some.inj H
    go_enter Tryd.func35, Tryd.ntmps35
    go_wp2
    go_ret
    exact ⟨by first | rfl | (simp; done) | (simp [*]; done), by repeat (first | exact Drawn0.refl _ | apply Drawn0.step)⟩

end Go.Proofs.YtfhjfidkcdcjnaaDoor.Q

namespace Go.Proofs.YtfhjfidkcdcjnaaDoor.Q
open Go.RowKit Go.Proofs.YtfhjfidkcdcjnaaDoorW.PrintWords Go.Proofs.YtfhjfidkcdcjnaaDoorW.PrintLast Go.Proofs.YtfhjfidkcdcjnaaDoorW.PrintMore
attribute [local go_sem] max2_int min2_int max_two min_two max_three min_three max_four min_four   -- for this text's walks alone
set_option linter.unusedVariables false
set_option linter.unusedSimpArgs false

/-! ### sign_Digit: function 60 -/
noncomputable def sign_Digit.f (a0 : Int) : Option (Bool) := (sign_within.f a0 48 57).bind fun t101 => (some t101)
set_option maxHeartbeats 8000000 in
set_option maxRecDepth 100000 in
theorem sign_Digit.calls (a0 : Int) (r : Bool) (w : World) (h : sign_Digit.f a0 = some r) :
    Calls Tryd.prog 60 #[.int .u8 a0] w fun e w' => e = .returned (.bool r) ∧ Drawn0 w w' := by
  have H : ((sign_within.f a0 48 57).bind fun t101 => (some t101)) = some r := h
  clear h
  replace H := Option.bind_eq_some_iff.mp H
  obtain ⟨t101, A20, H⟩ := H
  replace H : (some t101) = some r := H
  have A2 := Aside0.mk A20
  clear A20
  obtain rfl := Option.some.inj H
  go_enter Tryd.func60, Tryd.ntmps60
  go_wp2_with (first | ((with_reducible refine gate_callee (f := 35) rfl ?_); refine goesL_ (some 4) rfl rfl Tryd.func35 (by kernel_rfl) rfl #[.int .u8 a0, .int .u8 48, .int .u8 57] rfl (by (try simp only [List.map_toArray, List.map_cons, List.map_nil]); first | done | rfl | (simp only [List.length_drop, List.length_take]; rfl)) ?_; (with_reducible refine (sign_within.calls a0 48 57 t101 _ A2.out).mono ?_); rintro e w' ⟨rfl, ⟨nd, rfl⟩⟩; refine ⟨_, rfl, ?_⟩))
  go_ret
  exact ⟨by first | rfl | (simp; done) | (simp [*]; done), by repeat (first | exact Drawn0.refl _ | apply Drawn0.step)⟩

end Go.Proofs.YtfhjfidkcdcjnaaDoor.Q

namespace Go.Proofs.YtfhjfidkcdcjnaaDoor.Q
open Go.RowKit Go.Proofs.YtfhjfidkcdcjnaaDoorW.PrintWords Go.Proofs.YtfhjfidkcdcjnaaDoorW.PrintLast Go.Proofs.YtfhjfidkcdcjnaaDoorW.PrintMore
attribute [local go_sem] max2_int min2_int max_two min_two max_three min_three max_four min_four   -- for this text's walks alone
set_option linter.unusedVariables false
set_option linter.unusedSimpArgs false

/-! ### sign_Hex: function 61 -/
noncomputable def sign_Hex.f (a0 : Int) : Option (Int) := (sign_Digit.f a0).bind fun t102 => (if t102 = true then (some (wrap64 ((wrap64 (a0)) - 48))) else ((sign_within.f a0 65 70).bind fun t103 => (if t103 = true then (some (wrap64 ((wrap64 ((wrap64 ((wrap64 (a0)) + 32)) - 97)) + 10))) else ((sign_within.f a0 97 102).bind fun t104 => (if t104 = true then (some (wrap64 ((wrap64 ((wrap64 (a0)) - 97)) + 10))) else (some (-1)))))))
set_option maxHeartbeats 8000000 in
set_option maxRecDepth 100000 in
theorem sign_Hex.calls (a0 : Int) (r : Int) (w : World) (h : sign_Hex.f a0 = some r) :
    Calls Tryd.prog 61 #[.int .u8 a0] w fun e w' => e = .returned (.int .i64 r) ∧ Drawn0 w w' := by
  have H : ((sign_Digit.f a0).bind fun t102 => (if t102 = true then (some (wrap64 ((wrap64 (a0)) - 48))) else ((sign_within.f a0 65 70).bind fun t103 => (if t103 = true then (some (wrap64 ((wrap64 ((wrap64 ((wrap64 (a0)) + 32)) - 97)) + 10))) else ((sign_within.f a0 97 102).bind fun t104 => (if t104 = true then (some (wrap64 ((wrap64 ((wrap64 (a0)) - 97)) + 10))) else (some (-1)))))))) = some r := h
  clear h
  replace H := Option.bind_eq_some_iff.mp H
  obtain ⟨t102, A20, H⟩ := H
  replace H : (if t102 = true then (some (wrap64 ((wrap64 (a0)) - 48))) else ((sign_within.f a0 65 70).bind fun t103 => (if t103 = true then (some (wrap64 ((wrap64 ((wrap64 ((wrap64 (a0)) + 32)) - 97)) + 10))) else ((sign_within.f a0 97 102).bind fun t104 => (if t104 = true then (some (wrap64 ((wrap64 ((wrap64 (a0)) - 97)) + 10))) else (some (-1))))))) = some r := H
  have A2 := Aside0.mk A20
  clear A20
  by_cases c3 : t102 = true
  · subst c3
    have H1 : (some (wrap64 ((wrap64 (a0)) - 48))) = some r := by rw [if_pos rfl] at H; exact H
    clear H
    have H := H1
    clear H1
    obtain rfl := Option.some.inj H
    go_enter Tryd.func61, Tryd.ntmps61
    go_wp2_with (first | ((with_reducible refine gate_callee (f := 60) rfl ?_); refine goesL_ (some 8) rfl rfl Tryd.func60 (by kernel_rfl) rfl #[.int .u8 a0] rfl (by (try simp only [List.map_toArray, List.map_cons, List.map_nil]); first | done | rfl | (simp only [List.length_drop, List.length_take]; rfl)) ?_; (with_reducible refine (sign_Digit.calls a0 true _ A2.out).mono ?_); rintro e w' ⟨rfl, ⟨nd, rfl⟩⟩; refine ⟨_, rfl, ?_⟩))
    go_ret
    exact ⟨by first | rfl | (simp; done) | (simp [*]; done), by repeat (first | exact Drawn0.refl _ | apply Drawn0.step)⟩
  · replace c3 := Bool.eq_false_iff.mpr c3
    subst c3
    have H1 : ((sign_within.f a0 65 70).bind fun t103 => (if t103 = true then (some (wrap64 ((wrap64 ((wrap64 ((wrap64 (a0)) + 32)) - 97)) + 10))) else ((sign_within.f a0 97 102).bind fun t104 => (if t104 = true then (some (wrap64 ((wrap64 ((wrap64 (a0)) - 97)) + 10))) else (some (-1)))))) = some r := by rw [if_neg (show ¬ (false = true) by decide)] at H; exact H
    clear H
    have H := H1
    clear H1
    replace H := Option.bind_eq_some_iff.mp H
    obtain ⟨t103, A40, H⟩ := H
    replace H : (if t103 = true then (some (wrap64 ((wrap64 ((wrap64 ((wrap64 (a0)) + 32)) - 97)) + 10))) else ((sign_within.f a0 97 102).bind fun t104 => (if t104 = true then (some (wrap64 ((wrap64 ((wrap64 (a0)) - 97)) + 10))) else (some (-1))))) = some r := H
    have A4 := Aside0.mk A40
    clear A40
    by_cases c5 : t103 = true
    · subst c5
      have H1 : (some (wrap64 ((wrap64 ((wrap64 ((wrap64 (a0)) + 32)) - 97)) + 10))) = some r := by rw [if_pos rfl] at H; exact H
      clear H
      have H := H1
      clear H1
      obtain rfl := Option.some.inj H
      go_enter Tryd.func61, Tryd.ntmps61
      go_wp2_with (first | ((with_reducible refine gate_callee (f := 60) rfl ?_); refine goesL_ (some 8) rfl rfl Tryd.func60 (by kernel_rfl) rfl #[.int .u8 a0] rfl (by (try simp only [List.map_toArray, List.map_cons, List.map_nil]); first | done | rfl | (simp only [List.length_drop, List.length_take]; rfl)) ?_; (with_reducible refine (sign_Digit.calls a0 false _ A2.out).mono ?_); rintro e w' ⟨rfl, ⟨nd, rfl⟩⟩; refine ⟨_, rfl, ?_⟩) | ((with_reducible refine gate_callee (f := 35) rfl ?_); refine goesL_ (some 11) rfl rfl Tryd.func35 (by kernel_rfl) rfl #[.int .u8 a0, .int .u8 65, .int .u8 70] rfl (by (try simp only [List.map_toArray, List.map_cons, List.map_nil]); first | done | rfl | (simp only [List.length_drop, List.length_take]; rfl)) ?_; (with_reducible refine (sign_within.calls a0 65 70 true _ A4.out).mono ?_); rintro e w' ⟨rfl, ⟨nd, rfl⟩⟩; refine ⟨_, rfl, ?_⟩))
      go_ret
      exact ⟨by first | rfl | (simp; done) | (simp [*]; done), by repeat (first | exact Drawn0.refl _ | apply Drawn0.step)⟩
    · replace c5 := Bool.eq_false_iff.mpr c5
      subst c5
      have H1 : ((sign_within.f a0 97 102).bind fun t104 => (if t104 = true then (some (wrap64 ((wrap64 ((wrap64 (a0)) - 97)) + 10))) else (some (-1)))) = some r := by rw [if_neg (show ¬ (false = true) by decide)] at H; exact H
      clear H
      have H := H1
      clear H1
      replace H := Option.bind_eq_some_iff.mp H
      obtain ⟨t104, A60, H⟩ := H
      replace H : (if t104 = true then (some (wrap64 ((wrap64 ((wrap64 (a0)) - 97)) + 10))) else (some (-1))) = some r := H
      have A6 := Aside0.mk A60
      clear A60
      by_cases c7 : t104 = true
      · subst c7
        have H1 : (some (wrap64 ((wrap64 ((wrap64 (a0)) - 97)) + 10))) = some r := by rw [if_pos rfl] at H; exact H
        clear H
        have H := H1
        clear H1
        obtain rfl := Option.some.inj H
        go_enter Tryd.func61, Tryd.ntmps61
        go_wp2_with (first | ((with_reducible refine gate_callee (f := 60) rfl ?_); refine goesL_ (some 8) rfl rfl Tryd.func60 (by kernel_rfl) rfl #[.int .u8 a0] rfl (by (try simp only [List.map_toArray, List.map_cons, List.map_nil]); first | done | rfl | (simp only [List.length_drop, List.length_take]; rfl)) ?_; (with_reducible refine (sign_Digit.calls a0 false _ A2.out).mono ?_); rintro e w' ⟨rfl, ⟨nd, rfl⟩⟩; refine ⟨_, rfl, ?_⟩) | ((with_reducible refine gate_callee (f := 35) rfl ?_); refine goesL_ (some 11) rfl rfl Tryd.func35 (by kernel_rfl) rfl #[.int .u8 a0, .int .u8 65, .int .u8 70] rfl (by (try simp only [List.map_toArray, List.map_cons, List.map_nil]); first | done | rfl | (simp only [List.length_drop, List.length_take]; rfl)) ?_; (with_reducible refine (sign_within.calls a0 65 70 false _ A4.out).mono ?_); rintro e w' ⟨rfl, ⟨nd, rfl⟩⟩; refine ⟨_, rfl, ?_⟩) | ((with_reducible refine gate_callee (f := 35) rfl ?_); refine goesL_ (some 14) rfl rfl Tryd.func35 (by kernel_rfl) rfl #[.int .u8 a0, .int .u8 97, .int .u8 102] rfl (by (try simp only [List.map_toArray, List.map_cons, List.map_nil]); first | done | rfl | (simp only [List.length_drop, List.length_take]; rfl)) ?_; (with_reducible refine (sign_within.calls a0 97 102 true _ A6.out).mono ?_); rintro e w' ⟨rfl, ⟨nd, rfl⟩⟩; refine ⟨_, rfl, ?_⟩))
        go_ret
        exact ⟨by first | rfl | (simp; done) | (simp [*]; done), by repeat (first | exact Drawn0.refl _ | apply Drawn0.step)⟩
      · replace c7 := Bool.eq_false_iff.mpr c7
        subst c7
        have H1 : (some (-1)) = some r := by rw [if_neg (show ¬ (false = true) by decide)] at H; exact H
        clear H
        have H := H1
        clear H1
        obtain rfl := Option.some.inj H
        go_enter Tryd.func61, Tryd.ntmps61
        go_wp2_with (first | ((with_reducible refine gate_callee (f := 60) rfl ?_); refine goesL_ (some 8) rfl rfl Tryd.func60 (by kernel_rfl) rfl #[.int .u8 a0] rfl (by (try simp only [List.map_toArray, List.map_cons, List.map_nil]); first | done | rfl | (simp only [List.length_drop, List.length_take]; rfl)) ?_; (with_reducible refine (sign_Digit.calls a0 false _ A2.out).mono ?_); rintro e w' ⟨rfl, ⟨nd, rfl⟩⟩; refine ⟨_, rfl, ?_⟩) | ((with_reducible refine gate_callee (f := 35) rfl ?_); refine goesL_ (some 11) rfl rfl Tryd.func35 (by kernel_rfl) rfl #[.int .u8 a0, .int .u8 65, .int .u8 70] rfl (by (try simp only [List.map_toArray, List.map_cons, List.map_nil]); first | done | rfl | (simp only [List.length_drop, List.length_take]; rfl)) ?_; (with_reducible refine (sign_within.calls a0 65 70 false _ A4.out).mono ?_); rintro e w' ⟨rfl, ⟨nd, rfl⟩⟩; refine ⟨_, rfl, ?_⟩) | ((with_reducible refine gate_callee (f := 35) rfl ?_); refine goesL_ (some 14) rfl rfl Tryd.func35 (by kernel_rfl) rfl #[.int .u8 a0, .int .u8 97, .int .u8 102] rfl (by (try simp only [List.map_toArray, List.map_cons, List.map_nil]); first | done | rfl | (simp only [List.length_drop, List.length_take]; rfl)) ?_; (with_reducible refine (sign_within.calls a0 97 102 false _ A6.out).mono ?_); rintro e w' ⟨rfl, ⟨nd, rfl⟩⟩; refine ⟨_, rfl, ?_⟩))
        go_ret
        exact ⟨by first | rfl | (simp; done) | (simp [*]; done), by repeat (first | exact Drawn0.refl _ | apply Drawn0.step)⟩

end Go.Proofs.YtfhjfidkcdcjnaaDoor.Q

/- Whole numbers below 2^53 as floats of 64 bits: what is done with them is exact. -/
namespace Go.Proofs.YtfhjfidkcdcjnaaDoor.Fl
open Go Ieee

abbrev F (n : Nat) : Nat := floatOfInt .f64 (n : Int)

theorem log2_lt53 {n : Nat} (h : n < 2 ^ 53) : n.log2 ≤ 52 := by
  rcases Nat.eq_zero_or_pos n with rfl | h0
  · decide
  · have := (Nat.log2_lt (by omega : n ≠ 0)).2 h; omega
theorem log2_mul {n : Nat} (h : n ≠ 0) (t : Nat) : (n * 2 ^ t).log2 = n.log2 + t := by
  induction t with
  | zero => simp
  | succ t ih =>
    rw [Nat.pow_succ, ← Nat.mul_assoc, Nat.mul_comm (n * 2 ^ t) 2, Nat.log2_two_mul (Nat.mul_ne_zero h (by exact Nat.ne_of_gt (Nat.pow_pos (by omega)))), ih]; omega
theorem pow_bounds {n : Nat} (h : n ≠ 0) (hn : n < 2 ^ 53) : 2 ^ 52 ≤ n * 2 ^ (52 - n.log2) ∧ n * 2 ^ (52 - n.log2) < 2 ^ 53 := by
  have hl := log2_lt53 hn
  have h1 : 2 ^ n.log2 ≤ n := Nat.log2_self_le h
  have h2 : n < 2 ^ (n.log2 + 1) := Nat.lt_log2_self
  constructor
  · calc 2 ^ 52 = 2 ^ n.log2 * 2 ^ (52 - n.log2) := by rw [← Nat.pow_add]; congr 1; omega
      _ ≤ _ := Nat.mul_le_mul_right _ h1
  · calc n * 2 ^ (52 - n.log2) < 2 ^ (n.log2 + 1) * 2 ^ (52 - n.log2) := Nat.mul_lt_mul_of_pos_right h2 (Nat.pow_pos (by omega))
      _ = 2 ^ 53 := by rw [← Nat.pow_add]; congr 1; omega

theorem cut_exact (q d : Nat) (hd : d ≤ (q * 2 ^ d).log2 + 2) : Toward.even.cut false (q * 2 ^ d) d = q := by
  unfold Toward.cut
  simp only [Nat.shiftLeft_eq, Nat.one_mul, Nat.min_eq_left hd]
  have hp : 0 < 2 ^ d := Nat.pow_pos (by omega)
  rw [Nat.mul_div_cancel _ hp, Nat.mul_mod_left]
  have h1 : decide (2 ^ d < 2 * 0) = false := by simp
  have h2 : ((2 ^ d == 2 * 0) && (q % 2 == 1)) = false := by
    have : (2 ^ d == 2 * 0) = false := by rw [beq_eq_false_iff_ne]; omega
    simp [this]
  simp only [h1, h2]; rfl

theorem word_false (f : Format) (r : Nat) : f.word false r = r := rfl
theorem end_le {x y : Nat} (hx : x ≤ 1074) (hy : y < 2 ^ 53) : x * 2 ^ 52 + y ≤ 2047 * 2 ^ 52 := by omega
/-- What is written of a whole number below 2^53, in whatever place it is told. -/
theorem write_eq {n : Nat} (h : n ≠ 0) (hn : n < 2 ^ 53) (t : Nat) :
    double.write (.number false (n * 2 ^ t) (-(t : Int))) = (n.log2 + 1022) * 2 ^ 52 + n * 2 ^ (52 - n.log2) := by
  have hl := log2_lt53 hn
  have hb := pow_bounds h hn
  have hm : n * 2 ^ t ≠ 0 := Nat.mul_ne_zero h (Nat.ne_of_gt (Nat.pow_pos (by omega)))
  have hlast : max (-(t : Int) + (n * 2 ^ t).log2 - (double.fractionBits : Nat)) double.leastPlace = (n.log2 : Int) - 52 := by
    rw [log2_mul h]
    have : double.leastPlace = -1074 := by decide
    rw [this]
    show max (-(t : Int) + ((n.log2 + t : Nat) : Int) - ((52 : Nat) : Int)) (-1074) = _
    omega
  show double.nearest false (n * 2 ^ t) (-(t : Int)) = _
  unfold Format.nearest
  rw [if_neg hm]
  simp only [hlast]
  have hk : Toward.even.cut false ((n * 2 ^ t) <<< (-(t : Int) - ((n.log2 : Int) - 52)).toNat) (((n.log2 : Int) - 52) - -(t : Int)).toNat = n * 2 ^ (52 - n.log2) := by
    rw [Nat.shiftLeft_eq, Nat.mul_assoc, ← Nat.pow_add]
    by_cases hc : t + n.log2 ≤ 52
    · have e1 : ((n.log2 : Int) - 52 - -(t : Int)).toNat = 0 := by omega
      have e2 : t + (-(t : Int) - ((n.log2 : Int) - 52)).toNat = 52 - n.log2 := by omega
      rw [e1, e2]
      simpa using cut_exact (n * 2 ^ (52 - n.log2)) 0 (by omega)
    · have e2 : t + (-(t : Int) - ((n.log2 : Int) - 52)).toNat = (52 - n.log2) + (t + n.log2 - 52) := by omega
      have e1 : ((n.log2 : Int) - 52 - -(t : Int)).toNat = t + n.log2 - 52 := by omega
      rw [e1, e2, Nat.pow_add, ← Nat.mul_assoc]
      refine cut_exact _ _ ?_
      rw [Nat.mul_assoc, ← Nat.pow_add, log2_mul h]; omega
  rw [hk]
  have e3 : ((n.log2 : Int) - 52 - double.leastPlace).toNat = n.log2 + 1022 := by
    have : double.leastPlace = -1074 := by decide
    rw [this]; omega
  rw [e3]
  have hw : double.binade = 2 ^ 52 := rfl
  have hi : double.infRung = 2047 * 2 ^ 52 := by decide
  rw [hw, hi, word_false, Nat.min_eq_left]
  exact end_le (by omega) hb.2

theorem F_eq {n : Nat} (h : n ≠ 0) (hn : n < 2 ^ 53) : F n = (n.log2 + 1022) * 2 ^ 52 + n * 2 ^ (52 - n.log2) := by
  have := write_eq h hn 0
  rw [Nat.pow_zero, Nat.mul_one] at this
  rw [← this]
  show double.write (.number (decide ((n : Int) < 0)) (n : Int).natAbs 0) = _
  have : decide ((n : Int) < 0) = false := by simp
  rw [this]; rfl
theorem write_F {n : Nat} (hn : n < 2 ^ 53) (t : Nat) : double.write (.number false (n * 2 ^ t) (-(t : Int))) = F n := by
  by_cases h : n = 0
  · subst h
    have : F 0 = 0 := by decide +kernel
    rw [this, Nat.zero_mul]; rfl
  · rw [write_eq h hn, F_eq h hn]
/-- A place in which it is told. -/
def pl (n : Nat) : Nat := if n = 0 then 1074 else 52 - n.log2
theorem read_F {n : Nat} (hn : n < 2 ^ 53) : double.read (F n) = .number false (n * 2 ^ pl n) (-(pl n : Int)) := by
  by_cases h : n = 0
  · subst h
    decide +kernel
  · have hl := log2_lt53 hn
    obtain ⟨hb1, hb2⟩ := pow_bounds h hn
    rw [F_eq h hn]
    simp only [pl, if_neg h]
    generalize hM : n * 2 ^ (52 - n.log2) = M at *
    generalize n.log2 = L at *
    have hs : double.signWeight = 2 ^ 63 := by decide
    have hbi : double.binade = 2 ^ 52 := rfl
    have hi : double.infRung = 2047 * 2 ^ 52 := by decide
    have hlp : double.leastPlace = -1074 := by decide
    unfold Format.read
    simp only [hs, hbi, hi, hlp]
    have hr : (L + 1022) * 2 ^ 52 + M < 2 ^ 63 := by
      have : (L + 1022) * 2 ^ 52 ≤ 1074 * 2 ^ 52 := Nat.mul_le_mul_right _ (by omega)
      omega
    have e1 : ((L + 1022) * 2 ^ 52 + M) / 2 ^ 63 = 0 := Nat.div_eq_of_lt hr
    have e2 : ((L + 1022) * 2 ^ 52 + M) % 2 ^ 63 = (L + 1022) * 2 ^ 52 + M := Nat.mod_eq_of_lt hr
    rw [e1, e2]
    have e3 : ¬ ((L + 1022) * 2 ^ 52 + M < 2 ^ 52) := by omega
    have e4 : (L + 1022) * 2 ^ 52 + M < 2047 * 2 ^ 52 := by
      have : (L + 1022) * 2 ^ 52 ≤ 1074 * 2 ^ 52 := Nat.mul_le_mul_right _ (by omega)
      omega
    rw [if_neg e3, if_pos e4]
    have e5 : ((L + 1022) * 2 ^ 52 + M) % 2 ^ 52 = M - 2 ^ 52 := by omega
    have e6 : ((L + 1022) * 2 ^ 52 + M) / 2 ^ 52 = L + 1023 := by omega
    rw [e5, e6]
    have e7 : 2 ^ 52 + (M - 2 ^ 52) = M := by omega
    have e8 : (-1074 : Int) + ((L + 1023 - 1 : Nat) : Int) = -((52 - L : Nat) : Int) := by omega
    rw [e7, e8]
    rfl

theorem mul_F {a b : Nat} (ha : a < 2 ^ 53) (hb : b < 2 ^ 53) (h : a * b < 2 ^ 53) : floatBits .mul .f64 (F a) (F b) = some (F (a * b)) := by
  show double.mul (F a) (F b) = _
  unfold Format.mul
  rw [read_F ha, read_F hb]
  simp only [Datum.product, Option.map_some]
  have : double.write (.number (false ^^ false) (a * 2 ^ pl a * (b * 2 ^ pl b)) (-(pl a : Int) + -(pl b : Int))) = F (a * b) := by
    have e := write_F h (pl a + pl b)
    rw [← e]
    congr 2
    · rw [Nat.pow_add]; ac_rfl
    · omega
  rw [this]
theorem signed_pos (m u : Nat) : signed false m u = ((m * 2 ^ u : Nat) : Int) := by simp [signed, Nat.shiftLeft_eq]
theorem add_F {a b : Nat} (ha : a < 2 ^ 53) (hb : b < 2 ^ 53) (h : a + b < 2 ^ 53) : floatBits .add .f64 (F a) (F b) = some (F (a + b)) := by
  show double.add (F a) (F b) = _
  unfold Format.add
  rw [read_F ha, read_F hb]
  simp only [Datum.sum, Option.map_some, signed_pos]
  generalize pl a = s
  generalize pl b = t
  have e1 : a * 2 ^ s * 2 ^ (-(s : Int) - min (-(s : Int)) (-(t : Int))).toNat = a * 2 ^ (max s t) := by
    rw [Nat.mul_assoc, ← Nat.pow_add]; congr 2; omega
  have e2 : b * 2 ^ t * 2 ^ (-(t : Int) - min (-(s : Int)) (-(t : Int))).toNat = b * 2 ^ (max s t) := by
    rw [Nat.mul_assoc, ← Nat.pow_add]; congr 2; omega
  rw [e1, e2]
  have e3 : ((a * 2 ^ max s t : Nat) : Int) + ((b * 2 ^ max s t : Nat) : Int) = (((a + b) * 2 ^ max s t : Nat) : Int) := by
    rw [← Int.natCast_add, ← Nat.add_mul]
  rw [e3, Int.natAbs_natCast]
  have e4 : (if (((a + b) * 2 ^ max s t : Nat) : Int) = 0 then false && false else decide ((((a + b) * 2 ^ max s t : Nat) : Int) < 0)) = false := by
    split
    · rfl
    · rw [decide_eq_false_iff_not]; omega
  rw [e4, show min (-(s : Int)) (-(t : Int)) = -((max s t : Nat) : Int) from by omega, write_F h]
theorem order_F {a b : Nat} (ha : a < 2 ^ 53) (hb : b < 2 ^ 53) : FloatKind.f64.format.order (F a) (F b) = some (compare a b) := by
  show double.order (F a) (F b) = _
  unfold Format.order
  rw [read_F ha, read_F hb]
  simp only [Datum.order, signed_pos]
  generalize pl a = s
  generalize pl b = t
  have e1 : a * 2 ^ s * 2 ^ (-(s : Int) - min (-(s : Int)) (-(t : Int))).toNat = a * 2 ^ (max s t) := by
    rw [Nat.mul_assoc, ← Nat.pow_add]; congr 2; omega
  have e2 : b * 2 ^ t * 2 ^ (-(t : Int) - min (-(s : Int)) (-(t : Int))).toNat = b * 2 ^ (max s t) := by
    rw [Nat.mul_assoc, ← Nat.pow_add]; congr 2; omega
  rw [e1, e2]
  have hp : 0 < 2 ^ max s t := Nat.pow_pos (by omega)
  generalize 2 ^ max s t = P at *
  congr 1
  rcases Nat.lt_trichotomy a b with h | h | h
  · rw [Nat.compare_eq_lt.2 h]
    have : ((a * P : Nat) : Int) < ((b * P : Nat) : Int) := by exact_mod_cast Nat.mul_lt_mul_of_pos_right h hp
    simp only [compare, compareOfLessAndEq, this, if_true]
  · subst h
    simp [compare, compareOfLessAndEq]
  · rw [Nat.compare_eq_gt.2 h]
    have : ((b * P : Nat) : Int) < ((a * P : Nat) : Int) := by exact_mod_cast Nat.mul_lt_mul_of_pos_right h hp
    have h2 : ¬ (((a * P : Nat) : Int) < ((b * P : Nat) : Int)) := by omega
    have h3 : ¬ (((a * P : Nat) : Int) = ((b * P : Nat) : Int)) := by omega
    simp only [compare, compareOfLessAndEq, h2, h3, if_false]
theorem toInt_F {a : Nat} (ha : a < 2 ^ 53) : floatToIntVal .f64 (F a) .i64 = some (a : Int) := by
  unfold floatToIntVal
  have : (FloatKind.f64.decode (F a)).toInt .zero = some (a : Int) := by
    show (double.read (F a)).toInt .zero = _
    rw [read_F ha]
    unfold Datum.toInt Datum.integral
    simp only [signed_pos, Nat.pow_zero, Nat.mul_one]
    congr 2
    unfold Toward.cut
    have h0 : (-(pl a : Int)).toNat = 0 := by omega
    have h1 : (- -(pl a : Int)).toNat = pl a := by omega
    rw [h0, h1]
    simp only [Nat.shiftLeft_eq, Nat.one_mul, Nat.pow_zero, Nat.mul_one]
    by_cases h : a = 0
    · subst h; simp
    · have hd : pl a ≤ (a * 2 ^ pl a).log2 + 2 := by rw [log2_mul h]; omega
      rw [Nat.min_eq_left hd, Nat.mul_div_cancel _ (Nat.pow_pos (by omega))]
      rfl
  rw [this]
  simp only
  rw [if_pos]
  have hM : IntKind.i64.max = 9223372036854775807 := by decide
  have hm : IntKind.i64.min = -9223372036854775808 := by decide
  rw [hM, hm]
  omega
theorem min_F {P : Program} (w : World) (ts : Array TypeId) (ty : TypeId) {a b : Nat} (ha : a < 2 ^ 53) (hb : b < 2 ^ 53) :
    (Builtin.min_ ts ty #[.float .f64 (F a), .float .f64 (F b)]).run P w = .ok (.float .f64 (F (min a b))) w := by
  have ho := order_F ha hb
  rcases Nat.lt_trichotomy a b with h | h | h
  · rw [Nat.compare_eq_lt.2 h] at ho
    simp [Builtin.min_, Builtin.min2, ho, Nat.min_eq_left (Nat.le_of_lt h)]
  · subst h
    rw [Nat.compare_eq_eq.2 rfl] at ho
    simp [Builtin.min_, Builtin.min2, ho]
  · rw [Nat.compare_eq_gt.2 h] at ho
    simp [Builtin.min_, Builtin.min2, ho, Nat.min_eq_right (Nat.le_of_lt h)]

end Go.Proofs.YtfhjfidkcdcjnaaDoor.Fl

/- 'number.Value' is the number that digits are, through floats and a complex number: the walk. -/
namespace Go.Proofs.YtfhjfidkcdcjnaaDoor.Fl
/-- A digit's number; below 0: it is none. -/
def hexv (c : UInt8) : Int := if 48 ≤ c.toNat ∧ c.toNat ≤ 57 then (c.toNat : Int) - 48 else if 65 ≤ c.toNat ∧ c.toNat ≤ 70 then (c.toNat : Int) - 55 else if 97 ≤ c.toNat ∧ c.toNat ≤ 102 then (c.toNat : Int) - 87 else -1
theorem hexv_range (c : UInt8) : -1 ≤ hexv c ∧ hexv c ≤ 15 := by unfold hexv; split <;> (try split) <;> (try split) <;> omega
/-- What digits come to, from a number on; none: one of them is no digit. -/
def valTo (B : Nat) : Nat → Bs → Option Nat
  | n, [] => some n
  | n, c :: l => if hexv c < 0 ∨ (B : Int) ≤ hexv c then none else valTo B (min (n * B + (hexv c).toNat) 1114112) l
def value (l : Bs) (six : Bool) : Int := if l = [] then -1 else match valTo (if six then 16 else 10) 0 l with
  | none => -1
  | some n => n
end Go.Proofs.YtfhjfidkcdcjnaaDoor.Fl
namespace Go.Proofs.YtfhjfidkcdcjnaaDoor.Q
open Go.RowKit Go.Proofs.YtfhjfidkcdcjnaaDoorW.PrintWords Go.Proofs.YtfhjfidkcdcjnaaDoorW.PrintLast Go.Proofs.YtfhjfidkcdcjnaaDoorW.PrintMore
set_option linter.unusedVariables false
set_option linter.unusedSimpArgs false

theorem hex_f (c : UInt8) : sign_Hex.f (c.toNat : Int) = some (Fl.hexv c) := by
  have := Fl.byteAll (fun c => decide (sign_Hex.f (c.toNat : Int) = some (Fl.hexv c))) (by decide +kernel) c
  simpa using this

def G (n : Nat) : Nat := Fl.F n
theorem G_run {P : Program} {op : BinOp} {x y r : Nat} (h : floatBits op .f64 x y = some r) (t : TypeId) : ∀ W, (binOp op t (.float .f64 x) (.float .f64 y)).run P W = .ok (.float .f64 r) W :=
  fun W => run_float_arith W op t .f64 x y r h
theorem G_one : G 1 = 4607182418800017408 := by decide +kernel
theorem G_ten : G 10 = 4621819117588971520 := by decide +kernel
theorem G_six : G 16 = 4625196817309499392 := by decide +kernel
theorem G_top : G 1114112 = 4697535886324137984 := by decide +kernel
theorem G_nul : G 0 = 0 := by decide +kernel

theorem valTo_cons (B n : Nat) (c : UInt8) (l : Fl.Bs) : Fl.valTo B n (c :: l) = if Fl.hexv c < 0 ∨ (B : Int) ≤ Fl.hexv c then none else Fl.valTo B (min (n * B + (Fl.hexv c).toNat) 1114112) l := rfl
theorem valTo_le (B : Nat) : ∀ (l : Fl.Bs) (n r : Nat), n ≤ 1114112 → Fl.valTo B n l = some r → r ≤ 1114112
  | [], n, r, h, e => by cases e; exact h
  | c :: l, n, r, h, e => by
    rw [valTo_cons] at e
    split at e
    · cases e
    · exact valTo_le B l _ r (Nat.min_le_right _ _) e
/-- What is left to be read at place k comes to what all comes to. -/
def Left (B : Nat) (s : ByteArray) (acc k : Nat) : Prop := Fl.valTo B acc ((Fl.toL s).drop k) = Fl.valTo B 0 (Fl.toL s)
theorem drop_at (s : ByteArray) (k : Nat) (h : k < s.size) : (Fl.toL s).drop k = s[k] :: (Fl.toL s).drop (k + 1) := by
  have hl : k < (Fl.toL s).length := by simpa using h
  rw [List.drop_eq_getElem_cons hl]; rfl

set_option maxHeartbeats 4000000 in
set_option maxRecDepth 100000 in
theorem value_calls (s : ByteArray) (six : Bool) (w : World) (hs : s.size < 4294967296) :
    Calls Tryd.prog 62 #[.string s, .bool six] w fun e w' => e = .returned (.int .i64 (Fl.value (Fl.toL s) six)) ∧ Drawn0 w w' := by
  obtain ⟨B, hB⟩ : ∃ B : Nat, (if six then 16 else 10) = B := ⟨_, rfl⟩
  have hV : Fl.value (Fl.toL s) six = if Fl.toL s = [] then -1 else match Fl.valTo B 0 (Fl.toL s) with | none => -1 | some n => (n : Int) := by unfold Fl.value; rw [hB]
  obtain ⟨V, hV2⟩ : ∃ V, Fl.value (Fl.toL s) six = V := ⟨_, rfl⟩
  rw [hV2]; rw [hV2] at hV
  have HV := Lib.hid hV
  clear hV hV2
  have hlit : (six = false ∧ G B = 4621819117588971520) ∨ (six = true ∧ G B = 4625196817309499392) := by
    cases six
    · left; refine ⟨rfl, ?_⟩; rw [← hB]; exact G_ten
    · right; refine ⟨rfl, ?_⟩; rw [← hB]; exact G_six
  have hB2 : 10 ≤ B ∧ B ≤ 16 := by rw [← hB]; cases six <;> simp
  clear hB
  obtain ⟨hB2, hB3⟩ := hB2
  rcases hlit with ⟨rfl, hGB⟩ | ⟨rfl, hGB⟩
  all_goals
    have HGB := Lib.hid hGB
    clear hGB
    go_enter Tryd.func62, Tryd.ntmps62
    go_wp2
    rw [← HGB.out]
    clear HGB
    go_loopw [6, 12] (fun c i wr => ∃ k acc : Nat, k ≤ s.size ∧ acc ≤ 1114112 ∧ i = .int .i64 k ∧ c = .complex .f64 (G acc) (G k) ∧ Hid (Left B s acc k) ∧ Drawn0 w wr) (fun _ i _ => s.size - (intOf i).toNat)
    case atStart => exact ⟨0, 0, Nat.zero_le _, Nat.zero_le _, rfl, by rw [G_nul], rfl, Drawn0.refl _⟩
    case round =>
      obtain ⟨k, acc, hk, hacc, rfl, rfl, HL, ⟨⟨nd, rfl⟩⟩⟩ := hrel
      by_cases hlt : k < s.size
      · have hx := hex_f s[k]
        have hd := drop_at s k hlt
        have hL := HL.out
        unfold Left at hL
        rw [hd, valTo_cons] at hL
        have hr := Fl.hexv_range s[k]
        generalize Fl.hexv s[k] = v at *
        have HX := Lib.hid hx
        clear hx hd HL
        by_cases hneg : v < 0
        · obtain rfl : v = -1 := by omega
          rw [if_pos (.inl hneg)] at hL
          have hV : V = -1 := by
            rw [HV.out, ← hL]; split <;> rfl
          have HV2 := Lib.hid hV
          clear hL hV HV hr hneg
          have hlss : (FloatKind.f64.format.order (floatOfInt .f64 (-1)) 0 == some .lt) = true := by decide +kernel
          go_wp2_with (go_at_call 61; refine (sign_Hex.calls _ _ _ HX.out).mono ?_; rintro e w1 ⟨rfl, ⟨n1, rfl⟩⟩)
          go_ret
          exact ⟨by rw [HV2.out]; rfl, by first | exact ⟨⟨_, rfl⟩⟩ | exact ⟨⟨_, World.drewN_drewN ..⟩⟩⟩
        · obtain ⟨d, rfl⟩ : ∃ d : Nat, v = (d : Int) := ⟨v.toNat, by omega⟩
          have hd15 : d ≤ 15 := by omega
          have hconv : floatOfInt .f64 (d : Int) = G d := rfl
          have ho1 := Fl.order_F (a := d) (b := 0) (by omega) (by omega)
          have ho2 := Fl.order_F (a := d) (b := B) (by omega) (by omega)
          have hl1 : (FloatKind.f64.format.order (G d) 0 == some .lt) = false := by
            have e : FloatKind.f64.format.order (G d) 0 = some (compare d 0) := by rw [← G_nul]; exact ho1
            rw [e]; cases d <;> rfl
          by_cases hge : B ≤ d
          · have hl2 : (FloatKind.f64.format.order (G d) (G B) == some .gt || FloatKind.f64.format.order (G d) (G B) == some .eq) = true := by
              have e : FloatKind.f64.format.order (G d) (G B) = some (compare d B) := ho2
              rw [e]
              rcases Nat.lt_or_ge B d with h | h
              · rw [Nat.compare_eq_gt.2 h]; rfl
              · obtain rfl : B = d := by omega
                rw [Nat.compare_eq_eq.2 rfl]; rfl
            rw [if_pos (.inr (by omega))] at hL
            have hV : V = -1 := by
              rw [HV.out, ← hL]; split <;> rfl
            have HV2 := Lib.hid hV
            clear hL hV HV hr hneg ho1 ho2
            go_wp2_with (go_at_call 61; refine (sign_Hex.calls _ _ _ HX.out).mono ?_; rintro e w1 ⟨rfl, ⟨n1, rfl⟩⟩)
            go_ret
            exact ⟨by rw [HV2.out]; rfl, by first | exact ⟨⟨_, rfl⟩⟩ | exact ⟨⟨_, World.drewN_drewN ..⟩⟩⟩
          · have hl2 : (FloatKind.f64.format.order (G d) (G B) == some .gt || FloatKind.f64.format.order (G d) (G B) == some .eq) = false := by
              have e : FloatKind.f64.format.order (G d) (G B) = some (compare d B) := ho2
              rw [e, Nat.compare_eq_lt.2 (by omega)]; rfl
            have hab : acc * B ≤ 1114112 * 16 := Nat.mul_le_mul hacc hB3
            have hm := G_run (P := Tryd.prog) (Fl.mul_F (a := acc) (b := B) (by omega) (by omega) (by omega)) 100
            have ha := G_run (P := Tryd.prog) (Fl.add_F (a := acc * B) (b := d) (by omega) (by omega) (by omega)) 100
            have h1 := G_run (P := Tryd.prog) (Fl.add_F (a := k) (b := 1) (by omega) (by omega) (by omega)) 100
            have hn := fun (W : World) ts ty => Fl.min_F (P := Tryd.prog) W ts ty (a := acc * B + d) (b := 1114112) (by omega) (by omega)
            rw [show Fl.F 1 = 4607182418800017408 from G_one] at h1
            rw [show Fl.F 1114112 = 4697535886324137984 from G_top] at hn
            simp only [show ∀ n, Fl.F n = G n from fun _ => rfl] at hm ha h1 hn
            have hL2 : Left B s (min (acc * B + d) 1114112) (k + 1) := by
              rw [if_neg (by omega)] at hL
              exact hL
            have HL2 := Lib.hid hL2
            have hmin : min (acc * B + d) 1114112 ≤ 1114112 := Nat.min_le_right _ _
            generalize min (acc * B + d) 1114112 = acc2 at *
            clear hL hL2 hr hneg ho1 ho2 hge
            go_wp2_with (go_at_call 61; refine (sign_Hex.calls _ _ _ HX.out).mono ?_; rintro e w1 ⟨rfl, ⟨n1, rfl⟩⟩)
            go_roundw
            case rel => exact ⟨k + 1, acc2, by omega, hmin, by go_num, rfl, HL2, by first | exact ⟨⟨_, rfl⟩⟩ | exact ⟨⟨_, World.drewN_drewN ..⟩⟩⟩
            case measure => simp [intOf]; omega
      · obtain rfl : k = s.size := by omega
        have hL := HL.out
        unfold Left at hL
        rw [List.drop_of_length_le (by rw [Fl.toL_length]; exact Nat.le_refl _)] at hL
        have ho := Fl.order_F (a := s.size) (b := 0) (by omega) (by omega)
        by_cases he : s.size = 0
        · have hV : V = -1 := by
            rw [HV.out, if_pos (List.eq_nil_of_length_eq_zero (by rw [Fl.toL_length]; exact he))]
          have HV2 := Lib.hid hV
          have heq : (FloatKind.f64.format.order (G s.size) 0 == some .eq) = true := by
            rw [he]; decide +kernel
          clear hL hV HV he ho HL
          go_wp2
          go_ret
          exact ⟨by rw [HV2.out]; rfl, ⟨⟨_, rfl⟩⟩⟩
        · have hV : V = (acc : Int) := by
            rw [HV.out, if_neg (fun h => he (by rw [← Fl.toL_length, h]; rfl)), ← hL]; rfl
          have HV2 := Lib.hid hV
          have heq : (FloatKind.f64.format.order (G s.size) 0 == some .eq) = false := by
            have e : FloatKind.f64.format.order (G s.size) 0 = some (compare s.size 0) := by rw [← G_nul]; exact ho
            rw [e, Nat.compare_eq_gt.2 (by omega)]; rfl
          have hti := fun (W : World) => run_convert_float_int (P := Tryd.prog) W 100 3 .f64 .i64 (G acc) (acc : Int) (by rw [Tryd.underlying100]; rfl) Tryd.underlying3 (Fl.toInt_F (by omega))
          clear hL hV HV he ho HL
          go_wp2
          go_ret
          exact ⟨by rw [HV2.out]; rfl, ⟨⟨_, rfl⟩⟩⟩

def number_Value.f (a0 : ByteArray) (a1 : Bool) : Option (Int) := if a0.size < 4294967296 then some (Fl.value (Fl.toL a0) a1) else none
theorem number_Value.calls (a0 : ByteArray) (a1 : Bool) (r : Int) (w : World) (h : number_Value.f a0 a1 = some r) :
    Calls Tryd.prog 62 #[.string a0, .bool a1] w fun e w' => e = .returned (.int .i64 r) ∧ Drawn0 w w' := by
  unfold number_Value.f at h
  split at h
  · rename_i hb
    obtain rfl := Option.some.inj h
    exact value_calls a0 a1 w hb
  · cases h

end Go.Proofs.YtfhjfidkcdcjnaaDoor.Q

/- 'names.number': a number of up to eight digits with sixteen, and the empty text: the walks, through 'strconv.ParseUint'. -/
namespace Go.Proofs.YtfhjfidkcdcjnaaDoor.Fl
/-- Digits with sixteen, the great letters alone. -/
def upHex (c : UInt8) : Bool := (48 ≤ c.toNat && c.toNat ≤ 57) || (65 ≤ c.toNat && c.toNat ≤ 70)
def upVal (c : UInt8) : Nat := if c.toNat ≤ 57 then c.toNat - 48 else c.toNat - 55
def hexTo : Nat → Bs → Nat
  | n, [] => n
  | n, c :: l => hexTo (n * 16 + upVal c) l
end Go.Proofs.YtfhjfidkcdcjnaaDoor.Fl
namespace Go.Proofs.YtfhjfidkcdcjnaaDoor.Q
open Go.RowKit Go.Proofs.YtfhjfidkcdcjnaaDoorW.PrintWords Go.Proofs.YtfhjfidkcdcjnaaDoorW.PrintLast Go.Proofs.YtfhjfidkcdcjnaaDoorW.PrintMore
set_option linter.unusedVariables false
set_option linter.unusedSimpArgs false

theorem upVal_lt (c : UInt8) (h : Fl.upHex c = true) : Fl.upVal c < 16 := by
  unfold Fl.upHex at h; unfold Fl.upVal
  simp at h; split <;> omega
theorem lower_up (c : UInt8) (h : 65 ≤ c.toNat ∧ c.toNat ≤ 70) : Go.bits .or .u8 (c.toNat : Int) 32 = (c.toNat : Int) + 32 := by
  have := Fl.byteAll (fun c => !(decide (65 ≤ c.toNat ∧ c.toNat ≤ 70)) || decide (Go.bits .or .u8 (c.toNat : Int) 32 = (c.toNat : Int) + 32)) (by decide +kernel) c
  simpa [h] using this

set_option maxHeartbeats 4000000 in
set_option maxRecDepth 1000000 in
theorem parse16 (t : ByteArray) (hne : t.size ≠ 0) (hmax : t.size ≤ 8) (hall : ∀ c ∈ Fl.toL t, Fl.upHex c = true) (w : World) :
    Calls Tryd.prog 83 #[.string t, .int .i64 16, .int .i64 32] w fun e w' => e = .returned (.tuple #[.int .u64 (Fl.hexTo 0 (Fl.toL t)), .nilIface]) ∧ Below w.heap.size w w' := by
  have hemp : t.toList.isEmpty = false := by
    rw [← decide_eq_emptyBytes]
    exact decide_eq_false (fun h => hne (by rw [h]; rfl))
  have hcv := Lib.run_convert_string_bytes (P := Tryd.prog) w 9 29 5 t Tryd.underlying9 Tryd.underlying29 Tryd.underlying5
  have hB : ∀ j, j < t.size → (Lib.bytesWorld w 5 t).cell? ⟨w.heap.size, j, none⟩ = some (.int .u8 (t.data.toList.getD j 0).toNat) := fun j hj => Lib.bytesWorld_cell w 5 t j hj
  have hbel : Below w.heap.size w (Lib.bytesWorld w 5 t) := ⟨rfl, rfl, rfl, by rw [Lib.bytesWorld_size]; omega, fun k hk => Lib.bytesWorld_at_old w 5 t k hk⟩
  obtain ⟨W1, hW1⟩ : ∃ W1, W1 = Lib.bytesWorld w 5 t := ⟨_, rfl⟩
  rw [← hW1] at hcv hB hbel
  clear hW1
  obtain ⟨bs, hL⟩ : ∃ bs, bs = Fl.toL t := ⟨_, rfl⟩
  have hLn : bs.length = t.size := by rw [hL, Fl.toL_length]
  rw [show t.data.toList = Fl.toL t from rfl, ← hL] at hB
  rw [← hL] at hall ⊢
  clear hL
  have hmv : IntKind.u64.wrap (IntKind.u64.wrap 4294967296 - 1) = 4294967295 := by
    rw [IntKind.wrap_u64, IntKind.wrap_u64]
    decide
  have HB := Lib.hid hB
  have HA := Lib.hid hall
  have HW := Lib.hid hbel
  clear hB hall hbel
  go_enter Tryd.func83, Tryd.ntmps83
  go_wp2
  go_loop [12, 13, 101] (fun vu vn vi => ∃ (k acc : Nat) (a : Int), vu = .bool false ∧ vn = .int .u64 a ∧ vi = .int .i64 k ∧ k ≤ t.size ∧ Hid (a = (acc : Int) ∧ acc < 16 ^ k ∧ Fl.hexTo 0 bs = Fl.hexTo acc (bs.drop k)))
    (fun _ _ vi => t.size - (intOf vi).toNat)
  case atStart => exact ⟨0, 0, 0, rfl, rfl, rfl, by omega, rfl, by omega, rfl⟩
  case round =>
    obtain ⟨k, acc, a, rfl, rfl, rfl, hk, hh⟩ := hrel
    obtain ⟨ha, hacc, hdec⟩ := hh.out
    clear hh
    have hacc8 : acc < 16 ^ 8 := Nat.lt_of_lt_of_le hacc (Nat.pow_le_pow_right (by omega) (by omega))
    have a0 : 0 ≤ a := by omega
    have a1 : a ≤ 4294967295 := by omega
    by_cases hkn : k < t.size
    · have hc := HB.out k hkn
      have hdrop : bs.drop k = bs[k]'(by omega) :: bs.drop (k + 1) := List.drop_eq_getElem_cons (by omega)
      have hget : bs.getD k 0 = bs[k]'(by omega) := by simp [List.getD, List.getElem?_eq_getElem (show k < bs.length by omega)]
      have hup := HA.out (bs[k]'(by omega)) (List.getElem_mem _)
      rw [hdrop] at hdec
      rw [hget] at hc
      generalize bs[k]'(by omega) = c at hc hdec hup
      have hc256 : c.toNat < 256 := c.toNat_lt
      have hv16 := upVal_lt c hup
      have hp : 16 ^ (k + 1) = 16 ^ k * 16 := Nat.pow_succ ..
      have hp8 : 16 ^ (k + 1) ≤ 16 ^ 8 := Nat.pow_le_pow_right (by omega) (by omega)
      have hnx : acc * 16 + Fl.upVal c < 16 ^ (k + 1) := by omega
      have hdec2 : Fl.hexTo 0 bs = Fl.hexTo (acc * 16 + Fl.upVal c) (bs.drop (k + 1)) := hdec
      have hn32 : acc * 16 + Fl.upVal c ≤ 4294967295 := by omega
      clear hdrop hget hp hp8 hacc hdec
      by_cases hdig : 48 ≤ c.toNat ∧ c.toNat ≤ 57
      · obtain ⟨hd0, hd1⟩ := hdig
        have hval : Fl.upVal c = c.toNat - 48 := by unfold Fl.upVal; rw [if_pos hd1]
        have HN : Hid (a * 16 + ((c.toNat : Int) - 48) = ((acc * 16 + Fl.upVal c : Nat) : Int) ∧ acc * 16 + Fl.upVal c < 16 ^ (k + 1) ∧ Fl.hexTo 0 bs = Fl.hexTo (acc * 16 + Fl.upVal c) (bs.drop (k + 1))) := Lib.hid ⟨by omega, hnx, hdec2⟩
        have iov : a * 16 + ((c.toNat : Int) - 48) ≤ 4294967295 := by omega
        have icut : a < 1152921504606846976 := by omega
        clear ha hval hnx hdec2 hup hn32 hv16 hacc8
        go_wp2
        refine ⟨⟨k + 1, acc * 16 + Fl.upVal c, a * 16 + ((c.toNat : Int) - 48), rfl, (by first | rfl | (congr 1; omega)), (by first | rfl | (congr 1; omega)), by omega, HN⟩, by simp [intOf]; omega⟩
      · have hlet : 65 ≤ c.toNat ∧ c.toNat ≤ 70 := by
          unfold Fl.upHex at hup
          simp at hup
          omega
        have hlow := lower_up c hlet
        obtain ⟨hd0, hd1⟩ := hlet
        have hval : Fl.upVal c = c.toNat - 55 := by unfold Fl.upVal; rw [if_neg (by omega)]
        have HN : Hid (a * 16 + ((c.toNat : Int) - 55) = ((acc * 16 + Fl.upVal c : Nat) : Int) ∧ acc * 16 + Fl.upVal c < 16 ^ (k + 1) ∧ Fl.hexTo 0 bs = Fl.hexTo (acc * 16 + Fl.upVal c) (bs.drop (k + 1))) := Lib.hid ⟨by omega, hnx, hdec2⟩
        have iov : a * 16 + ((c.toNat : Int) - 55) ≤ 4294967295 := by omega
        have icut : a < 1152921504606846976 := by omega
        clear ha hval hnx hdec2 hup hn32 hv16 hacc8 hdig
        go_wp2_with (first | go_in)
        all_goals
          refine ⟨⟨k + 1, acc * 16 + Fl.upVal c, a * 16 + ((c.toNat : Int) - 55), rfl, (by first | rfl | (congr 1; omega)), (by first | rfl | (congr 1; omega)), by omega, HN⟩, by simp [intOf]; omega⟩
    · have hkk : k = t.size := by omega
      subst hkk
      have hF : Fl.hexTo acc (bs.drop t.size) = acc := by rw [List.drop_eq_nil_of_le (by omega)]; rfl
      rw [hF] at hdec
      have HD := Lib.hid hdec
      subst ha
      clear hF hdec
      go_wp2
      go_ret2
      exact ⟨by rw [HD.out]; rfl, HW.out⟩

theorem hexTo_lt : ∀ (l : Fl.Bs) (n : Nat), (∀ c ∈ l, Fl.upHex c = true) → Fl.hexTo n l < (n + 1) * 16 ^ l.length
  | [], n, _ => by simp [Fl.hexTo]
  | c :: l, n, h => by
    have h1 := upVal_lt c (h c (by simp))
    have h2 := hexTo_lt l (n * 16 + Fl.upVal c) (fun x hx => h x (by simp [hx]))
    simp only [Fl.hexTo, List.length_cons]
    refine Nat.lt_of_lt_of_le h2 ?_
    rw [Nat.pow_succ, Nat.mul_comm (16 ^ l.length) 16, ← Nat.mul_assoc]
    exact Nat.mul_le_mul_right _ (by omega)

set_option maxHeartbeats 4000000 in
set_option maxRecDepth 100000 in
theorem number_calls (t : ByteArray) (hne : t.size ≠ 0) (hmax : t.size ≤ 8) (hall : ∀ c ∈ Fl.toL t, Fl.upHex c = true) (w : World) :
    Calls Tryd.prog 66 #[.string t] w fun e w' => e = .returned (.float .f64 (G (Fl.hexTo 0 (Fl.toL t)))) ∧ Below w.heap.size w w' := by
  have hp := parse16 t hne hmax hall w
  have hlt : Fl.hexTo 0 (Fl.toL t) < 4294967296 := by
    refine Nat.lt_of_lt_of_le (hexTo_lt _ 0 hall) ?_
    rw [Nat.zero_add, Nat.one_mul, Fl.toL_length]
    exact Nat.pow_le_pow_right (n := 16) (by omega) hmax
  generalize Fl.hexTo 0 (Fl.toL t) = n at *
  have hcv : floatOfInt .f64 (n : Int) = G n := rfl
  clear hall
  have hpub : Calls Tryd.prog 76 #[.string t, .int .i64 16, .int .i64 32] w fun e w' => e = .returned (.tuple #[.int .u64 n, .nilIface]) ∧ Below w.heap.size w w' := by
    go_enter Tryd.func76, Tryd.ntmps76
    go_wp2_with (first | (go_at_call 83; refine hp.mono ?_; rintro e w1 ⟨rfl, hb⟩; have HB := Lib.hid hb; clear hb))
    go_ret2
    exact ⟨rfl, HB.out⟩
  clear hp
  go_enter Tryd.func66, Tryd.ntmps66
  go_wp2_with (first | (go_at_call 76; refine hpub.mono ?_; rintro e w1 ⟨rfl, hb⟩; have HB := Lib.hid hb; clear hb))
  go_ret
  exact ⟨rfl, HB.out⟩

set_option maxHeartbeats 4000000 in
set_option maxRecDepth 1000000 in
theorem number_empty (w : World) (hG : Gl w) :
    Calls Tryd.prog 66 #[.string ⟨#[]⟩] w fun e w' => e = .returned (.float .f64 (G 0)) ∧ Below w.heap.size w w' := by
  obtain ⟨ev, hev, hi⟩ := hG.err
  have hT := fun fn => Tryd.strconv_toError_syntax fn ⟨#[]⟩ 16 32 ev w (by decide) hev hi
  have hp : Calls Tryd.prog 83 #[.string ⟨#[]⟩, .int .i64 16, .int .i64 32] w fun e w' => e = .returned (.tuple #[.int .u64 0, .iface 119 (.int .i64 2)]) ∧ w' = w := by
    go_enter Tryd.func83, Tryd.ntmps83
    go_wp2
    go_ret2
    exact ⟨rfl, rfl⟩
  have hpub : Calls Tryd.prog 76 #[.string ⟨#[]⟩, .int .i64 16, .int .i64 32] w fun e w' => ∃ te pe, e = .returned (.tuple #[.int .u64 0, .iface te pe]) ∧ Below w.heap.size w w' := by
    go_enter Tryd.func76, Tryd.ntmps76
    go_wp2_with (first | (go_at_call 83; refine hp.mono ?_; rintro e w1 ⟨rfl, hw⟩; obtain rfl := hw.symm) | (go_at_call 84; refine (hT _).mono ?_; rintro e w1 ⟨N, rfl, hN, hc, hb⟩; have HB := Lib.hid hb; clear hb hc))
    go_ret2
    exact ⟨_, _, rfl, HB.out⟩
  have h0 : G 0 = 0 := G_nul
  have H0 := Lib.hid h0
  clear hp hT h0
  go_enter Tryd.func66, Tryd.ntmps66
  go_wp2_with (first | (go_at_call 76; refine hpub.mono ?_; rintro e w1 ⟨te, pe, rfl, hb⟩; have HB := Lib.hid hb; clear hb))
  go_ret
  exact ⟨by rw [H0.out]; rfl, HB.out⟩

end Go.Proofs.YtfhjfidkcdcjnaaDoor.Q

/- The table of names, looked over by the kernel: its lines' keys rise, and each line's rest is one or two numbers. What a name stands for. -/
namespace Go.Proofs.YtfhjfidkcdcjnaaDoor.Fl
open Go

def okNum (s : Bs) : Bool := Nat.ble 1 s.length && Nat.ble s.length 8 && s.all upHex
def okLine (x : Bs) : Bool := x.all (fun c => c.toNat != 10) && !(keyOf x).isEmpty && okNum (keyOf (restOf x)) && ((restOf (restOf x)).isEmpty || okNum (restOf (restOf x)))
def chk : Bs → List Bs → Bool
  | _, [] => true
  | p, x :: r => okLine x && (less p (keyOf x) && chk (keyOf x) r)
noncomputable def namesL : List Bs := linesA [] [] (toL Q.namesB)
set_option maxRecDepth 1000000 in
theorem names_chk : chk [] namesL = true := by decide +kernel
end Go.Proofs.YtfhjfidkcdcjnaaDoor.Fl

/- 'utf.Sign' and 'number.Fix': the sign of a number: the walks. -/
namespace Go.Proofs.YtfhjfidkcdcjnaaDoor.Q
open Go.RowKit Go.Proofs.YtfhjfidkcdcjnaaDoorW.PrintWords Go.Proofs.YtfhjfidkcdcjnaaDoorW.PrintLast Go.Proofs.YtfhjfidkcdcjnaaDoorW.PrintMore
set_option linter.unusedVariables false
set_option linter.unusedSimpArgs false

/-- A number's sign. -/
def signB (n : Int) : ByteArray := if n < 0 ∨ 1114111 < n then Fl.ofL Fl.bad else Utf8.encode n

set_option maxHeartbeats 2000000 in
theorem sign_calls (n : Int) (w : World) (h0 : -9223372036854775808 ≤ n) (h1 : n ≤ 9223372036854775807) :
    Calls Tryd.prog 32 #[.int .i64 n] w fun e w' => e = .returned (.string (signB n)) ∧ w' = w := by
  by_cases hn : n < 0
  · have e : signB n = Fl.ofL Fl.bad := by unfold signB; rw [if_pos (.inl hn)]
    rw [e]; clear e
    go_enter Tryd.func32, Tryd.ntmps32
    go_wp2
    go_ret
    exact ⟨rfl, rfl⟩
  · by_cases hb : 1114111 < n
    · have e : signB n = Fl.ofL Fl.bad := by unfold signB; rw [if_pos (.inr hb)]
      rw [e]; clear e
      go_enter Tryd.func32, Tryd.ntmps32
      go_wp2
      go_ret
      exact ⟨rfl, rfl⟩
    · have e : signB n = Utf8.encode n := by unfold signB; rw [if_neg (by omega)]
      have H := Lib.hid e
      clear e
      go_enter Tryd.func32, Tryd.ntmps32
      go_wp2
      go_ret
      exact ⟨by rw [H.out]; rfl, rfl⟩

def fixTab : List Int := [8364, 129, 8218, 402, 8222, 8230, 8224, 8225, 710, 8240, 352, 8249, 338, 141, 381, 143, 144, 8216, 8217, 8220, 8221, 8226, 8211, 8212, 732, 8482, 353, 8250, 339, 157, 382, 376]
/-- The sign that a number means. -/
def fixB (n : Int) : ByteArray := if n = 0 then Fl.ofL Fl.bad else if 128 ≤ n ∧ n < 160 then signB (fixTab.getD (n - 128).toNat 0) else signB n

def fixVals : Array Value := (fixTab.map (Value.int .i64)).toArray
theorem fixVals_eq : fixVals = #[.int .i64 8364, .int .i64 129, .int .i64 8218, .int .i64 402, .int .i64 8222, .int .i64 8230, .int .i64 8224, .int .i64 8225, .int .i64 710, .int .i64 8240, .int .i64 352, .int .i64 8249, .int .i64 338, .int .i64 141, .int .i64 381, .int .i64 143, .int .i64 144, .int .i64 8216, .int .i64 8217, .int .i64 8220, .int .i64 8221, .int .i64 8226, .int .i64 8211, .int .i64 8212, .int .i64 732, .int .i64 8482, .int .i64 353, .int .i64 8250, .int .i64 339, .int .i64 157, .int .i64 382, .int .i64 376] := rfl

set_option maxHeartbeats 4000000 in
set_option maxRecDepth 100000 in
theorem other_calls (w : World) :
    Calls Tryd.prog 31 #[] w fun e w' => e = .returned (.agg fixVals) ∧ w' = w.alloc (.cells fixVals 58) := by
  go_enter Tryd.func31, Tryd.ntmps31
  go_wp2_with (refine wpList_store_row rfl 58 _ _ rfl w.heap.size _ rfl rfl 58 _ (heap_alloc_new _ _) (by kernel_rfl) (by kernel_rfl) (by kernel_rfl) ?_; rw [World.setRow_alloc_new, ← fixVals_eq])
  refine bodyPost_ret (v := .agg fixVals) ?_ rfl ⟨rfl, rfl⟩
  exact results_cell_row rfl _ _ w.heap.size 58 fixVals (0, 0) _ rfl (heap_alloc_new _ _) Tryd.underlying58 rfl (by kernel_rfl)

theorem fix_cell (W : World) (j : Nat) (hj : j < 32) : (W.alloc (.cells fixVals 58)).cell? ⟨W.heap.size, j, none⟩ = some (.int .i64 (fixTab.getD j 0)) := by
  rw [cell_of_row _ _ _ _ _ _ (heap_alloc_new W _)]
  have hl : j < fixTab.length := hj
  simp only [fixVals, List.getElem?_toArray, List.getElem?_map, List.getElem?_eq_getElem hl, Option.map_some, List.getD_eq_getElem?_getD, Option.getD_some]

theorem fixTab_range (j : Nat) : 0 ≤ fixTab.getD j 0 ∧ fixTab.getD j 0 ≤ 10000 := by
  by_cases hj : j < 32
  · have : ∀ j, j < 32 → 0 ≤ fixTab.getD j 0 ∧ fixTab.getD j 0 ≤ 10000 := by decide
    exact this j hj
  · rw [List.getD_eq_getElem?_getD, List.getElem?_eq_none (by show 32 ≤ j; omega)]; simp

set_option maxHeartbeats 4000000 in
set_option maxRecDepth 100000 in
theorem fix_calls (n : Int) (w : World) (h0 : -9223372036854775808 ≤ n) (h1 : n ≤ 9223372036854775807) :
    Calls Tryd.prog 16 #[.int .i64 n] w fun e w' => e = .returned (.string (fixB n)) ∧ Below w.heap.size w w' := by
  have ho : Calls Tryd.prog 31 #[] w fun e w' => e = .returned (.agg fixVals) ∧ Below w.heap.size w w' := by
    refine (other_calls w).mono ?_
    rintro e w1 ⟨rfl, rfl⟩
    exact ⟨rfl, (Below.refl _ _).alloc (Nat.le_refl _) _⟩
  by_cases hz : n = 0
  · subst hz
    have e : fixB 0 = Fl.ofL Fl.bad := by unfold fixB; rw [if_pos rfl]
    rw [e]; clear e
    go_enter Tryd.func16, Tryd.ntmps16
    go_wp2_with (first | (go_at_call 31; refine ho.mono ?_; rintro e w1 ⟨rfl, hb⟩; have HB := Lib.hid hb; clear hb) | (refine wpList_store_row rfl 58 _ _ rfl _ fixVals rfl rfl 58 _ (heap_alloc_new _ _) (by kernel_rfl) (by kernel_rfl) (by kernel_rfl) ?_; rw [World.setRow_alloc_new]))
    go_ret
    exact ⟨rfl, HB.out.alloc HB.out.size _⟩
  · by_cases ht : 128 ≤ n ∧ n < 160
    · obtain ⟨j, rfl⟩ : ∃ j : Nat, n = (j : Int) + 128 := ⟨(n - 128).toNat, by omega⟩
      have hj : j < 32 := by omega
      have e : fixB ((j : Int) + 128) = signB (fixTab.getD j 0) := by
        unfold fixB
        rw [if_neg hz, if_pos ht, show ((j : Int) + 128 - 128).toNat = j from by omega]
      rw [e]; clear e
      have hr := fixTab_range j
      have hc := fun W => fix_cell W j hj
      have hzb : ((j : Int) + 128 == 0) = false := beq_eq_false_iff_ne.2 (by omega)
      have hi0 : (0 : Int) ≤ (j : Int) := by omega
      have hi1 : (j : Int) < 32 := by omega
      have hsg := fun W => sign_calls (fixTab.getD j 0) W (by omega) (by omega)
      generalize fixTab.getD j 0 = v at *
      obtain ⟨hr0, hr1⟩ := hr
      go_enter Tryd.func16, Tryd.ntmps16
      go_wp2_with (first | (go_at_call 31; refine ho.mono ?_; rintro e w1 ⟨rfl, hb⟩; have HB := Lib.hid hb; clear hb) | (go_at_call 32; refine (hsg _).mono ?_; rintro e w2 ⟨rfl, hw⟩; obtain rfl := hw.symm) | (refine wpList_store_row rfl 58 _ _ rfl _ fixVals rfl rfl 58 _ (heap_alloc_new _ _) (by kernel_rfl) (by kernel_rfl) (by kernel_rfl) ?_; rw [World.setRow_alloc_new]))
      go_ret
      exact ⟨rfl, HB.out.alloc HB.out.size _⟩
    · have e : fixB n = signB n := by
        unfold fixB
        rw [if_neg hz, if_neg ht]
      have HE := Lib.hid e
      clear e
      have hzb : (n == 0) = false := beq_eq_false_iff_ne.2 hz
      have hsg := fun W => sign_calls n W h0 h1
      rcases Classical.not_and_iff_not_or_not.1 ht with ha | ha
      all_goals
        clear ht hz
        go_enter Tryd.func16, Tryd.ntmps16
        go_wp2_with (first | (go_at_call 31; refine ho.mono ?_; rintro e w1 ⟨rfl, hb⟩; have HB := Lib.hid hb; clear hb) | (go_at_call 32; refine (hsg _).mono ?_; rintro e w2 ⟨rfl, hw⟩; obtain rfl := hw.symm) | (refine wpList_store_row rfl 58 _ _ rfl _ fixVals rfl rfl 58 _ (heap_alloc_new _ _) (by kernel_rfl) (by kernel_rfl) (by kernel_rfl) ?_; rw [World.setRow_alloc_new]))
        go_ret
        exact ⟨by rw [HE.out]; rfl, HB.out.alloc HB.out.size _⟩

theorem signB_size (n : Int) : (signB n).size ≤ 4 := by
  unfold signB
  split
  · decide
  · unfold Utf8.encode
    obtain ⟨c, hc⟩ : ∃ c, (if Utf8.valid n = true then n.toNat else Utf8.runeError) = c := ⟨_, rfl⟩
    simp only [hc]
    split
    · show 1 ≤ 4; omega
    · split
      · show 2 ≤ 4; omega
      · split
        · show 3 ≤ 4; omega
        · show 4 ≤ 4; omega

def number_Fix.f (a0 : Int) : Option (ByteArray) := if -9223372036854775808 ≤ a0 ∧ a0 ≤ 9223372036854775807 then some (fixB a0) else none
theorem number_Fix.calls (a0 : Int) (r : ByteArray) (w : World) (h : number_Fix.f a0 = some r) :
    Calls Tryd.prog 16 #[.int .i64 a0] w fun e w' => e = .returned (.string r) ∧ Below w.heap.size w w' := by
  unfold number_Fix.f at h
  split at h
  · rename_i hb
    obtain rfl := Option.some.inj h
    exact fix_calls a0 w hb.1 hb.2
  · cases h

end Go.Proofs.YtfhjfidkcdcjnaaDoor.Q

/- What a name stands for: 'names.Value', 'names.Text', 'names.Short': the walks. -/
namespace Go.Proofs.YtfhjfidkcdcjnaaDoor.Fl
open Go

theorem chk_all : ∀ (ls : List Bs) (p : Bs), chk p ls = true → ∀ x ∈ ls, okLine x = true
  | [], _, _, x, hx => by simp at hx
  | y :: ls, p, h, x, hx => by
    simp only [chk, Bool.and_eq_true] at h
    rcases List.mem_cons.1 hx with rfl | hx
    · exact h.1
    · exact chk_all ls _ h.2.2 x hx
theorem chk_less : ∀ (ls : List Bs) (p : Bs), chk p ls = true → ∀ j (hj : j < ls.length), less p (keyOf ls[j]) = true
  | [], _, _, j, hj => by simp at hj
  | y :: ls, p, h, j, hj => by
    simp only [chk, Bool.and_eq_true] at h
    cases j with
    | zero => exact h.2.1
    | succ j => exact less_trans _ _ _ h.2.1 (chk_less ls _ h.2.2 j (by simpa using hj))
theorem chk_sorted : ∀ (ls : List Bs) (p : Bs), chk p ls = true → ∀ i j (hi : i < j) (hj : j < ls.length), less (keyOf (ls[i]'(by omega))) (keyOf ls[j]) = true
  | [], _, _, i, j, _, hj => by simp at hj
  | y :: ls, p, h, i, j, hi, hj => by
    simp only [chk, Bool.and_eq_true] at h
    cases i with
    | zero =>
      cases j with
      | zero => omega
      | succ j => exact chk_less ls _ h.2.2 j (by simpa using hj)
    | succ i =>
      cases j with
      | zero => omega
      | succ j => exact chk_sorted ls _ h.2.2 i j (by omega) (by simpa using hj)
theorem namesB_join : toL Q.namesB = joinL namesL := (joinL_lines _).symm
set_option maxRecDepth 1000000 in
theorem namesB_size : Q.namesB.size < 4294967296 := by
  have : Nat.ble (toL Q.namesB).length 100000 = true := by decide +kernel
  rw [toL_length] at this
  have := Nat.le_of_ble_eq_true this
  omega
theorem line_parts {x : Bs} (h : okLine x = true) : (∀ c ∈ x, c ≠ 10) ∧ x ≠ [] ∧ okNum (keyOf (restOf x)) = true ∧ (restOf (restOf x) = [] ∨ okNum (restOf (restOf x)) = true) := by
  simp only [okLine, Bool.and_eq_true, Bool.or_eq_true, List.all_eq_true, bne_iff_ne, Bool.not_eq_true', List.isEmpty_iff] at h
  refine ⟨fun c hc e => h.1.1.1 c hc (by rw [e]; rfl), fun e => ?_, h.1.2, h.2⟩
  have h2 := h.1.1.2
  rw [e] at h2; simp [keyOf] at h2
theorem num_parts {s : Bs} (h : okNum s = true) : s.length ≠ 0 ∧ s.length ≤ 8 ∧ ∀ c ∈ s, upHex c = true := by
  simp only [okNum, Bool.and_eq_true, List.all_eq_true] at h
  have h1 := Nat.le_of_ble_eq_true h.1.1
  exact ⟨by omega, Nat.le_of_ble_eq_true h.1.2, h.2⟩
/-- What a name stands for. -/
noncomputable def nrow (name : Bs) : Option Bs := namesL.find? fun l => keyOf l == name
noncomputable def nval (name : Bs) : Option (Nat × Nat) := (nrow name).map fun l => (hexTo 0 (keyOf (restOf l)), hexTo 0 (restOf (restOf l)))
theorem line_look (name : ByteArray) : Q.search_Line.f Q.namesB name = some (look namesL (toL name)) := by
  unfold Q.search_Line.f
  rw [if_pos namesB_size]
  have hall := fun x hx => line_parts (chk_all namesL [] names_chk x hx)
  have hn0 : namesL ≠ [] := by
    intro e
    have := namesB_join
    rw [e] at this
    have h2 := congrArg List.length this
    have h3 : (toL Q.namesB).length ≠ 0 := by
      have : Nat.ble 1 (toL Q.namesB).length = true := by decide +kernel
      have := Nat.le_of_ble_eq_true this
      omega
    exact h3 h2
  have hsz : Q.namesB.size + 1 = off namesL namesL.length := by
    have := joinL_length namesL hn0
    have h2 := congrArg List.length namesB_join
    rw [toL_length] at h2; omega
  have hlen : namesL.length ≤ off namesL namesL.length := by
    have : ∀ ls : List Bs, ls.length ≤ off ls ls.length := by
      intro ls
      induction ls with
      | nil => exact Nat.le_refl _
      | cons x ls ih => rw [List.length_cons, off_cons]; omega
    exact this _
  have := srch_spec (key := name) namesB_join (fun x hx => (hall x hx).1) (fun x hx => (hall x hx).2.1) (chk_sorted namesL [] names_chk) hn0 (Q.namesB.size + 1) 0 namesL.length (by omega) (by omega) (Nat.le_refl _) (fun j hj => by omega) (fun j h1 h2 => by omega)
  rw [off_zero, show hiO Q.namesB namesL namesL.length = Q.namesB.size from by unfold hiO; rw [if_pos rfl]] at this
  exact this
end Go.Proofs.YtfhjfidkcdcjnaaDoor.Fl
namespace Go.Proofs.YtfhjfidkcdcjnaaDoor.Q
open Go.RowKit Go.Proofs.YtfhjfidkcdcjnaaDoorW.PrintWords Go.Proofs.YtfhjfidkcdcjnaaDoorW.PrintLast Go.Proofs.YtfhjfidkcdcjnaaDoorW.PrintMore
set_option linter.unusedVariables false
set_option linter.unusedSimpArgs false

set_option maxHeartbeats 4000000 in
set_option maxRecDepth 1000000 in
theorem value_none (name : ByteArray) (w : World) (h : Fl.nval (Fl.toL name) = none) :
    Calls Tryd.prog 49 #[.string name] w fun e w' => e = .returned (.tuple #[.complex .f64 0 0, .bool false]) ∧ Drawn0 w w' := by
  have hl := Fl.line_look name
  have hn : Fl.namesL.find? (fun l => Fl.keyOf l == Fl.toL name) = none := by
    unfold Fl.nval Fl.nrow at h
    simpa using h
  unfold Fl.look at hl
  rw [hn] at hl
  have hc := fun W => search_Line.calls namesB name _ _ W hl
  clear hl hn h
  go_enter Tryd.func49, Tryd.ntmps49
  have hN : namesB = namesB := rfl
  conv at hN => rhs; unfold namesB textOf Tryd.f48
  simp only [] at hN
  rw [← hN]
  clear hN
  go_wp2_with (first | (go_at_call 64; refine (hc _).mono ?_; rintro e w1 ⟨rfl, ⟨⟨n1, rfl⟩⟩⟩))
  go_ret2
  exact ⟨rfl, ⟨⟨_, rfl⟩⟩⟩

set_option maxHeartbeats 4000000 in
set_option maxRecDepth 1000000 in
theorem value_some (name : ByteArray) (w : World) (hG : Gl w) (a b : Nat) (hne : name.size ≠ 0) (h : Fl.nval (Fl.toL name) = some (a, b)) :
    Calls Tryd.prog 49 #[.string name] w fun e w' => e = .returned (.tuple #[.complex .f64 (G a) (G b), .bool true]) ∧ Below w.heap.size w w' := by
  have hl := Fl.line_look name
  unfold Fl.nval Fl.nrow at h
  obtain ⟨x, hx, hab⟩ := Option.map_eq_some_iff.1 h
  have hmem := List.mem_of_find?_eq_some hx
  obtain ⟨_, _, hf, hs⟩ := Fl.line_parts (Fl.chk_all Fl.namesL [] Fl.names_chk x hmem)
  obtain ⟨f1, f2, f3⟩ := Fl.num_parts hf
  unfold Fl.look at hl
  rw [hx] at hl
  have hemp : (Fl.toL name).isEmpty = false := by
    rw [List.isEmpty_eq_false_iff]; intro e
    exact hne (by rw [← Fl.toL_length, e]; rfl)
  simp only [hemp, Bool.not_false] at hl
  have hc := fun W => search_Line.calls namesB name _ _ W hl
  have hcut := fun W hs => cut_calls (Fl.ofL (Fl.restOf x)) 32 W hs
  have hk := Fl.cutB_key (Fl.ofL (Fl.restOf x))
  rw [Fl.toL_ofL] at hk
  have hsz : (Fl.ofL (Fl.restOf x)).size ≤ 9223372036854775807 := by
    rw [Fl.ofL_size]
    have h1 := Fl.rest_drop (Fl.restOf x)
    have h2 := congrArg List.length h1
    rw [List.length_drop] at h2
    have h3 := congrArg List.length (Fl.key_take (Fl.restOf x))
    rw [List.length_take] at h3
    rcases hs with hs | hs
    · rw [hs] at h2; simp at h2; omega
    · have := Fl.num_parts hs; omega
  obtain ⟨C, hC⟩ : ∃ C, cutB (Fl.ofL (Fl.restOf x)) 32 = C := ⟨_, rfl⟩
  rw [hC] at hcut hk
  obtain ⟨first, second, is⟩ := C
  obtain ⟨hk1, hk2⟩ := hk
  simp only at hk1 hk2
  have hn1 := fun W => number_calls first (by rw [← Fl.toL_length, hk1]; exact f1) (by rw [← Fl.toL_length, hk1]; exact f2) (by rw [hk1]; exact f3) W
  have hn2 : ∀ W, Gl W → Calls Tryd.prog 66 #[.string second] W fun e w' => e = .returned (.float .f64 (G (Fl.hexTo 0 (Fl.toL second)))) ∧ Below W.heap.size W w' := by
    intro W hW
    rcases hs with hs | hs
    · have : second = ⟨#[]⟩ := Fl.toL_inj (by rw [hk2, hs]; rfl)
      subst this
      exact number_empty W hW
    · obtain ⟨s1, s2, s3⟩ := Fl.num_parts hs
      exact number_calls second (by rw [← Fl.toL_length, hk2]; exact s1) (by rw [← Fl.toL_length, hk2]; exact s2) (by rw [hk2]; exact s3) W
  have ha : Fl.hexTo 0 (Fl.toL first) = a := by rw [hk1]; exact congrArg Prod.fst hab
  have hb : Fl.hexTo 0 (Fl.toL second) = b := by rw [hk2]; exact congrArg Prod.snd hab
  rw [ha] at hn1
  rw [hb] at hn2
  have HG := Lib.hid hG
  generalize Fl.ofL (Fl.restOf x) = rest at *
  clear hl hk1 hk2 hs hab hx h hmem hf f3 hC ha hb hemp hG
  go_enter Tryd.func49, Tryd.ntmps49
  have hN : namesB = namesB := rfl
  conv at hN => rhs; unfold namesB textOf Tryd.f48
  simp only [] at hN
  rw [← hN]
  clear hN
  go_wp2_with (first | (go_at_call 64; refine (hc _).mono ?_; rintro e w1 ⟨rfl, ⟨⟨n1, rfl⟩⟩⟩) | (go_at_call 65; refine (hcut _ hsz).mono ?_; rintro e w2 ⟨rfl, ⟨⟨n2, rfl⟩⟩⟩) | (go_at_call 66; fail))
  refine (hn1 _).mono ?_
  rintro e w3 ⟨rfl, hb3⟩
  have HB3 := Lib.hid ((pw_below_drewN (Below.refl w.heap.size w) _).trans hb3)
  clear hb3
  go_wp2_with fail
  refine (hn2 _ (Gl.below HG.out HB3.out)).mono ?_
  rintro e w4 ⟨rfl, hb4⟩
  have HB4 := Lib.hid (HB3.out.trans (hb4.mono HB3.out.size))
  clear hb4
  go_wp2
  go_ret2
  exact ⟨rfl, HB4.out⟩

/-- A name is short: it stands for something, and has no semicolon at its end. -/
noncomputable def shortB (name : ByteArray) : Bool := (Fl.nval (Fl.toL name)).isSome && !Lib.hasSuffix name.data.toList [59]

set_option maxHeartbeats 4000000 in
set_option maxRecDepth 1000000 in
theorem short_calls (name : ByteArray) (w : World) (hG : Gl w) (hne : name.size ≠ 0) (hsz : name.size ≤ 9223372036854775807) :
    Calls Tryd.prog 50 #[.string name] w fun e w' => e = .returned (.bool (shortB name)) ∧ Below w.heap.size w w' := by
  unfold shortB
  have hsf := fun W => Tryd.strings_HasSuffix name ⟨#[59]⟩ W hsz
  rw [show (⟨#[59]⟩ : ByteArray).data.toList = [59] from rfl] at hsf
  generalize Lib.hasSuffix name.data.toList [59] = sf at *
  cases hv : Fl.nval (Fl.toL name) with
  | none =>
    have hc := value_none name w hv
    clear hv
    go_enter Tryd.func50, Tryd.ntmps50
    go_wp2_with (first | (go_at_call 49; refine hc.mono ?_; rintro e w1 ⟨rfl, ⟨⟨n1, rfl⟩⟩⟩))
    go_ret
    exact ⟨rfl, pw_below_drewN (Below.refl _ _) _⟩
  | some ab =>
    obtain ⟨a, b⟩ := ab
    have hc := value_some name w hG a b hne hv
    clear hv hG
    go_enter Tryd.func50, Tryd.ntmps50
    go_wp2_with (first | (go_at_call 49; refine hc.mono ?_; rintro e w1 ⟨rfl, hb⟩; have HB := Lib.hid hb; clear hb) | (go_at_call 67; refine (hsf _).mono ?_; rintro e w2 ⟨rfl, hw⟩; obtain rfl := hw.symm))
    go_ret
    exact ⟨by first | rfl | (simp; done), HB.out⟩

/-- A value's signs. -/
def textB (a b : Nat) : ByteArray := if b = 0 then signB a else signB a ++ signB b
set_option maxHeartbeats 4000000 in
set_option maxRecDepth 1000000 in
theorem text_calls (a b : Nat) (w : World) (ha : a < 2 ^ 53) (hb : b < 2 ^ 53) :
    Calls Tryd.prog 52 #[.complex .f64 (G a) (G b)] w fun e w' => e = .returned (.string (textB a b)) ∧ w' = w := by
  have hta := fun (W : World) => run_convert_float_int (P := Tryd.prog) W 100 3 .f64 .i64 (G a) (a : Int) (by rw [Tryd.underlying100]; rfl) Tryd.underlying3 (Fl.toInt_F ha)
  have htb := fun (W : World) => run_convert_float_int (P := Tryd.prog) W 100 3 .f64 .i64 (G b) (b : Int) (by rw [Tryd.underlying100]; rfl) Tryd.underlying3 (Fl.toInt_F hb)
  have hsa := fun W => sign_calls (a : Int) W (by omega) (by omega)
  have hsb := fun W => sign_calls (b : Int) W (by omega) (by omega)
  have ho := Fl.order_F (a := b) (b := 0) hb (by omega)
  have hla := signB_size (a : Int)
  have hlb := signB_size (b : Int)
  by_cases h0 : b = 0
  · have hr : textB a b = signB a := by unfold textB; rw [if_pos h0]
    rw [hr]
    have heq : (FloatKind.f64.format.order (G b) 0 != some .eq) = false := by
      rw [h0]; decide +kernel
    clear hr ho hsb htb hlb h0
    generalize signB (a : Int) = sa at *
    go_enter Tryd.func52, Tryd.ntmps52
    go_wp2_with (first | (go_at_call 32; refine (hsa _).mono ?_; rintro e w2 ⟨rfl, hw⟩; obtain rfl := hw.symm))
    go_ret
    exact ⟨rfl, rfl⟩
  · have hr : textB a b = signB a ++ signB b := by unfold textB; rw [if_neg h0]
    rw [hr]
    have heq : (FloatKind.f64.format.order (G b) 0 != some .eq) = true := by
      have e : FloatKind.f64.format.order (G b) 0 = some (compare b 0) := by rw [← G_nul]; exact ho
      rw [e, Nat.compare_eq_gt.2 (by omega)]; rfl
    clear hr ho h0
    generalize hA : signB (a : Int) = sa at *
    generalize hB : signB (b : Int) = sb at *
    clear hA hB
    have hsum : ((sa.size : Int) + (sb.size : Int)) ≤ 9223372036854775807 := by omega
    go_enter Tryd.func52, Tryd.ntmps52
    go_wp2_with fail
    refine (hsa _).mono ?_
    rintro e w2 ⟨rfl, hw⟩
    obtain rfl := hw.symm
    go_wp2_with fail
    refine (hsb _).mono ?_
    rintro e w2 ⟨rfl, hw⟩
    obtain rfl := hw.symm
    go_wp2
    go_ret
    exact ⟨rfl, rfl⟩

end Go.Proofs.YtfhjfidkcdcjnaaDoor.Q

namespace Go.Proofs.YtfhjfidkcdcjnaaDoor.Q
open Go.RowKit Go.Proofs.YtfhjfidkcdcjnaaDoorW.PrintWords Go.Proofs.YtfhjfidkcdcjnaaDoorW.PrintLast Go.Proofs.YtfhjfidkcdcjnaaDoorW.PrintMore
attribute [local go_sem] max2_int min2_int max_two min_two max_three min_three max_four min_four   -- for this text's walks alone
set_option linter.unusedVariables false
set_option linter.unusedSimpArgs false

/-! ### search_Longest: function 63 -/
mutual
noncomputable def search_Longest.j0 : Nat → ByteArray → ByteArray → Int → Int → Bool → Option (Int)
  | 0, _, _, _, _, _ => none
  | k + 1, x0, x1, x2, x3, x19 => if x19 = true then (some 0) else (search_Longest.l0 k x0 x1 x2 (mn x3 (wrap64 ((x1.size : Int) - x2))))
noncomputable def search_Longest.l0 : Nat → ByteArray → ByteArray → Int → Int → Option (Int)
  | 0, _, _, _, _ => none
  | k + 1, x0, x1, x2, x9 => if x9 > 0 then (if 0 ≤ x2 then (if x2 ≤ (wrap64 (x2 + x9)) then (if (wrap64 (x2 + x9)) ≤ (x1.size : Int) then ((search_Line.f x0 (x1.extract (x2 : Int).toNat ((wrap64 (x2 + x9)) : Int).toNat)).bind fun bt150 => (if bt150.2 = true then (some x9) else (search_Longest.l0 k x0 x1 x2 (wrap64 (x9 - 1))))) else (none)) else (none)) else (none)) else (some 0)
end
noncomputable def search_Longest.f (k : Nat) (a0 : ByteArray) (a1 : ByteArray) (a2 : Int) (a3 : Int) : Option (Int) := if a2 < 0 then (search_Longest.j0 k a0 a1 a2 a3 true) else (search_Longest.j0 k a0 a1 a2 a3 (decide (a2 > (a1.size : Int))))
theorem search_Longest.mono_l : ∀ k, (∀ y0 y1 y2 y3 y4, LeO (search_Longest.j0 k y0 y1 y2 y3 y4) (search_Longest.j0 (k + 1) y0 y1 y2 y3 y4)) ∧ (∀ y0 y1 y2 y3, LeO (search_Longest.l0 k y0 y1 y2 y3) (search_Longest.l0 (k + 1) y0 y1 y2 y3))
  | 0 => ⟨fun _ _ _ _ _ r h => by simp [search_Longest.j0] at h, fun _ _ _ _ r h => by simp [search_Longest.l0] at h⟩
  | k + 1 => by
    obtain ⟨ih0, ih1⟩ := search_Longest.mono_l k
    refine ⟨?_, ?_⟩
    · intro y0 y1 y2 y3 y4
      unfold search_Longest.j0
      repeat' first
      | (with_reducible exact ih0 _ _ _ _ _)
      | (with_reducible exact ih1 _ _ _ _)
      | (with_reducible exact LeO.refl _)
      | (with_reducible exact LeO.none _)
      | (with_reducible refine LeO.ite ?_ ?_)
      | (with_reducible refine LeO.bind ?_ (fun _ => ?_))
      | exact ih0 _ _ _ _ _
      | exact ih1 _ _ _ _
      | exact LeO.none _
      | refine LeO.ite ?_ ?_
      | refine LeO.bind ?_ (fun _ => ?_)
    · intro y0 y1 y2 y3
      unfold search_Longest.l0
      repeat' first
      | (with_reducible exact ih0 _ _ _ _ _)
      | (with_reducible exact ih1 _ _ _ _)
      | (with_reducible exact LeO.refl _)
      | (with_reducible exact LeO.none _)
      | (with_reducible refine LeO.ite ?_ ?_)
      | (with_reducible refine LeO.bind ?_ (fun _ => ?_))
      | exact ih0 _ _ _ _ _
      | exact ih1 _ _ _ _
      | exact LeO.none _
      | refine LeO.ite ?_ ?_
      | refine LeO.bind ?_ (fun _ => ?_)
theorem search_Longest.mono : ∀ a0 a1 a2 a3 k, LeO (search_Longest.f k a0 a1 a2 a3) (search_Longest.f (k + 1) a0 a1 a2 a3) := by
  intro a0 a1 a2 a3 k
  obtain ⟨ih0, ih1⟩ := search_Longest.mono_l k
  unfold search_Longest.f
  repeat' first
      | (with_reducible exact ih0 _ _ _ _ _)
      | (with_reducible exact ih1 _ _ _ _)
      | (with_reducible exact LeO.refl _)
      | (with_reducible exact LeO.none _)
      | (with_reducible refine LeO.ite ?_ ?_)
      | (with_reducible refine LeO.bind ?_ (fun _ => ?_))
      | exact ih0 _ _ _ _ _
      | exact ih1 _ _ _ _
      | exact LeO.none _
      | refine LeO.ite ?_ ?_
      | refine LeO.bind ?_ (fun _ => ?_)
set_option maxHeartbeats 8000000 in
set_option maxRecDepth 100000 in
theorem search_Longest.calls (k : Nat) (a0 : ByteArray) (a1 : ByteArray) (a2 : Int) (a3 : Int) (r : Int) (w : World) (h : search_Longest.f k a0 a1 a2 a3 = some r) :
    Calls Tryd.prog 63 #[.string a0, .string a1, .int .i64 a2, .int .i64 a3] w fun e w' => e = .returned (.int .i64 r) ∧ Below w.heap.size w w' := by
  have HB := Aside0.mk (Below.refl w.heap.size w)
  have H : (if a2 < 0 then (search_Longest.j0 k a0 a1 a2 a3 true) else (search_Longest.j0 k a0 a1 a2 a3 (decide (a2 > (a1.size : Int))))) = some r := h
  clear h
  have HC5 := Aside0.mk H
  clear H
  go_enter Tryd.func63, Tryd.ntmps63
  go_upto_region 1 with (fail)
  go_cut [19] (fun v19 wc => ∃ (kq : Nat) (x19_4 : Bool), v19 = .bool x19_4 ∧ Aside0 (search_Longest.j0 kq a0 a1 a2 a3 x19_4 = some r) ∧ Aside0 (kq ≤ k) ∧ Aside0 (Below w.heap.size w wc))
  case first =>
    have H := HC5.out
    clear HC5
    by_cases c6 : a2 < 0
    · rw [if_pos c6] at H
      have c6b0 : decide (a2 < 0) = true := decide_eq_true c6
      clear c6
      (first | rw [c6b0] | (simp only [i64_w, i32_w]; rw [c6b0]) | skip)
      have H' := Aside0.mk H
      clear H
      go_wp2
      go_meet
      case rel => exact ⟨_, (true), (by first | rfl | (simp; done) | (simp [*]; done)), H', ⟨by first | omega | exact Nat.le_refl _⟩, ⟨by repeat (first | (with_reducible first | exact HB.out | apply below_alloc | apply pw_below_drewN | apply below_drew1) | exact HB.out)⟩⟩
    · rw [if_neg c6] at H
      have c6b0 : decide (a2 < 0) = false := decide_eq_false c6
      clear c6
      (first | rw [c6b0] | (simp only [i64_w, i32_w]; rw [c6b0]) | skip)
      have H' := Aside0.mk H
      clear H
      go_wp2
      go_meet
      case rel => exact ⟨_, (decide (a2 > (a1.size : Int))), (by first | rfl | (simp; done) | (simp [*]; done)), H', ⟨by first | omega | exact Nat.le_refl _⟩, ⟨by repeat (first | (with_reducible first | exact HB.out | apply below_alloc | apply pw_below_drewN | apply below_drew1) | exact HB.out)⟩⟩
  case rest =>
    clear HC5
    try clear p2
    try clear c6
    try clear c6b0
    obtain ⟨kq, x19_4, rfl, HA, HJ4, HB⟩ := hcut
    cases kq with
    | zero => exact absurd HA.out (by simp [search_Longest.j0])
    | succ kj4 =>
      have H := HA.out
      clear HA
      simp only [search_Longest.j0] at H
      by_cases c7 : x19_4 = true
      · subst c7
        have H1 : (some 0) = some r := by rw [if_pos rfl] at H; exact H
        clear H
        have H := H1
        clear H1
        obtain rfl := Option.some.inj H
        go_wp2
        go_ret
        exact ⟨by first | rfl | (simp [errW_none, errW_some] <;> rfl) | (simp [*, errW_none, errW_some] <;> rfl), by repeat (first | (with_reducible first | exact HB.out | apply below_alloc | apply pw_below_drewN | apply below_drew1) | exact HB.out)⟩
      · replace c7 := Bool.eq_false_iff.mpr c7
        subst c7
        have H1 : (search_Longest.l0 kj4 a0 a1 a2 (mn a3 (wrap64 ((a1.size : Int) - a2)))) = some r := by rw [if_neg (show ¬ (false = true) by decide)] at H; exact H
        clear H
        have H := H1
        clear H1
        obtain ⟨ji8, hji8⟩ : ∃ j_ : Int, (mn a3 (wrap64 ((a1.size : Int) - a2))) = j_ := ⟨_, rfl⟩
        replace H : (search_Longest.l0 kj4 a0 a1 a2 ji8) = some r := by first | (rw [hji8] at H; exact H) | (simp only [hji8] at H ⊢; exact H)
        have hji8_ : (if (wrap64 ((a1.size : Int) - a2)) < a3 then (wrap64 ((a1.size : Int) - a2)) else a3) = ji8 := hji8
        have H' := Aside0.mk H
        clear H
        go_wp2
        go_loopg [9] kj4 (fun kq v9 w' => ∃ (x9_2 : Int), v9 = .int .i64 x9_2 ∧ Aside0 (search_Longest.l0 kq a0 a1 a2 x9_2 = some r) ∧ Aside0 (kq ≤ kj4) ∧ Aside0 (Below w.heap.size w w'))
        case atStart => exact ⟨(ji8), (by first | rfl | (simp; done) | (simp only [← hji8] <;> (first | rfl | simp)) | (simp [*]; done)), H', ⟨Nat.le_refl _⟩, ⟨by repeat (first | (with_reducible first | exact HB.out | apply below_alloc | apply pw_below_drewN | apply below_drew1) | exact HB.out)⟩⟩
        case round =>
          clear H'
          try clear p2
          try clear c6
          try clear c6b0
          try clear p6
          try clear c7
          try clear p2
          obtain ⟨x9_2, rfl, HA, HK2, HB⟩ := hrel
          cases gk with
          | zero => exact absurd HA.out (by simp [search_Longest.l0])
          | succ k2 =>
            have H := HA.out
            clear HA
            simp only [search_Longest.l0] at H
            by_cases c9 : x9_2 > 0
            · rw [if_pos c9] at H
              have c9b0 : decide (0 < x9_2) = true := decide_eq_true c9
              clear c9
              by_cases c10 : 0 ≤ a2
              · rw [if_pos c10] at H
                have c10b0 := eq_true c10
                have c10b1 : decide (0 ≤ a2) = true := decide_eq_true c10
                clear c10
                by_cases c11 : a2 ≤ (wrap64 (a2 + x9_2))
                · rw [if_pos c11] at H
                  have c11b0 := eq_true c11
                  have c11b1 : decide (a2 ≤ (wrap64 (a2 + x9_2))) = true := decide_eq_true c11
                  by_cases c12 : (wrap64 (a2 + x9_2)) ≤ (a1.size : Int)
                  · rw [if_pos c12] at H
                    have c12b0 := eq_true c12
                    have c12b1 : decide ((wrap64 (a2 + x9_2)) ≤ (a1.size : Int)) = true := decide_eq_true c12
                    replace H := Option.bind_eq_some_iff.mp H
                    obtain ⟨⟨t150, t151⟩, A130, H⟩ := H
                    replace H : (if t151 = true then (some x9_2) else (search_Longest.l0 k2 a0 a1 a2 (wrap64 (x9_2 - 1)))) = some r := H
                    have A13 := Aside0.mk A130
                    clear A130
                    by_cases c14 : t151 = true
                    · subst c14
                      have H1 : (some x9_2) = some r := by rw [if_pos rfl] at H; exact H
                      clear H
                      have H := H1
                      clear H1
                      obtain rfl := Option.some.inj H
                      go_wp2_with (first | ((with_reducible refine gate_callee (f := 64) rfl ?_); refine goesL_ (some 38) rfl rfl Tryd.func64 (by kernel_rfl) rfl #[.string a0, .string (a1.extract (a2 : Int).toNat ((wrap64 (a2 + x9_2)) : Int).toNat)] rfl (by (try simp only [List.map_toArray, List.map_cons, List.map_nil]); first | done | rfl | (simp only [List.length_drop, List.length_take]; rfl)) ?_; (with_reducible refine (search_Line.calls a0 (a1.extract (a2 : Int).toNat ((wrap64 (a2 + x9_2)) : Int).toNat) t150 true _ A13.out).mono ?_); rintro e w' ⟨rfl, ⟨nd, rfl⟩⟩; refine ⟨_, rfl, ?_⟩))
                      go_ret
                      exact ⟨by first | rfl | (simp [errW_none, errW_some] <;> rfl) | (simp only [← hji8]; first | rfl | (simp [errW_none, errW_some] <;> rfl)) | (simp [*, errW_none, errW_some] <;> rfl), by repeat (first | (with_reducible first | exact HB.out | apply below_alloc | apply pw_below_drewN | apply below_drew1) | exact HB.out)⟩
                    · replace c14 := Bool.eq_false_iff.mpr c14
                      subst c14
                      have H1 : (search_Longest.l0 k2 a0 a1 a2 (wrap64 (x9_2 - 1))) = some r := by rw [if_neg (show ¬ (false = true) by decide)] at H; exact H
                      clear H
                      have H := H1
                      clear H1
                      have H' := Aside0.mk H
                      clear H
                      go_wp2_with (first | ((with_reducible refine gate_callee (f := 64) rfl ?_); refine goesL_ (some 38) rfl rfl Tryd.func64 (by kernel_rfl) rfl #[.string a0, .string (a1.extract (a2 : Int).toNat ((wrap64 (a2 + x9_2)) : Int).toNat)] rfl (by (try simp only [List.map_toArray, List.map_cons, List.map_nil]); first | done | rfl | (simp only [List.length_drop, List.length_take]; rfl)) ?_; (with_reducible refine (search_Line.calls a0 (a1.extract (a2 : Int).toNat ((wrap64 (a2 + x9_2)) : Int).toNat) t150 false _ A13.out).mono ?_); rintro e w' ⟨rfl, ⟨nd, rfl⟩⟩; refine ⟨_, rfl, ?_⟩))
                      go_roundg k2
                      case measure => have := HJ4.out; have := HK2.out; omega
                      case rel => exact ⟨(wrap64 (x9_2 - 1)), (by first | rfl | (simp; done) | (simp [*]; done)), (by first | exact H' | (have h_ := H'.out; simp only [← hji8] at h_; exact Aside0.mk h_)), ⟨by have := HJ4.out; have := HK2.out; omega⟩, ⟨by repeat (first | (with_reducible first | exact HB.out | apply below_alloc | apply pw_below_drewN | apply below_drew1) | exact HB.out)⟩⟩
                  · rw [if_neg c12] at H
                    exact absurd H (by simp)
                · rw [if_neg c11] at H
                  exact absurd H (by simp)
              · rw [if_neg c10] at H
                exact absurd H (by simp)
            · rw [if_neg c9] at H
              have c9b0 : decide (0 < x9_2) = false := decide_eq_false c9
              clear c9
              obtain rfl := Option.some.inj H
              go_wp2
              go_ret
              exact ⟨by first | rfl | (simp [errW_none, errW_some] <;> rfl) | (simp only [← hji8]; first | rfl | (simp [errW_none, errW_some] <;> rfl)) | (simp [*, errW_none, errW_some] <;> rfl), by repeat (first | (with_reducible first | exact HB.out | apply below_alloc | apply pw_below_drewN | apply below_drew1) | exact HB.out)⟩

end Go.Proofs.YtfhjfidkcdcjnaaDoor.Q

/- 'names.Longest': the walk. -/
namespace Go.Proofs.YtfhjfidkcdcjnaaDoor.Q
open Go.RowKit Go.Proofs.YtfhjfidkcdcjnaaDoorW.PrintWords Go.Proofs.YtfhjfidkcdcjnaaDoorW.PrintLast Go.Proofs.YtfhjfidkcdcjnaaDoorW.PrintMore

noncomputable def names_Longest.f (a0 : ByteArray) (a1 : Int) : Option (Int) := search_Longest.f 200 namesB a0 a1 32
set_option maxHeartbeats 4000000 in
set_option maxRecDepth 1000000 in
theorem names_Longest.calls (a0 : ByteArray) (a1 : Int) (r : Int) (w : World) (h : names_Longest.f a0 a1 = some r) :
    Calls Tryd.prog 48 #[.string a0, .int .i64 a1] w fun e w' => e = .returned (.int .i64 r) ∧ Below w.heap.size w w' := by
  unfold names_Longest.f at h
  have hc := fun W => search_Longest.calls 200 namesB a0 a1 32 r W h
  clear h
  go_enter Tryd.func48, Tryd.ntmps48
  have hN : namesB = namesB := rfl
  conv at hN => rhs; unfold namesB textOf Tryd.f48
  simp only [] at hN
  rw [← hN]
  clear hN
  go_wp2_with (first | (go_at_call 63; refine (hc _).mono ?_; rintro e w1 ⟨rfl, hb⟩; have HB := Lib.hid hb; clear hb))
  go_ret
  exact ⟨rfl, HB.out⟩
end Go.Proofs.YtfhjfidkcdcjnaaDoor.Q

/- 'sign.Lower' makes each byte small: the walk. -/
namespace Go.Proofs.YtfhjfidkcdcjnaaDoor.Q
open Go.RowKit Go.Proofs.YtfhjfidkcdcjnaaDoorW.PrintWords Go.Proofs.YtfhjfidkcdcjnaaDoorW.PrintLast Go.Proofs.YtfhjfidkcdcjnaaDoorW.PrintMore
set_option linter.unusedVariables false
set_option linter.unusedSimpArgs false

def sign_Lower.f (a0 : ByteArray) : Option (ByteArray) := if a0.size ≤ 9223372036854775807 then some (Fl.ofL (Fl.lower (Fl.toL a0))) else none

theorem lw_or (c : UInt8) (h : 65 ≤ c.toNat ∧ c.toNat ≤ 90) : Go.bits .or .u8 (c.toNat : Int) 32 = ((Fl.lw c).toNat : Int) := by
  have := Fl.byteAll (fun c => !(decide (65 ≤ c.toNat ∧ c.toNat ≤ 90)) || decide (Go.bits .or .u8 (c.toNat : Int) 32 = ((Fl.lw c).toNat : Int))) (by decide +kernel) c
  simpa [h] using this

def bAt (s : ByteArray) (j : Nat) : UInt8 := (Fl.toL s).getD j 0
/-- What lies in cell j when k bytes have been made small. -/
def lowAt (s : ByteArray) (k j : Nat) : Int := if j < k then ((Fl.lw (bAt s j)).toNat : Int) else ((bAt s j).toNat : Int)
theorem lowAt_zero (s : ByteArray) (j : Nat) : lowAt s 0 j = ((bAt s j).toNat : Int) := by simp [lowAt]
theorem lowAt_here (s : ByteArray) (k : Nat) : lowAt s k k = ((bAt s k).toNat : Int) := by simp [lowAt]
theorem lowAt_this (s : ByteArray) (k : Nat) : lowAt s (k + 1) k = ((Fl.lw (bAt s k)).toNat : Int) := by simp [lowAt]
theorem lowAt_else (s : ByteArray) (k j : Nat) (h : j ≠ k) : lowAt s (k + 1) j = lowAt s k j := by
  unfold lowAt
  by_cases h1 : j < k
  · rw [if_pos (by omega), if_pos h1]
  · rw [if_neg (by omega), if_neg h1]
theorem lowAt_end (s : ByteArray) (k j : Nat) (hj : j < k) (hs : j < s.size) : lowAt s k j = ((Fl.lower (Fl.toL s)).map fun c => (c.toNat : Int)).getD j 0 := by
  have hl : j < (Fl.toL s).length := by simpa using hs
  simp [lowAt, hj, bAt, Fl.lower, List.getD_eq_getElem?_getD, List.getElem?_eq_getElem hl]
theorem lw_same (c : UInt8) (h : ¬ (65 ≤ c.toNat ∧ c.toNat ≤ 90)) : Fl.lw c = c := by simp [Fl.lw, h]
theorem strOf_lower (s : ByteArray) : strOfNums ((Fl.lower (Fl.toL s)).map fun c => (c.toNat : Int)) = Fl.ofL (Fl.lower (Fl.toL s)) := by
  simp [strOfNums, Fl.ofL, List.map_map, Function.comp_def]

set_option maxHeartbeats 2000000 in
set_option maxRecDepth 100000 in
theorem sign_Lower.calls (a0 : ByteArray) (r : ByteArray) (w : World) (h : sign_Lower.f a0 = some r) :
    Calls Tryd.prog 21 #[.string a0] w fun e w' => e = .returned (.string r) ∧ Below w.heap.size w w' := by
  unfold sign_Lower.f at h
  split at h
  · rename_i hs
    obtain rfl := Option.some.inj h
    clear h
    have hconv := Lib.run_convert_string_bytes (P := Tryd.prog) w 9 29 5 a0 Tryd.underlying9 Tryd.underlying29 Tryd.underlying5
    have hcell := fun j hj => Lib.bytesWorld_cell w 5 a0 j hj
    have hnew := Lib.bytesWorld_at_new w 5 a0
    have hsz := Lib.bytesWorld_size w 5 a0
    have hbel : Below w.heap.size w (Lib.bytesWorld w 5 a0) := ⟨rfl, rfl, rfl, by rw [hsz]; omega, fun k hk => Lib.bytesWorld_at_old w 5 a0 k hk⟩
    have hfr : ∀ j, j < a0.size → (Lib.bytesWorld w 5 a0).frozen? ⟨w.heap.size, j, none⟩ = false := by
      intro j hj
      have hC : a0.size ≤ (Lib.bytesCells w 5 a0).size := by
        have e : a0.size = a0.data.size := rfl
        simp only [Lib.bytesCells, Array.size_append, Array.size_map, Array.size_replicate]
        omega
      unfold World.frozen?
      rw [hnew]
      simp
      omega
    generalize hW : Lib.bytesWorld w 5 a0 = W at *
    generalize grownCap w a0.size 0 5 = cap at *
    have HC := Lib.hid hcell
    have HN := Lib.hid hnew
    have HZ := Lib.hid hsz
    have HF := Lib.hid hfr
    clear hcell hnew hsz hfr hW
    go_enter Tryd.func21, Tryd.ntmps21
    go_wp2
    go_loopw [10] (fun i wr => ∃ k : Nat, k ≤ a0.size ∧ i = .int .i64 k ∧ (∀ j, j < a0.size → wr.cell? ⟨w.heap.size, j, none⟩ = some (.int .u8 (lowAt a0 k j))) ∧ (∀ j, j < a0.size → wr.frozen? ⟨w.heap.size, j, none⟩ = false) ∧ Below w.heap.size w wr) (fun i _ => a0.size - (intOf i).toNat)
    case atStart => exact ⟨0, Nat.zero_le _, rfl, fun j hj => by rw [lowAt_zero]; exact HC.out j hj, HF.out, hbel⟩
    case round =>
      obtain ⟨k, hk, rfl, hc, hf, hb⟩ := hrel
      by_cases hlt : k < a0.size
      · have hck := hc k hlt
        rw [lowAt_here] at hck
        have hfk := hf k hlt
        have HC2 := Lib.hid hc
        have HF2 := Lib.hid hf
        clear hc hf
        by_cases hlet : 65 ≤ (bAt a0 k).toNat ∧ (bAt a0 k).toNat ≤ 90
        · have hor := lw_or _ hlet
          have hw1 : sign_within.f ((bAt a0 k).toNat : Int) 65 90 = some true := by unfold sign_within.f; rw [if_pos (by omega)]; simp; omega
          have HW1 := Lib.hid hw1
          clear hw1
          go_wp2_with (go_at_call 35; refine (sign_within.calls _ _ _ true _ HW1.out).mono ?_; rintro e w1 ⟨rfl, ⟨n, rfl⟩⟩)
          go_roundw
          case rel =>
            refine ⟨k + 1, by omega, by go_num, fun j hj => ?_, fun j hj => ?_, (pw_below_drewN hb n).setCell (p := ⟨w.heap.size, k, none⟩) (Nat.le_refl _) _⟩
            · by_cases e : j = k
              · subst e
                rw [lowAt_this]
                exact World.cell?_setCell_same' _ _ _ (by rw [World.cell?_drewN, hck]; rfl)
              · rw [lowAt_else _ _ _ e, World.cell?_setCell_other _ _ _ _ (by intro h; injection h with _ h2; exact e h2.symm), World.cell?_drewN]
                exact HC2.out j hj
            · rw [World.frozen?_setCell, World.frozen?_drewN]
              exact HF2.out j hj
          case measure => simp [intOf]; omega
        · have hw1 : sign_within.f ((bAt a0 k).toNat : Int) 65 90 = some false := by
            unfold sign_within.f
            by_cases h1 : ((bAt a0 k).toNat : Int) ≥ 65
            · rw [if_pos h1]; simp; omega
            · rw [if_neg h1]
          have HW1 := Lib.hid hw1
          clear hw1
          go_wp2_with (go_at_call 35; refine (sign_within.calls _ _ _ false _ HW1.out).mono ?_; rintro e w1 ⟨rfl, ⟨n, rfl⟩⟩)
          go_roundw
          case rel =>
            refine ⟨k + 1, by omega, by go_num, fun j hj => ?_, fun j hj => ?_, pw_below_drewN hb n⟩
            · rw [World.cell?_drewN]
              by_cases e : j = k
              · subst e
                rw [lowAt_this, lw_same _ hlet]
                exact hck
              · rw [lowAt_else _ _ _ e]
                exact HC2.out j hj
            · rw [World.frozen?_drewN]
              exact HF2.out j hj
          case measure => simp [intOf]; omega
      · obtain rfl : k = a0.size := by omega
        have hback := fun (W2 : World) (hcc : ∀ j, j < a0.size → W2.cell? ⟨w.heap.size, j, none⟩ = some (.int .u8 (lowAt a0 a0.size j))) => run_convert_bytes_arg (P := Tryd.prog) W2 29 5 Tryd.underlying29 Tryd.underlying5 w.heap.size 0 a0.size cap ((Fl.lower (Fl.toL a0)).map fun c => (c.toNat : Int)) (by simp [Fl.lower]) (fun i hi => by rw [Nat.zero_add, hcc i hi, lowAt_end a0 _ i hi hi]) 9 Tryd.underlying9
        have hb2 := hback wr hc
        rw [strOf_lower] at hb2
        clear hc hf hback
        go_wp2
        go_ret
        exact ⟨rfl, hb⟩
  · cases h

end Go.Proofs.YtfhjfidkcdcjnaaDoor.Q

namespace Go.Proofs.YtfhjfidkcdcjnaaDoor.Q
open Go.RowKit Go.Proofs.YtfhjfidkcdcjnaaDoorW.PrintWords Go.Proofs.YtfhjfidkcdcjnaaDoorW.PrintLast Go.Proofs.YtfhjfidkcdcjnaaDoorW.PrintMore
attribute [local go_sem] max2_int min2_int max_two min_two max_three min_three max_four min_four   -- for this text's walks alone
set_option linter.unusedVariables false
set_option linter.unusedSimpArgs false

/-! ### sign_Begins: function 24 -/
noncomputable def sign_Begins.f (a0 : ByteArray) (a1 : Int) (a2 : ByteArray) : Option (Bool) := if a1 < 0 then (some false) else (if a1 > (a0.size : Int) then (some false) else (if (wrap64 ((a0.size : Int) - a1)) < (a2.size : Int) then (some false) else (if 0 ≤ a1 then (if a1 ≤ (wrap64 (a1 + (a2.size : Int))) then (if (wrap64 (a1 + (a2.size : Int))) ≤ (a0.size : Int) then ((sign_Lower.f (a0.extract (a1 : Int).toNat ((wrap64 (a1 + (a2.size : Int))) : Int).toNat)).bind fun t107 => (some (t107.toList == a2.toList))) else (none)) else (none)) else (none))))
set_option maxHeartbeats 8000000 in
set_option maxRecDepth 100000 in
theorem sign_Begins.calls (a0 : ByteArray) (a1 : Int) (a2 : ByteArray) (r : Bool) (w : World) (h : sign_Begins.f a0 a1 a2 = some r) :
    Calls Tryd.prog 24 #[.string a0, .int .i64 a1, .string a2] w fun e w' => e = .returned (.bool r) ∧ Below w.heap.size w w' := by
  have HB := Aside0.mk (Below.refl w.heap.size w)
  have H : (if a1 < 0 then (some false) else (if a1 > (a0.size : Int) then (some false) else (if (wrap64 ((a0.size : Int) - a1)) < (a2.size : Int) then (some false) else (if 0 ≤ a1 then (if a1 ≤ (wrap64 (a1 + (a2.size : Int))) then (if (wrap64 (a1 + (a2.size : Int))) ≤ (a0.size : Int) then ((sign_Lower.f (a0.extract (a1 : Int).toNat ((wrap64 (a1 + (a2.size : Int))) : Int).toNat)).bind fun t107 => (some (t107.toList == a2.toList))) else (none)) else (none)) else (none))))) = some r := h
  clear h
  by_cases c4 : a1 < 0
  · rw [if_pos c4] at H
    have c4b0 : decide (a1 < 0) = true := decide_eq_true c4
    clear c4
    obtain rfl := Option.some.inj H
    go_enter Tryd.func24, Tryd.ntmps24
    go_wp2
    go_ret
    exact ⟨by first | rfl | (simp [errW_none, errW_some] <;> rfl) | (simp [*, errW_none, errW_some] <;> rfl), by repeat (first | (with_reducible first | exact HB.out | apply below_alloc | apply pw_below_drewN | apply below_drew1) | exact HB.out)⟩
  · rw [if_neg c4] at H
    have c4b0 : decide (a1 < 0) = false := decide_eq_false c4
    clear c4
    by_cases c5 : a1 > (a0.size : Int)
    · rw [if_pos c5] at H
      have c5b0 : decide ((a0.size : Int) < a1) = true := decide_eq_true c5
      clear c5
      obtain rfl := Option.some.inj H
      go_enter Tryd.func24, Tryd.ntmps24
      go_wp2
      go_ret
      exact ⟨by first | rfl | (simp [errW_none, errW_some] <;> rfl) | (simp [*, errW_none, errW_some] <;> rfl), by repeat (first | (with_reducible first | exact HB.out | apply below_alloc | apply pw_below_drewN | apply below_drew1) | exact HB.out)⟩
    · rw [if_neg c5] at H
      have c5b0 : decide ((a0.size : Int) < a1) = false := decide_eq_false c5
      clear c5
      by_cases c6 : (wrap64 ((a0.size : Int) - a1)) < (a2.size : Int)
      · rw [if_pos c6] at H
        have c6b0 : decide ((wrap64 ((a0.size : Int) - a1)) < (a2.size : Int)) = true := decide_eq_true c6
        (try (have c6b1 : decide ((((a0.size : Int) - a1)) < (a2.size : Int)) = true := by have h_ := c6; rw [IntWalk.wrap64_in ((a0.size : Int) - a1) ⟨by omega, by omega⟩] at h_; exact decide_eq_true h_))
        (try (have c6b2 : ((((a0.size : Int) - a1)) < (a2.size : Int)) = True := eq_true (by have h_ := c6; rw [IntWalk.wrap64_in ((a0.size : Int) - a1) ⟨by omega, by omega⟩] at h_; exact h_)))
        (try (have c6b3 : ((a2.size : Int) ≤ (((a0.size : Int) - a1))) = False := eq_false (Int.not_le.2 (by have h_ := c6; rw [IntWalk.wrap64_in ((a0.size : Int) - a1) ⟨by omega, by omega⟩] at h_; exact h_))))
        clear c6
        obtain rfl := Option.some.inj H
        go_enter Tryd.func24, Tryd.ntmps24
        go_wp2
        go_ret
        exact ⟨by first | rfl | (simp [errW_none, errW_some] <;> rfl) | (simp [*, errW_none, errW_some] <;> rfl), by repeat (first | (with_reducible first | exact HB.out | apply below_alloc | apply pw_below_drewN | apply below_drew1) | exact HB.out)⟩
      · rw [if_neg c6] at H
        have c6b0 : decide ((wrap64 ((a0.size : Int) - a1)) < (a2.size : Int)) = false := decide_eq_false c6
        (try (have c6b1 : decide ((((a0.size : Int) - a1)) < (a2.size : Int)) = false := by have h_ := c6; rw [IntWalk.wrap64_in ((a0.size : Int) - a1) ⟨by omega, by omega⟩] at h_; exact decide_eq_false h_))
        (try (have c6b2 : ((((a0.size : Int) - a1)) < (a2.size : Int)) = False := eq_false (by have h_ := c6; rw [IntWalk.wrap64_in ((a0.size : Int) - a1) ⟨by omega, by omega⟩] at h_; exact h_)))
        (try (have c6b3 : ((a2.size : Int) ≤ (((a0.size : Int) - a1))) = True := eq_true (Int.not_lt.1 (by have h_ := c6; rw [IntWalk.wrap64_in ((a0.size : Int) - a1) ⟨by omega, by omega⟩] at h_; exact h_))))
        clear c6
        by_cases c7 : 0 ≤ a1
        · rw [if_pos c7] at H
          have c7b0 := eq_true c7
          have c7b1 : decide (0 ≤ a1) = true := decide_eq_true c7
          clear c7
          by_cases c8 : a1 ≤ (wrap64 (a1 + (a2.size : Int)))
          · rw [if_pos c8] at H
            have c8b0 := eq_true c8
            have c8b1 : decide (a1 ≤ (wrap64 (a1 + (a2.size : Int)))) = true := decide_eq_true c8
            by_cases c9 : (wrap64 (a1 + (a2.size : Int))) ≤ (a0.size : Int)
            · rw [if_pos c9] at H
              have c9b0 := eq_true c9
              have c9b1 : decide ((wrap64 (a1 + (a2.size : Int))) ≤ (a0.size : Int)) = true := decide_eq_true c9
              replace H := Option.bind_eq_some_iff.mp H
              obtain ⟨t107, A100, H⟩ := H
              replace H : (some (t107.toList == a2.toList)) = some r := H
              have A10 := Aside0.mk A100
              clear A100
              obtain rfl := Option.some.inj H
              go_enter Tryd.func24, Tryd.ntmps24
              go_wp2_with (first | ((with_reducible refine gate_callee (f := 21) rfl ?_); refine goesL_ (some 31) rfl rfl Tryd.func21 (by kernel_rfl) rfl #[.string (a0.extract (a1 : Int).toNat ((wrap64 (a1 + (a2.size : Int))) : Int).toNat)] rfl (by (try simp only [List.map_toArray, List.map_cons, List.map_nil]); first | done | rfl | (simp only [List.length_drop, List.length_take]; rfl)) ?_; (with_reducible refine (sign_Lower.calls (a0.extract (a1 : Int).toNat ((wrap64 (a1 + (a2.size : Int))) : Int).toNat) t107 _ A10.out).mono ?_); rintro e w11 ⟨rfl, hb⟩; refine ⟨_, rfl, ?_⟩; have n0_ := Aside0.mk (below_step (by repeat (first | (with_reducible first | exact HB.out | apply below_alloc | apply pw_below_drewN | apply below_drew1) | exact HB.out)) hb); clear HB; have HB := n0_; clear n0_; (try clear hb); (try clear hb2); (try clear hk); (try clear hi)))
              go_ret
              exact ⟨by first | rfl | (simp [errW_none, errW_some] <;> rfl) | (simp [*, errW_none, errW_some] <;> rfl), by repeat (first | (with_reducible first | exact HB.out | apply below_alloc | apply pw_below_drewN | apply below_drew1) | exact HB.out)⟩
            · rw [if_neg c9] at H
              exact absurd H (by simp)
          · rw [if_neg c8] at H
            exact absurd H (by simp)
        · rw [if_neg c7] at H
          exact absurd H (by simp)

end Go.Proofs.YtfhjfidkcdcjnaaDoor.Q

namespace Go.Proofs.YtfhjfidkcdcjnaaDoor.Q
open Go.RowKit Go.Proofs.YtfhjfidkcdcjnaaDoorW.PrintWords Go.Proofs.YtfhjfidkcdcjnaaDoorW.PrintLast Go.Proofs.YtfhjfidkcdcjnaaDoorW.PrintMore
attribute [local go_sem] max2_int min2_int max_two min_two max_three min_three max_four min_four   -- for this text's walks alone
set_option linter.unusedVariables false
set_option linter.unusedSimpArgs false

/-! ### number_Read: function 47 -/
mutual
noncomputable def number_Read.j0 : Nat → ByteArray → Int → Int → Bool → Option (ByteArray × Int × Bool)
  | 0, _, _, _, _ => none
  | k + 1, x0, x1, x7, x8 => number_Read.l0 k x0 x1 x7 x8 x7
noncomputable def number_Read.j2 : Nat → ByteArray → Int → Int → Bool → Int → Option (ByteArray × Int × Bool)
  | 0, _, _, _, _, _ => none
  | k + 1, x0, x1, x7, x8, x9 => if 0 ≤ x9 then (if x9 ≤ x7 then (if x7 ≤ (x0.size : Int) then ((number_Value.f (x0.extract (x9 : Int).toNat (x7 : Int).toNat) x8).bind fun t112 => (if t112 < 0 then (some ((⟨#[]⟩ : ByteArray), x1, false)) else ((sign_Begins.f x0 x7 (⟨#[59]⟩ : ByteArray)).bind fun t113 => (if t113 = true then ((number_Fix.f t112).bind fun t114 => (some (t114, wrap64 (x7 + 1), true))) else ((number_Fix.f t112).bind fun t115 => (some (t115, x7, true))))))) else (none)) else (none)) else (none)
noncomputable def number_Read.l0 : Nat → ByteArray → Int → Int → Bool → Int → Option (ByteArray × Int × Bool)
  | 0, _, _, _, _, _ => none
  | k + 1, x0, x1, x7, x8, x9 => if x7 < (x0.size : Int) then (if 0 ≤ x7 then ((sign_Digit.f (bt x0 x7)).bind fun t110 => (if t110 = true then (number_Read.l0 k x0 x1 (wrap64 (x7 + 1)) x8 x9) else (if x8 = true then ((sign_Hex.f (bt x0 x7)).bind fun t111 => (if t111 ≥ 0 then (number_Read.l0 k x0 x1 (wrap64 (x7 + 1)) x8 x9) else (number_Read.j2 k x0 x1 x7 x8 x9))) else (number_Read.j2 k x0 x1 x7 x8 x9)))) else (none)) else (number_Read.j2 k x0 x1 x7 x8 x9)
end
noncomputable def number_Read.f (k : Nat) (a0 : ByteArray) (a1 : Int) : Option (ByteArray × Int × Bool) := (sign_Begins.f a0 a1 (⟨#[35]⟩ : ByteArray)).bind fun t108 => (if t108 = true then ((sign_Begins.f a0 (wrap64 (a1 + 1)) (⟨#[120]⟩ : ByteArray)).bind fun t109 => (if t109 = true then (number_Read.j0 k a0 a1 (wrap64 ((wrap64 (a1 + 1)) + 1)) t109) else (number_Read.j0 k a0 a1 (wrap64 (a1 + 1)) t109))) else (some ((⟨#[]⟩ : ByteArray), a1, false)))
theorem number_Read.mono_l : ∀ k, (∀ y0 y1 y2 y3, LeO (number_Read.j0 k y0 y1 y2 y3) (number_Read.j0 (k + 1) y0 y1 y2 y3)) ∧ (∀ y0 y1 y2 y3 y4, LeO (number_Read.j2 k y0 y1 y2 y3 y4) (number_Read.j2 (k + 1) y0 y1 y2 y3 y4)) ∧ (∀ y0 y1 y2 y3 y4, LeO (number_Read.l0 k y0 y1 y2 y3 y4) (number_Read.l0 (k + 1) y0 y1 y2 y3 y4))
  | 0 => ⟨fun _ _ _ _ r h => by simp [number_Read.j0] at h, fun _ _ _ _ _ r h => by simp [number_Read.j2] at h, fun _ _ _ _ _ r h => by simp [number_Read.l0] at h⟩
  | k + 1 => by
    obtain ⟨ih0, ih1, ih2⟩ := number_Read.mono_l k
    refine ⟨?_, ?_, ?_⟩
    · intro y0 y1 y2 y3
      unfold number_Read.j0
      repeat' first
      | (with_reducible exact ih0 _ _ _ _)
      | (with_reducible exact ih1 _ _ _ _ _)
      | (with_reducible exact ih2 _ _ _ _ _)
      | (with_reducible exact LeO.refl _)
      | (with_reducible exact LeO.none _)
      | (with_reducible refine LeO.ite ?_ ?_)
      | (with_reducible refine LeO.bind ?_ (fun _ => ?_))
      | exact ih0 _ _ _ _
      | exact ih1 _ _ _ _ _
      | exact ih2 _ _ _ _ _
      | exact LeO.none _
      | refine LeO.ite ?_ ?_
      | refine LeO.bind ?_ (fun _ => ?_)
    · intro y0 y1 y2 y3 y4
      unfold number_Read.j2
      repeat' first
      | (with_reducible exact ih0 _ _ _ _)
      | (with_reducible exact ih1 _ _ _ _ _)
      | (with_reducible exact ih2 _ _ _ _ _)
      | (with_reducible exact LeO.refl _)
      | (with_reducible exact LeO.none _)
      | (with_reducible refine LeO.ite ?_ ?_)
      | (with_reducible refine LeO.bind ?_ (fun _ => ?_))
      | exact ih0 _ _ _ _
      | exact ih1 _ _ _ _ _
      | exact ih2 _ _ _ _ _
      | exact LeO.none _
      | refine LeO.ite ?_ ?_
      | refine LeO.bind ?_ (fun _ => ?_)
    · intro y0 y1 y2 y3 y4
      unfold number_Read.l0
      repeat' first
      | (with_reducible exact ih0 _ _ _ _)
      | (with_reducible exact ih1 _ _ _ _ _)
      | (with_reducible exact ih2 _ _ _ _ _)
      | (with_reducible exact LeO.refl _)
      | (with_reducible exact LeO.none _)
      | (with_reducible refine LeO.ite ?_ ?_)
      | (with_reducible refine LeO.bind ?_ (fun _ => ?_))
      | exact ih0 _ _ _ _
      | exact ih1 _ _ _ _ _
      | exact ih2 _ _ _ _ _
      | exact LeO.none _
      | refine LeO.ite ?_ ?_
      | refine LeO.bind ?_ (fun _ => ?_)
theorem number_Read.mono : ∀ a0 a1 k, LeO (number_Read.f k a0 a1) (number_Read.f (k + 1) a0 a1) := by
  intro a0 a1 k
  obtain ⟨ih0, ih1, ih2⟩ := number_Read.mono_l k
  unfold number_Read.f
  repeat' first
      | (with_reducible exact ih0 _ _ _ _)
      | (with_reducible exact ih1 _ _ _ _ _)
      | (with_reducible exact ih2 _ _ _ _ _)
      | (with_reducible exact LeO.refl _)
      | (with_reducible exact LeO.none _)
      | (with_reducible refine LeO.ite ?_ ?_)
      | (with_reducible refine LeO.bind ?_ (fun _ => ?_))
      | exact ih0 _ _ _ _
      | exact ih1 _ _ _ _ _
      | exact ih2 _ _ _ _ _
      | exact LeO.none _
      | refine LeO.ite ?_ ?_
      | refine LeO.bind ?_ (fun _ => ?_)
set_option maxHeartbeats 8000000 in
set_option maxRecDepth 100000 in
theorem number_Read.calls (k : Nat) (a0 : ByteArray) (a1 : Int) (r1 : ByteArray) (r2 : Int) (r3 : Bool) (w : World) (h : number_Read.f k a0 a1 = some (r1, r2, r3)) :
    Calls Tryd.prog 47 #[.string a0, .int .i64 a1] w fun e w' => e = .returned (.tuple #[.string r1, .int .i64 r2, .bool r3]) ∧ Below w.heap.size w w' := by
  have HB := Aside0.mk (Below.refl w.heap.size w)
  have H : ((sign_Begins.f a0 a1 (⟨#[35]⟩ : ByteArray)).bind fun t108 => (if t108 = true then ((sign_Begins.f a0 (wrap64 (a1 + 1)) (⟨#[120]⟩ : ByteArray)).bind fun t109 => (if t109 = true then (number_Read.j0 k a0 a1 (wrap64 ((wrap64 (a1 + 1)) + 1)) t109) else (number_Read.j0 k a0 a1 (wrap64 (a1 + 1)) t109))) else (some ((⟨#[]⟩ : ByteArray), a1, false)))) = some (r1, r2, r3) := h
  clear h
  replace H := Option.bind_eq_some_iff.mp H
  obtain ⟨t108, A30, H⟩ := H
  replace H : (if t108 = true then ((sign_Begins.f a0 (wrap64 (a1 + 1)) (⟨#[120]⟩ : ByteArray)).bind fun t109 => (if t109 = true then (number_Read.j0 k a0 a1 (wrap64 ((wrap64 (a1 + 1)) + 1)) t109) else (number_Read.j0 k a0 a1 (wrap64 (a1 + 1)) t109))) else (some ((⟨#[]⟩ : ByteArray), a1, false))) = some (r1, r2, r3) := H
  have A3 := Aside0.mk A30
  clear A30
  by_cases c4 : t108 = true
  · subst c4
    have H1 : ((sign_Begins.f a0 (wrap64 (a1 + 1)) (⟨#[120]⟩ : ByteArray)).bind fun t109 => (if t109 = true then (number_Read.j0 k a0 a1 (wrap64 ((wrap64 (a1 + 1)) + 1)) t109) else (number_Read.j0 k a0 a1 (wrap64 (a1 + 1)) t109))) = some (r1, r2, r3) := by rw [if_pos rfl] at H; exact H
    clear H
    have H := H1
    clear H1
    replace H := Option.bind_eq_some_iff.mp H
    obtain ⟨t109, A50, H⟩ := H
    replace H : (if t109 = true then (number_Read.j0 k a0 a1 (wrap64 ((wrap64 (a1 + 1)) + 1)) t109) else (number_Read.j0 k a0 a1 (wrap64 (a1 + 1)) t109)) = some (r1, r2, r3) := H
    have A5 := Aside0.mk A50
    clear A50
    have HC6 := Aside0.mk H
    clear H
    go_enter Tryd.func47, Tryd.ntmps47
    go_upto_if 21 with (first | ((with_reducible refine gate_callee (f := 24) rfl ?_); refine goesL_ (some 13) rfl rfl Tryd.func24 (by kernel_rfl) rfl #[.string a0, .int .i64 a1, .string (⟨#[35]⟩ : ByteArray)] rfl (by (try simp only [List.map_toArray, List.map_cons, List.map_nil]); first | done | rfl | (simp only [List.length_drop, List.length_take]; rfl)) ?_; (with_reducible refine (sign_Begins.calls a0 a1 (⟨#[35]⟩ : ByteArray) true _ A3.out).mono ?_); rintro e w7 ⟨rfl, hb⟩; refine ⟨_, rfl, ?_⟩; have n0_ := Aside0.mk (below_step (by repeat (first | (with_reducible first | exact HB.out | apply below_alloc | apply pw_below_drewN | apply below_drew1) | exact HB.out)) hb); clear HB; have HB := n0_; clear n0_; (try clear hb); (try clear hb2); (try clear hk); (try clear hi)) | ((with_reducible refine gate_callee (f := 24) rfl ?_); refine goesL_ (some 20) rfl rfl Tryd.func24 (by kernel_rfl) rfl #[.string a0, .int .i64 (wrap64 (a1 + 1)), .string (⟨#[120]⟩ : ByteArray)] rfl (by (try simp only [List.map_toArray, List.map_cons, List.map_nil]); first | done | rfl | (simp only [List.length_drop, List.length_take]; rfl)) ?_; (with_reducible refine (sign_Begins.calls a0 (wrap64 (a1 + 1)) (⟨#[120]⟩ : ByteArray) t109 _ A5.out).mono ?_); rintro e w8 ⟨rfl, hb⟩; refine ⟨_, rfl, ?_⟩; have n0_ := Aside0.mk (below_step (by repeat (first | (with_reducible first | exact HB.out | apply below_alloc | apply pw_below_drewN | apply below_drew1) | exact HB.out)) hb); clear HB; have HB := n0_; clear n0_; (try clear hb); (try clear hb2); (try clear hk); (try clear hi)))
    (try simp only [Act.put, List.setIfInBounds_toArray, List.set_cons_zero, List.set_cons_succ])
    go_cut [7] (fun v7 wc => ∃ (kq : Nat) (x7_5 : Int), v7 = .int .i64 x7_5 ∧ Aside0 (number_Read.j0 kq a0 a1 x7_5 t109 = some (r1, r2, r3)) ∧ Aside0 (kq ≤ k) ∧ Aside0 (Below w.heap.size w wc))
    case first =>
      have H := HC6.out
      clear HC6
      by_cases c9 : t109 = true
      · subst c9
        have H1 : (number_Read.j0 k a0 a1 (wrap64 ((wrap64 (a1 + 1)) + 1)) true) = some (r1, r2, r3) := by rw [if_pos rfl] at H; exact H
        clear H
        have H := H1
        clear H1
        have H' := Aside0.mk H
        clear H
        go_wp2
        go_meet
        case rel => exact ⟨_, (wrap64 ((wrap64 (a1 + 1)) + 1)), (by first | rfl | (simp; done) | (simp [*]; done)), H', ⟨by first | omega | exact Nat.le_refl _⟩, ⟨by repeat (first | (with_reducible first | exact HB.out | apply below_alloc | apply pw_below_drewN | apply below_drew1) | exact HB.out)⟩⟩
      · replace c9 := Bool.eq_false_iff.mpr c9
        subst c9
        have H1 : (number_Read.j0 k a0 a1 (wrap64 (a1 + 1)) false) = some (r1, r2, r3) := by rw [if_neg (show ¬ (false = true) by decide)] at H; exact H
        clear H
        have H := H1
        clear H1
        have H' := Aside0.mk H
        clear H
        go_wp2
        go_meet
        case rel => exact ⟨_, (wrap64 (a1 + 1)), (by first | rfl | (simp; done) | (simp [*]; done)), H', ⟨by first | omega | exact Nat.le_refl _⟩, ⟨by repeat (first | (with_reducible first | exact HB.out | apply below_alloc | apply pw_below_drewN | apply below_drew1) | exact HB.out)⟩⟩
    case rest =>
      clear HC6
      try clear c2
      try clear p2
      try clear c4
      try clear p6
      try clear c9
      obtain ⟨kq, x7_5, rfl, HA, HJ5, HB⟩ := hcut
      cases kq with
      | zero => exact absurd HA.out (by simp [number_Read.j0])
      | succ kj5 =>
        have H := HA.out
        clear HA
        simp only [number_Read.j0] at H
        have HC10 := Aside0.mk H
        clear H
        go_upto_block 0 with (fail)
        go_cut [7] (fun v7 wc => ∃ (kq : Nat) (x7_9 : Int), v7 = .int .i64 x7_9 ∧ Aside0 (number_Read.j2 kq a0 a1 x7_9 t109 x7_5 = some (r1, r2, r3)) ∧ Aside0 (kq ≤ kj5) ∧ Aside0 (Below w.heap.size w wc))
        case first =>
          have H := HC10.out
          clear HC10
          have H' := Aside0.mk H
          clear H
          go_wp2
          go_loopg [7] kj5 (fun kq v7 w' => ∃ (x7_2 : Int), v7 = .int .i64 x7_2 ∧ Aside0 (number_Read.l0 kq a0 a1 x7_2 t109 x7_5 = some (r1, r2, r3)) ∧ Aside0 (kq ≤ kj5) ∧ Aside0 (Below w.heap.size w w'))
          case atStart => exact ⟨(x7_5), (by first | rfl | (simp; done) | (simp [*]; done)), H', ⟨Nat.le_refl _⟩, ⟨by repeat (first | (with_reducible first | exact HB.out | apply below_alloc | apply pw_below_drewN | apply below_drew1) | exact HB.out)⟩⟩
          case round =>
            clear H'
            try clear c2
            try clear p2
            try clear c4
            try clear p6
            try clear c9
            try clear p2
            try clear p6
            obtain ⟨x7_2, rfl, HA, HK2, HB⟩ := hrel
            cases gk with
            | zero => exact absurd HA.out (by simp [number_Read.l0])
            | succ k2 =>
              have H := HA.out
              clear HA
              simp only [number_Read.l0] at H
              by_cases c11 : x7_2 < (a0.size : Int)
              · rw [if_pos c11] at H
                have c11b0 : decide (x7_2 < (a0.size : Int)) = true := decide_eq_true c11
                clear c11
                (first | rw [c11b0] | (simp only [i64_w, i32_w]; rw [c11b0]) | skip)
                by_cases c12 : 0 ≤ x7_2
                · rw [if_pos c12] at H
                  have c12b0 : decide (0 ≤ x7_2) = true := decide_eq_true c12
                  clear c12
                  replace H := Option.bind_eq_some_iff.mp H
                  obtain ⟨t110, A140, H⟩ := H
                  replace H : (if t110 = true then (number_Read.l0 k2 a0 a1 (wrap64 (x7_2 + 1)) t109 x7_5) else (if t109 = true then ((sign_Hex.f (bt a0 x7_2)).bind fun t111 => (if t111 ≥ 0 then (number_Read.l0 k2 a0 a1 (wrap64 (x7_2 + 1)) t109 x7_5) else (number_Read.j2 k2 a0 a1 x7_2 t109 x7_5))) else (number_Read.j2 k2 a0 a1 x7_2 t109 x7_5))) = some (r1, r2, r3) := H
                  have A14 := Aside0.mk A140
                  clear A140
                  by_cases c15 : t110 = true
                  · subst c15
                    have H1 : (number_Read.l0 k2 a0 a1 (wrap64 (x7_2 + 1)) t109 x7_5) = some (r1, r2, r3) := by rw [if_pos rfl] at H; exact H
                    clear H
                    have H := H1
                    clear H1
                    have H' := Aside0.mk H
                    clear H
                    have p13 : 0 ≤ (x7_2 : Int) := of_decide_eq_true (by first | (with_reducible assumption) | assumption)
                    have q13 : x7_2 < (a0.size : Int) := of_decide_eq_true (by first | (with_reducible assumption) | assumption)
                    have hx13 := bt_at a0 x7_2
                    replace p13 := eq_true p13
                    replace q13 := eq_true q13
                    go_wp2_with (first | (go_at_call 60; (with_reducible refine (sign_Digit.calls (bt a0 x7_2) true _ A14.out).mono ?_); rintro e w' ⟨rfl, ⟨nd, rfl⟩⟩))
                    go_roundg k2
                    case measure => have := HJ5.out; have := HK2.out; omega
                    case rel => exact ⟨(wrap64 (x7_2 + 1)), (by first | rfl | (simp; done) | (simp [*]; done)), H', ⟨by have := HJ5.out; have := HK2.out; omega⟩, ⟨by repeat (first | (with_reducible first | exact HB.out | apply below_alloc | apply pw_below_drewN | apply below_drew1) | exact HB.out)⟩⟩
                  · replace c15 := Bool.eq_false_iff.mpr c15
                    subst c15
                    have H1 : (if t109 = true then ((sign_Hex.f (bt a0 x7_2)).bind fun t111 => (if t111 ≥ 0 then (number_Read.l0 k2 a0 a1 (wrap64 (x7_2 + 1)) t109 x7_5) else (number_Read.j2 k2 a0 a1 x7_2 t109 x7_5))) else (number_Read.j2 k2 a0 a1 x7_2 t109 x7_5)) = some (r1, r2, r3) := by rw [if_neg (show ¬ (false = true) by decide)] at H; exact H
                    clear H
                    have H := H1
                    clear H1
                    by_cases c16 : t109 = true
                    · subst c16
                      have H1 : ((sign_Hex.f (bt a0 x7_2)).bind fun t111 => (if t111 ≥ 0 then (number_Read.l0 k2 a0 a1 (wrap64 (x7_2 + 1)) true x7_5) else (number_Read.j2 k2 a0 a1 x7_2 true x7_5))) = some (r1, r2, r3) := by rw [if_pos rfl] at H; exact H
                      clear H
                      have H := H1
                      clear H1
                      replace H := Option.bind_eq_some_iff.mp H
                      obtain ⟨t111, A180, H⟩ := H
                      replace H : (if t111 ≥ 0 then (number_Read.l0 k2 a0 a1 (wrap64 (x7_2 + 1)) true x7_5) else (number_Read.j2 k2 a0 a1 x7_2 true x7_5)) = some (r1, r2, r3) := H
                      have A18 := Aside0.mk A180
                      clear A180
                      by_cases c19 : t111 ≥ 0
                      · rw [if_pos c19] at H
                        have c19b0 : decide (0 ≤ t111) = true := decide_eq_true c19
                        clear c19
                        have H' := Aside0.mk H
                        clear H
                        have p13 : 0 ≤ (x7_2 : Int) := of_decide_eq_true (by first | (with_reducible assumption) | assumption)
                        have q13 : x7_2 < (a0.size : Int) := of_decide_eq_true (by first | (with_reducible assumption) | assumption)
                        have hx13 := bt_at a0 x7_2
                        replace p13 := eq_true p13
                        replace q13 := eq_true q13
                        go_wp2_with (first | (go_at_call 60; (with_reducible refine (sign_Digit.calls (bt a0 x7_2) false _ A14.out).mono ?_); rintro e w' ⟨rfl, ⟨nd, rfl⟩⟩; have p17 : 0 ≤ (x7_2 : Int) := of_decide_eq_true (by first | (with_reducible assumption) | assumption); have q17 : x7_2 < (a0.size : Int) := of_decide_eq_true (by first | (with_reducible assumption) | assumption); have hx17 := bt_at a0 x7_2; replace p17 := eq_true p17; replace q17 := eq_true q17) | (go_at_call 61; (with_reducible refine (sign_Hex.calls (bt a0 x7_2) t111 _ A18.out).mono ?_); rintro e w' ⟨rfl, ⟨nd, rfl⟩⟩))
                        go_roundg k2
                        case measure => have := HJ5.out; have := HK2.out; omega
                        case rel => exact ⟨(wrap64 (x7_2 + 1)), (by first | rfl | (simp; done) | (simp [*]; done)), H', ⟨by have := HJ5.out; have := HK2.out; omega⟩, ⟨by repeat (first | (with_reducible first | exact HB.out | apply below_alloc | apply pw_below_drewN | apply below_drew1) | exact HB.out)⟩⟩
                      · rw [if_neg c19] at H
                        have c19b0 : decide (0 ≤ t111) = false := decide_eq_false c19
                        clear c19
                        have H' := Aside0.mk H
                        clear H
                        have p13 : 0 ≤ (x7_2 : Int) := of_decide_eq_true (by first | (with_reducible assumption) | assumption)
                        have q13 : x7_2 < (a0.size : Int) := of_decide_eq_true (by first | (with_reducible assumption) | assumption)
                        have hx13 := bt_at a0 x7_2
                        replace p13 := eq_true p13
                        replace q13 := eq_true q13
                        go_wp2_with (first | (go_at_call 60; (with_reducible refine (sign_Digit.calls (bt a0 x7_2) false _ A14.out).mono ?_); rintro e w' ⟨rfl, ⟨nd, rfl⟩⟩; have p17 : 0 ≤ (x7_2 : Int) := of_decide_eq_true (by first | (with_reducible assumption) | assumption); have q17 : x7_2 < (a0.size : Int) := of_decide_eq_true (by first | (with_reducible assumption) | assumption); have hx17 := bt_at a0 x7_2; replace p17 := eq_true p17; replace q17 := eq_true q17) | (go_at_call 61; (with_reducible refine (sign_Hex.calls (bt a0 x7_2) t111 _ A18.out).mono ?_); rintro e w' ⟨rfl, ⟨nd, rfl⟩⟩))
                        go_meet
                        case rel => exact ⟨_, (x7_2), (by first | rfl | (simp; done) | (simp [*]; done)), H', ⟨by have := HJ5.out; have := HK2.out; first | omega | exact Nat.le_refl _⟩, ⟨by repeat (first | (with_reducible first | exact HB.out | apply below_alloc | apply pw_below_drewN | apply below_drew1) | exact HB.out)⟩⟩
                    · replace c16 := Bool.eq_false_iff.mpr c16
                      subst c16
                      have H1 : (number_Read.j2 k2 a0 a1 x7_2 false x7_5) = some (r1, r2, r3) := by rw [if_neg (show ¬ (false = true) by decide)] at H; exact H
                      clear H
                      have H := H1
                      clear H1
                      have H' := Aside0.mk H
                      clear H
                      have p13 : 0 ≤ (x7_2 : Int) := of_decide_eq_true (by first | (with_reducible assumption) | assumption)
                      have q13 : x7_2 < (a0.size : Int) := of_decide_eq_true (by first | (with_reducible assumption) | assumption)
                      have hx13 := bt_at a0 x7_2
                      replace p13 := eq_true p13
                      replace q13 := eq_true q13
                      go_wp2_with (first | (go_at_call 60; (with_reducible refine (sign_Digit.calls (bt a0 x7_2) false _ A14.out).mono ?_); rintro e w' ⟨rfl, ⟨nd, rfl⟩⟩))
                      go_meet
                      case rel => exact ⟨_, (x7_2), (by first | rfl | (simp; done) | (simp [*]; done)), H', ⟨by have := HJ5.out; have := HK2.out; first | omega | exact Nat.le_refl _⟩, ⟨by repeat (first | (with_reducible first | exact HB.out | apply below_alloc | apply pw_below_drewN | apply below_drew1) | exact HB.out)⟩⟩
                · rw [if_neg c12] at H
                  exact absurd H (by simp)
              · rw [if_neg c11] at H
                have c11b0 : decide (x7_2 < (a0.size : Int)) = false := decide_eq_false c11
                clear c11
                (first | rw [c11b0] | (simp only [i64_w, i32_w]; rw [c11b0]) | skip)
                have H' := Aside0.mk H
                clear H
                go_wp2
                go_meet
                case rel => exact ⟨_, (x7_2), (by first | rfl | (simp; done) | (simp [*]; done)), H', ⟨by have := HJ5.out; have := HK2.out; first | omega | exact Nat.le_refl _⟩, ⟨by repeat (first | (with_reducible first | exact HB.out | apply below_alloc | apply pw_below_drewN | apply below_drew1) | exact HB.out)⟩⟩
        case rest =>
          clear HC10
          try clear c1
          try clear p1
          try clear q1
          try clear hx1
          try clear c2
          try clear p2
          try clear c4
          try clear p6
          try clear c9
          try clear c11
          try clear c11b0
          try clear c12
          try clear c12b0
          try clear p13
          try clear q13
          try clear hx13
          try clear c15
          try clear c16
          try clear p17
          try clear q17
          try clear hx17
          try clear c19
          try clear c19b0
          try clear p13
          try clear p17
          try clear p2
          try clear p6
          try clear q13
          try clear q17
          obtain ⟨kq, x7_9, rfl, HA, HJ9, HB⟩ := hcut
          cases kq with
          | zero => exact absurd HA.out (by simp [number_Read.j2])
          | succ kj9 =>
            have H := HA.out
            clear HA
            simp only [number_Read.j2] at H
            by_cases c20 : 0 ≤ x7_5
            · rw [if_pos c20] at H
              have c20b0 := eq_true c20
              have c20b1 : decide (0 ≤ x7_5) = true := decide_eq_true c20
              clear c20
              by_cases c21 : x7_5 ≤ x7_9
              · rw [if_pos c21] at H
                have c21b0 := eq_true c21
                have c21b1 : decide (x7_5 ≤ x7_9) = true := decide_eq_true c21
                clear c21
                by_cases c22 : x7_9 ≤ (a0.size : Int)
                · rw [if_pos c22] at H
                  have c22b0 := eq_true c22
                  have c22b1 : decide (x7_9 ≤ (a0.size : Int)) = true := decide_eq_true c22
                  clear c22
                  replace H := Option.bind_eq_some_iff.mp H
                  obtain ⟨t112, A230, H⟩ := H
                  replace H : (if t112 < 0 then (some ((⟨#[]⟩ : ByteArray), a1, false)) else ((sign_Begins.f a0 x7_9 (⟨#[59]⟩ : ByteArray)).bind fun t113 => (if t113 = true then ((number_Fix.f t112).bind fun t114 => (some (t114, wrap64 (x7_9 + 1), true))) else ((number_Fix.f t112).bind fun t115 => (some (t115, x7_9, true)))))) = some (r1, r2, r3) := H
                  have A23 := Aside0.mk A230
                  clear A230
                  by_cases c24 : t112 < 0
                  · rw [if_pos c24] at H
                    have c24b0 : decide (t112 < 0) = true := decide_eq_true c24
                    clear c24
                    simp only [Option.some.injEq, Prod.mk.injEq] at H
                    obtain ⟨rfl, rfl, rfl⟩ := H
                    go_wp2_with (first | ((with_reducible refine gate_callee (f := 62) rfl ?_); refine goesL_ (some 52) rfl rfl Tryd.func62 (by kernel_rfl) rfl #[.string (a0.extract (x7_5 : Int).toNat (x7_9 : Int).toNat), .bool t109] rfl (by (try simp only [List.map_toArray, List.map_cons, List.map_nil]); first | done | rfl | (simp only [List.length_drop, List.length_take]; rfl)) ?_; (with_reducible refine (number_Value.calls (a0.extract (x7_5 : Int).toNat (x7_9 : Int).toNat) t109 t112 _ A23.out).mono ?_); rintro e w' ⟨rfl, ⟨nd, rfl⟩⟩; refine ⟨_, rfl, ?_⟩))
                    go_ret3
                    exact ⟨by first | rfl | (simp [errW_none, errW_some] <;> rfl) | (simp [*, errW_none, errW_some] <;> rfl), by repeat (first | (with_reducible first | exact HB.out | apply below_alloc | apply pw_below_drewN | apply below_drew1) | exact HB.out)⟩
                  · rw [if_neg c24] at H
                    have c24b0 : decide (t112 < 0) = false := decide_eq_false c24
                    clear c24
                    replace H := Option.bind_eq_some_iff.mp H
                    obtain ⟨t113, A250, H⟩ := H
                    replace H : (if t113 = true then ((number_Fix.f t112).bind fun t114 => (some (t114, wrap64 (x7_9 + 1), true))) else ((number_Fix.f t112).bind fun t115 => (some (t115, x7_9, true)))) = some (r1, r2, r3) := H
                    have A25 := Aside0.mk A250
                    clear A250
                    by_cases c26 : t113 = true
                    · subst c26
                      have H1 : ((number_Fix.f t112).bind fun t114 => (some (t114, wrap64 (x7_9 + 1), true))) = some (r1, r2, r3) := by rw [if_pos rfl] at H; exact H
                      clear H
                      have H := H1
                      clear H1
                      replace H := Option.bind_eq_some_iff.mp H
                      obtain ⟨t114, A270, H⟩ := H
                      replace H : (some (t114, wrap64 (x7_9 + 1), true)) = some (r1, r2, r3) := H
                      have A27 := Aside0.mk A270
                      clear A270
                      simp only [Option.some.injEq, Prod.mk.injEq] at H
                      obtain ⟨rfl, rfl, rfl⟩ := H
                      go_wp2_with (first | ((with_reducible refine gate_callee (f := 62) rfl ?_); refine goesL_ (some 52) rfl rfl Tryd.func62 (by kernel_rfl) rfl #[.string (a0.extract (x7_5 : Int).toNat (x7_9 : Int).toNat), .bool t109] rfl (by (try simp only [List.map_toArray, List.map_cons, List.map_nil]); first | done | rfl | (simp only [List.length_drop, List.length_take]; rfl)) ?_; (with_reducible refine (number_Value.calls (a0.extract (x7_5 : Int).toNat (x7_9 : Int).toNat) t109 t112 _ A23.out).mono ?_); rintro e w' ⟨rfl, ⟨nd, rfl⟩⟩; refine ⟨_, rfl, ?_⟩) | ((with_reducible refine gate_callee (f := 24) rfl ?_); refine goesL_ (some 58) rfl rfl Tryd.func24 (by kernel_rfl) rfl #[.string a0, .int .i64 x7_9, .string (⟨#[59]⟩ : ByteArray)] rfl (by (try simp only [List.map_toArray, List.map_cons, List.map_nil]); first | done | rfl | (simp only [List.length_drop, List.length_take]; rfl)) ?_; (with_reducible refine (sign_Begins.calls a0 x7_9 (⟨#[59]⟩ : ByteArray) true _ A25.out).mono ?_); rintro e w28 ⟨rfl, hb⟩; refine ⟨_, rfl, ?_⟩; have n0_ := Aside0.mk (below_step (by repeat (first | (with_reducible first | exact HB.out | apply below_alloc | apply pw_below_drewN | apply below_drew1) | exact HB.out)) hb); clear HB; have HB := n0_; clear n0_; (try clear hb); (try clear hb2); (try clear hk); (try clear hi)) | ((with_reducible refine gate_callee (f := 16) rfl ?_); refine goesL_ (some 62) rfl rfl Tryd.func16 (by kernel_rfl) rfl #[.int .i64 t112] rfl (by (try simp only [List.map_toArray, List.map_cons, List.map_nil]); first | done | rfl | (simp only [List.length_drop, List.length_take]; rfl)) ?_; (with_reducible refine (number_Fix.calls t112 t114 _ A27.out).mono ?_); rintro e w29 ⟨rfl, hb⟩; refine ⟨_, rfl, ?_⟩; have n0_ := Aside0.mk (below_step (by repeat (first | (with_reducible first | exact HB.out | apply below_alloc | apply pw_below_drewN | apply below_drew1) | exact HB.out)) hb); clear HB; have HB := n0_; clear n0_; (try clear hb); (try clear hb2); (try clear hk); (try clear hi)))
                      go_ret3
                      exact ⟨by first | rfl | (simp [errW_none, errW_some] <;> rfl) | (simp [*, errW_none, errW_some] <;> rfl), by repeat (first | (with_reducible first | exact HB.out | apply below_alloc | apply pw_below_drewN | apply below_drew1) | exact HB.out)⟩
                    · replace c26 := Bool.eq_false_iff.mpr c26
                      subst c26
                      have H1 : ((number_Fix.f t112).bind fun t115 => (some (t115, x7_9, true))) = some (r1, r2, r3) := by rw [if_neg (show ¬ (false = true) by decide)] at H; exact H
                      clear H
                      have H := H1
                      clear H1
                      replace H := Option.bind_eq_some_iff.mp H
                      obtain ⟨t115, A300, H⟩ := H
                      replace H : (some (t115, x7_9, true)) = some (r1, r2, r3) := H
                      have A30 := Aside0.mk A300
                      clear A300
                      simp only [Option.some.injEq, Prod.mk.injEq] at H
                      obtain ⟨rfl, rfl, rfl⟩ := H
                      go_wp2_with (first | ((with_reducible refine gate_callee (f := 62) rfl ?_); refine goesL_ (some 52) rfl rfl Tryd.func62 (by kernel_rfl) rfl #[.string (a0.extract (x7_5 : Int).toNat (x7_9 : Int).toNat), .bool t109] rfl (by (try simp only [List.map_toArray, List.map_cons, List.map_nil]); first | done | rfl | (simp only [List.length_drop, List.length_take]; rfl)) ?_; (with_reducible refine (number_Value.calls (a0.extract (x7_5 : Int).toNat (x7_9 : Int).toNat) t109 t112 _ A23.out).mono ?_); rintro e w' ⟨rfl, ⟨nd, rfl⟩⟩; refine ⟨_, rfl, ?_⟩) | ((with_reducible refine gate_callee (f := 24) rfl ?_); refine goesL_ (some 58) rfl rfl Tryd.func24 (by kernel_rfl) rfl #[.string a0, .int .i64 x7_9, .string (⟨#[59]⟩ : ByteArray)] rfl (by (try simp only [List.map_toArray, List.map_cons, List.map_nil]); first | done | rfl | (simp only [List.length_drop, List.length_take]; rfl)) ?_; (with_reducible refine (sign_Begins.calls a0 x7_9 (⟨#[59]⟩ : ByteArray) false _ A25.out).mono ?_); rintro e w31 ⟨rfl, hb⟩; refine ⟨_, rfl, ?_⟩; have n0_ := Aside0.mk (below_step (by repeat (first | (with_reducible first | exact HB.out | apply below_alloc | apply pw_below_drewN | apply below_drew1) | exact HB.out)) hb); clear HB; have HB := n0_; clear n0_; (try clear hb); (try clear hb2); (try clear hk); (try clear hi)) | ((with_reducible refine gate_callee (f := 16) rfl ?_); refine goesL_ (some 62) rfl rfl Tryd.func16 (by kernel_rfl) rfl #[.int .i64 t112] rfl (by (try simp only [List.map_toArray, List.map_cons, List.map_nil]); first | done | rfl | (simp only [List.length_drop, List.length_take]; rfl)) ?_; (with_reducible refine (number_Fix.calls t112 t115 _ A30.out).mono ?_); rintro e w32 ⟨rfl, hb⟩; refine ⟨_, rfl, ?_⟩; have n0_ := Aside0.mk (below_step (by repeat (first | (with_reducible first | exact HB.out | apply below_alloc | apply pw_below_drewN | apply below_drew1) | exact HB.out)) hb); clear HB; have HB := n0_; clear n0_; (try clear hb); (try clear hb2); (try clear hk); (try clear hi)))
                      go_ret3
                      exact ⟨by first | rfl | (simp [errW_none, errW_some] <;> rfl) | (simp [*, errW_none, errW_some] <;> rfl), by repeat (first | (with_reducible first | exact HB.out | apply below_alloc | apply pw_below_drewN | apply below_drew1) | exact HB.out)⟩
                · rw [if_neg c22] at H
                  exact absurd H (by simp)
              · rw [if_neg c21] at H
                exact absurd H (by simp)
            · rw [if_neg c20] at H
              exact absurd H (by simp)
  · replace c4 := Bool.eq_false_iff.mpr c4
    subst c4
    have H1 : (some ((⟨#[]⟩ : ByteArray), a1, false)) = some (r1, r2, r3) := by rw [if_neg (show ¬ (false = true) by decide)] at H; exact H
    clear H
    have H := H1
    clear H1
    simp only [Option.some.injEq, Prod.mk.injEq] at H
    obtain ⟨rfl, rfl, rfl⟩ := H
    go_enter Tryd.func47, Tryd.ntmps47
    go_wp2_with (first | ((with_reducible refine gate_callee (f := 24) rfl ?_); refine goesL_ (some 13) rfl rfl Tryd.func24 (by kernel_rfl) rfl #[.string a0, .int .i64 a1, .string (⟨#[35]⟩ : ByteArray)] rfl (by (try simp only [List.map_toArray, List.map_cons, List.map_nil]); first | done | rfl | (simp only [List.length_drop, List.length_take]; rfl)) ?_; (with_reducible refine (sign_Begins.calls a0 a1 (⟨#[35]⟩ : ByteArray) false _ A3.out).mono ?_); rintro e w33 ⟨rfl, hb⟩; refine ⟨_, rfl, ?_⟩; have n0_ := Aside0.mk (below_step (by repeat (first | (with_reducible first | exact HB.out | apply below_alloc | apply pw_below_drewN | apply below_drew1) | exact HB.out)) hb); clear HB; have HB := n0_; clear n0_; (try clear hb); (try clear hb2); (try clear hk); (try clear hi)))
    go_ret3
    exact ⟨by first | rfl | (simp [errW_none, errW_some] <;> rfl) | (simp [*, errW_none, errW_some] <;> rfl), by repeat (first | (with_reducible first | exact HB.out | apply below_alloc | apply pw_below_drewN | apply below_drew1) | exact HB.out)⟩

end Go.Proofs.YtfhjfidkcdcjnaaDoor.Q

namespace Go.Proofs.YtfhjfidkcdcjnaaDoor.Q
open Go.RowKit Go.Proofs.YtfhjfidkcdcjnaaDoorW.PrintWords Go.Proofs.YtfhjfidkcdcjnaaDoorW.PrintLast Go.Proofs.YtfhjfidkcdcjnaaDoorW.PrintMore
attribute [local go_sem] max2_int min2_int max_two min_two max_three min_three max_four min_four   -- for this text's walks alone
set_option linter.unusedVariables false
set_option linter.unusedSimpArgs false

/-! ### sign_Letter: function 53 -/
noncomputable def sign_Letter.f (a0 : Int) : Option (Bool) := (sign_within.f (Go.bits .or .u8 a0 32) 97 122).bind fun t116 => (some t116)
set_option maxHeartbeats 8000000 in
set_option maxRecDepth 100000 in
theorem sign_Letter.calls (a0 : Int) (r : Bool) (w : World) (h : sign_Letter.f a0 = some r) :
    Calls Tryd.prog 53 #[.int .u8 a0] w fun e w' => e = .returned (.bool r) ∧ Drawn0 w w' := by
  have H : ((sign_within.f (Go.bits .or .u8 a0 32) 97 122).bind fun t116 => (some t116)) = some r := h
  clear h
  replace H := Option.bind_eq_some_iff.mp H
  obtain ⟨t116, A20, H⟩ := H
  replace H : (some t116) = some r := H
  have A2 := Aside0.mk A20
  clear A20
  obtain rfl := Option.some.inj H
  go_enter Tryd.func53, Tryd.ntmps53
  go_wp2_with (first | ((with_reducible refine gate_callee (f := 35) rfl ?_); refine goesL_ (some 5) rfl rfl Tryd.func35 (by kernel_rfl) rfl #[.int .u8 (Go.bits .or .u8 a0 32), .int .u8 97, .int .u8 122] rfl (by (try simp only [List.map_toArray, List.map_cons, List.map_nil]); first | done | rfl | (simp only [List.length_drop, List.length_take]; rfl)) ?_; (with_reducible refine (sign_within.calls (Go.bits .or .u8 a0 32) 97 122 t116 _ A2.out).mono ?_); rintro e w' ⟨rfl, ⟨nd, rfl⟩⟩; refine ⟨_, rfl, ?_⟩))
  go_ret
  exact ⟨by first | rfl | (simp; done) | (simp [*]; done), by repeat (first | exact Drawn0.refl _ | apply Drawn0.step)⟩

end Go.Proofs.YtfhjfidkcdcjnaaDoor.Q

namespace Go.Proofs.YtfhjfidkcdcjnaaDoor.Q
open Go.RowKit Go.Proofs.YtfhjfidkcdcjnaaDoorW.PrintWords Go.Proofs.YtfhjfidkcdcjnaaDoorW.PrintLast Go.Proofs.YtfhjfidkcdcjnaaDoorW.PrintMore
attribute [local go_sem] max2_int min2_int max_two min_two max_three min_three max_four min_four   -- for this text's walks alone
set_option linter.unusedVariables false
set_option linter.unusedSimpArgs false

/-! ### sign_Word: function 68 -/
noncomputable def sign_Word.f (a0 : Int) : Option (Bool) := (sign_Letter.f a0).bind fun t117 => (if t117 = true then (some true) else ((sign_Digit.f a0).bind fun t118 => (some t118)))
set_option maxHeartbeats 8000000 in
set_option maxRecDepth 100000 in
theorem sign_Word.calls (a0 : Int) (r : Bool) (w : World) (h : sign_Word.f a0 = some r) :
    Calls Tryd.prog 68 #[.int .u8 a0] w fun e w' => e = .returned (.bool r) ∧ Drawn0 w w' := by
  have H : ((sign_Letter.f a0).bind fun t117 => (if t117 = true then (some true) else ((sign_Digit.f a0).bind fun t118 => (some t118)))) = some r := h
  clear h
  replace H := Option.bind_eq_some_iff.mp H
  obtain ⟨t117, A20, H⟩ := H
  replace H : (if t117 = true then (some true) else ((sign_Digit.f a0).bind fun t118 => (some t118))) = some r := H
  have A2 := Aside0.mk A20
  clear A20
  by_cases c3 : t117 = true
  · subst c3
    have H1 : (some true) = some r := by rw [if_pos rfl] at H; exact H
    clear H
    have H := H1
    clear H1
    obtain rfl := Option.some.inj H
    go_enter Tryd.func68, Tryd.ntmps68
    go_wp2_with (first | ((with_reducible refine gate_callee (f := 53) rfl ?_); refine goesL_ (some 4) rfl rfl Tryd.func53 (by kernel_rfl) rfl #[.int .u8 a0] rfl (by (try simp only [List.map_toArray, List.map_cons, List.map_nil]); first | done | rfl | (simp only [List.length_drop, List.length_take]; rfl)) ?_; (with_reducible refine (sign_Letter.calls a0 true _ A2.out).mono ?_); rintro e w' ⟨rfl, ⟨nd, rfl⟩⟩; refine ⟨_, rfl, ?_⟩))
    go_ret
    exact ⟨by first | rfl | (simp; done) | (simp [*]; done), by repeat (first | exact Drawn0.refl _ | apply Drawn0.step)⟩
  · replace c3 := Bool.eq_false_iff.mpr c3
    subst c3
    have H1 : ((sign_Digit.f a0).bind fun t118 => (some t118)) = some r := by rw [if_neg (show ¬ (false = true) by decide)] at H; exact H
    clear H
    have H := H1
    clear H1
    replace H := Option.bind_eq_some_iff.mp H
    obtain ⟨t118, A40, H⟩ := H
    replace H : (some t118) = some r := H
    have A4 := Aside0.mk A40
    clear A40
    obtain rfl := Option.some.inj H
    go_enter Tryd.func68, Tryd.ntmps68
    go_wp2_with (first | ((with_reducible refine gate_callee (f := 53) rfl ?_); refine goesL_ (some 4) rfl rfl Tryd.func53 (by kernel_rfl) rfl #[.int .u8 a0] rfl (by (try simp only [List.map_toArray, List.map_cons, List.map_nil]); first | done | rfl | (simp only [List.length_drop, List.length_take]; rfl)) ?_; (with_reducible refine (sign_Letter.calls a0 false _ A2.out).mono ?_); rintro e w' ⟨rfl, ⟨nd, rfl⟩⟩; refine ⟨_, rfl, ?_⟩) | (go_at_call 60; (with_reducible refine (sign_Digit.calls a0 t118 _ A4.out).mono ?_); rintro e w' ⟨rfl, ⟨nd, rfl⟩⟩))
    go_ret
    exact ⟨by first | rfl | (simp; done) | (simp [*]; done), by repeat (first | exact Drawn0.refl _ | apply Drawn0.step)⟩

end Go.Proofs.YtfhjfidkcdcjnaaDoor.Q

namespace Go.Proofs.YtfhjfidkcdcjnaaDoor.Q
open Go.RowKit Go.Proofs.YtfhjfidkcdcjnaaDoorW.PrintWords Go.Proofs.YtfhjfidkcdcjnaaDoorW.PrintLast Go.Proofs.YtfhjfidkcdcjnaaDoorW.PrintMore
attribute [local go_sem] max2_int min2_int max_two min_two max_three min_three max_four min_four   -- for this text's walks alone
set_option linter.unusedVariables false
set_option linter.unusedSimpArgs false

/-! ### ref_kept: function 51 -/
noncomputable def ref_kept.f (a0 : ByteArray) (a1 : Int) : Option (Bool) := if a1 < (a0.size : Int) then (if 0 ≤ a1 then (if (bt a0 a1) = 61 then (some true) else ((sign_Word.f (bt a0 a1)).bind fun t119 => (some t119))) else (none)) else (some false)
set_option maxHeartbeats 8000000 in
set_option maxRecDepth 100000 in
theorem ref_kept.calls (a0 : ByteArray) (a1 : Int) (r : Bool) (w : World) (h : ref_kept.f a0 a1 = some r) :
    Calls Tryd.prog 51 #[.string a0, .int .i64 a1] w fun e w' => e = .returned (.bool r) ∧ Drawn0 w w' := by
  have H : (if a1 < (a0.size : Int) then (if 0 ≤ a1 then (if (bt a0 a1) = 61 then (some true) else ((sign_Word.f (bt a0 a1)).bind fun t119 => (some t119))) else (none)) else (some false)) = some r := h
  clear h
  by_cases c3 : a1 < (a0.size : Int)
  · rw [if_pos c3] at H
    have c3b0 : decide (a1 < (a0.size : Int)) = true := decide_eq_true c3
    clear c3
    by_cases c4 : 0 ≤ a1
    · rw [if_pos c4] at H
      have c4b0 : decide (0 ≤ a1) = true := decide_eq_true c4
      clear c4
      by_cases c6 : (bt a0 a1) = 61
      · rw [if_pos c6] at H
        have c6b0 : ((bt a0 a1) == 61) = true := beq_iff_eq.mpr c6
        have c6b1 : ((bt a0 a1) != 61) = false := bne_eq_false_iff_eq.mpr c6
        clear c6
        obtain rfl := Option.some.inj H
        have p5 : 0 ≤ (a1 : Int) := of_decide_eq_true (by first | (with_reducible assumption) | assumption)
        have q5 : a1 < (a0.size : Int) := of_decide_eq_true (by first | (with_reducible assumption) | assumption)
        have hx5 := bt_at a0 a1
        replace p5 := eq_true p5
        replace q5 := eq_true q5
        go_enter Tryd.func51, Tryd.ntmps51
        go_wp2
        go_ret
        exact ⟨by first | rfl | (simp; done) | (simp [*]; done), by repeat (first | exact Drawn0.refl _ | apply Drawn0.step)⟩
      · rw [if_neg c6] at H
        have c6b0 : ((bt a0 a1) == 61) = false := beq_eq_false_iff_ne.mpr c6
        have c6b1 : ((bt a0 a1) != 61) = true := bne_iff_ne.mpr c6
        replace H := Option.bind_eq_some_iff.mp H
        obtain ⟨t119, A80, H⟩ := H
        replace H : (some t119) = some r := H
        have A8 := Aside0.mk A80
        clear A80
        obtain rfl := Option.some.inj H
        have p5 : 0 ≤ (a1 : Int) := of_decide_eq_true (by first | (with_reducible assumption) | assumption)
        have q5 : a1 < (a0.size : Int) := of_decide_eq_true (by first | (with_reducible assumption) | assumption)
        have hx5 := bt_at a0 a1
        replace p5 := eq_true p5
        replace q5 := eq_true q5
        have p7 : 0 ≤ (a1 : Int) := of_decide_eq_true (by first | (with_reducible assumption) | assumption)
        have q7 : a1 < (a0.size : Int) := of_decide_eq_true (by first | (with_reducible assumption) | assumption)
        have hx7 := bt_at a0 a1
        replace p7 := eq_true p7
        replace q7 := eq_true q7
        go_enter Tryd.func51, Tryd.ntmps51
        go_wp2_with (first | (go_at_call 68; (with_reducible refine (sign_Word.calls (bt a0 a1) t119 _ A8.out).mono ?_); rintro e w' ⟨rfl, ⟨nd, rfl⟩⟩))
        go_ret
        exact ⟨by first | rfl | (simp; done) | (simp [*]; done), by repeat (first | exact Drawn0.refl _ | apply Drawn0.step)⟩
    · rw [if_neg c4] at H
      exact absurd H (by simp)
  · rw [if_neg c3] at H
    have c3b0 : decide (a1 < (a0.size : Int)) = false := decide_eq_false c3
    clear c3
    obtain rfl := Option.some.inj H
    go_enter Tryd.func51, Tryd.ntmps51
    go_wp2
    go_ret
    exact ⟨by first | rfl | (simp; done) | (simp [*]; done), by repeat (first | exact Drawn0.refl _ | apply Drawn0.step)⟩

end Go.Proofs.YtfhjfidkcdcjnaaDoor.Q

namespace Go.Proofs.YtfhjfidkcdcjnaaDoor.Q
open Go.RowKit Go.Proofs.YtfhjfidkcdcjnaaDoorW.PrintWords Go.Proofs.YtfhjfidkcdcjnaaDoorW.PrintLast Go.Proofs.YtfhjfidkcdcjnaaDoorW.PrintMore
attribute [local go_sem] max2_int min2_int max_two min_two max_three min_three max_four min_four   -- for this text's walks alone
set_option linter.unusedVariables false
set_option linter.unusedSimpArgs false

/-! ### sign_Space: function 34 -/
noncomputable def sign_Space.f (a0 : Int) : Option (Bool) := if a0 = 32 then (some true) else (if a0 = 9 then (some true) else (if a0 = 10 then (some true) else (some (a0 == 12))))
set_option maxHeartbeats 8000000 in
set_option maxRecDepth 100000 in
theorem sign_Space.calls (a0 : Int) (r : Bool) (w : World) (h : sign_Space.f a0 = some r) :
    Calls Tryd.prog 34 #[.int .u8 a0] w fun e w' => e = .returned (.bool r) ∧ Drawn0 w w' := by
  have H : (if a0 = 32 then (some true) else (if a0 = 9 then (some true) else (if a0 = 10 then (some true) else (some (a0 == 12))))) = some r := h
  clear h
  by_cases c2 : a0 = 32
  · rw [if_pos c2] at H
    have c2b0 : (a0 == 32) = true := beq_iff_eq.mpr c2
    have c2b1 : (a0 != 32) = false := bne_eq_false_iff_eq.mpr c2
    clear c2
    obtain rfl := Option.some.inj H
    go_enter Tryd.func34, Tryd.ntmps34
    go_wp2
    go_ret
    exact ⟨by first | rfl | (simp; done) | (simp [*]; done), by repeat (first | exact Drawn0.refl _ | apply Drawn0.step)⟩
  · rw [if_neg c2] at H
    have c2b0 : (a0 == 32) = false := beq_eq_false_iff_ne.mpr c2
    have c2b1 : (a0 != 32) = true := bne_iff_ne.mpr c2
    by_cases c3 : a0 = 9
    · rw [if_pos c3] at H
      have c3b0 : (a0 == 9) = true := beq_iff_eq.mpr c3
      have c3b1 : (a0 != 9) = false := bne_eq_false_iff_eq.mpr c3
      clear c3
      obtain rfl := Option.some.inj H
      go_enter Tryd.func34, Tryd.ntmps34
      go_wp2
      go_ret
      exact ⟨by first | rfl | (simp; done) | (simp [*]; done), by repeat (first | exact Drawn0.refl _ | apply Drawn0.step)⟩
    · rw [if_neg c3] at H
      have c3b0 : (a0 == 9) = false := beq_eq_false_iff_ne.mpr c3
      have c3b1 : (a0 != 9) = true := bne_iff_ne.mpr c3
      by_cases c4 : a0 = 10
      · rw [if_pos c4] at H
        have c4b0 : (a0 == 10) = true := beq_iff_eq.mpr c4
        have c4b1 : (a0 != 10) = false := bne_eq_false_iff_eq.mpr c4
        clear c4
        obtain rfl := Option.some.inj H
        go_enter Tryd.func34, Tryd.ntmps34
        go_wp2
        go_ret
        exact ⟨by first | rfl | (simp; done) | (simp [*]; done), by repeat (first | exact Drawn0.refl _ | apply Drawn0.step)⟩
      · rw [if_neg c4] at H
        have c4b0 : (a0 == 10) = false := beq_eq_false_iff_ne.mpr c4
        have c4b1 : (a0 != 10) = true := bne_iff_ne.mpr c4
        obtain rfl := Option.some.inj H
        go_enter Tryd.func34, Tryd.ntmps34
        go_wp2
        go_ret
        exact ⟨by first | rfl | (simp; done) | (simp [*]; done), by repeat (first | exact Drawn0.refl _ | apply Drawn0.step)⟩

end Go.Proofs.YtfhjfidkcdcjnaaDoor.Q

/- References on lists of bytes, and that the printed functions come to them. No program is walked here. -/
namespace Go.Proofs.YtfhjfidkcdcjnaaDoor.Fl
open Go Go.RowKit Go.Proofs.YtfhjfidkcdcjnaaDoorW.PrintWords
set_option linter.unusedVariables false
set_option linter.unusedSimpArgs false

def dig (c : UInt8) : Bool := 48 ≤ c.toNat && c.toNat ≤ 57
def letter (c : UInt8) : Bool := (65 ≤ c.toNat && c.toNat ≤ 90) || (97 ≤ c.toNat && c.toNat ≤ 122)
def space (c : UInt8) : Bool := c.toNat == 32 || c.toNat == 9 || c.toNat == 10 || c.toNat == 12
def word (c : UInt8) : Bool := letter c || dig c
theorem digit_f (c : UInt8) : Q.sign_Digit.f (c.toNat : Int) = some (dig c) := by
  have := byteAll (fun c => decide (Q.sign_Digit.f (c.toNat : Int) = some (dig c))) (by decide +kernel) c
  simpa using this
theorem letter_f (c : UInt8) : Q.sign_Letter.f (c.toNat : Int) = some (letter c) := by
  have := byteAll (fun c => decide (Q.sign_Letter.f (c.toNat : Int) = some (letter c))) (by decide +kernel) c
  simpa using this
theorem word_f (c : UInt8) : Q.sign_Word.f (c.toNat : Int) = some (word c) := by
  unfold Q.sign_Word.f
  rw [letter_f, digit_f]
  simp only [Option.bind_some, word]
  cases letter c <;> rfl
theorem space_f (c : UInt8) : Q.sign_Space.f (c.toNat : Int) = some (space c) := by
  have := byteAll (fun c => decide (Q.sign_Space.f (c.toNat : Int) = some (space c))) (by decide +kernel) c
  simpa using this

/-! What stands from a place on. -/
theorem wrap_nat (n : Nat) (h : n < 4294967296) : wrap64 (n : Int) = (n : Int) := by unfold wrap64; omega
theorem wrap_in (n : Int) (h0 : -4294967296 ≤ n) (h : n < 4294967296) : wrap64 n = n := by unfold wrap64; omega
theorem drop_cons {s : ByteArray} {i : Nat} {c : UInt8} {l : Bs} (h : (toL s).drop i = c :: l) : i < s.size ∧ bt s (i : Int) = (c.toNat : Int) ∧ (toL s).drop (i + 1) = l := by
  have hl : i < (toL s).length := by
    rcases Nat.lt_or_ge i (toL s).length with h' | h'
    · exact h'
    · rw [List.drop_of_length_le h'] at h; cases h
  have hs : i < s.size := by simpa using hl
  rw [List.drop_eq_getElem_cons hl] at h
  injection h with h1 h2
  refine ⟨hs, ?_, h2⟩
  rw [← bt_at s (i : Int) (by simpa using hs)]
  have : (toL s)[i]'hl = s[i]'hs := rfl
  rw [← h1, this]
  rfl
theorem drop_nil {s : ByteArray} {i : Nat} (h : (toL s).drop i = []) : s.size ≤ i := by
  have := List.drop_eq_nil_iff.1 h; simpa using this
theorem drop_length {s : ByteArray} {i : Nat} {l : Bs} (h : (toL s).drop i = l) : l.length = s.size - i := by rw [← h, List.length_drop, toL_length]

theorem begins_f (s low : ByteArray) (i : Nat) (hs : s.size < 2147483648) (hl : low.size < 2147483648) (hi : i ≤ s.size) :
    Q.sign_Begins.f s (i : Int) low = some (lower (((toL s).drop i).take low.size) == toL low) := by
  unfold Q.sign_Begins.f
  rw [if_neg (by omega), if_neg (by omega)]
  rw [wrap_in ((s.size : Int) - (i : Int)) (by omega) (by omega)]
  by_cases h : (s.size : Int) - (i : Int) < (low.size : Int)
  · rw [if_pos h]
    congr 1
    symm
    rw [beq_eq_false_iff_ne]
    intro e
    have := congrArg List.length e
    simp only [lower, List.length_map, List.length_take, List.length_drop, toL_length] at this
    omega
  · rw [if_neg h, if_pos (by omega)]
    rw [wrap_in ((i : Int) + (low.size : Int)) (by omega) (by omega), if_pos (by omega), if_pos (by omega)]
    have e1 : ((i : Int) + (low.size : Int)).toNat = i + low.size := by omega
    rw [e1, Int.toNat_natCast]
    unfold Q.sign_Lower.f
    rw [if_pos (by rw [size_extract _ _ _ (by omega)]; omega)]
    simp only [Option.bind_some]
    rw [extract_toL, Nat.add_sub_cancel_left, toList_toL, toList_toL, toL_ofL]

/-! References by a number. -/
def pdig (six : Bool) (c : UInt8) : Bool := dig c || (six && decide (0 ≤ hexv c))
def semi (l : Bs) : Nat := match l with
  | c :: _ => if c = 59 then 1 else 0
  | [] => 0
/-- Behind '#', and an 'x' if there is one: the text, how many bytes. -/
def numTail (six : Bool) (l : Bs) : Option (Bs × Nat) :=
  if value (l.takeWhile (pdig six)) six < 0 then none
  else some (toL (Q.fixB (value (l.takeWhile (pdig six)) six)), (l.takeWhile (pdig six)).length + semi (l.drop (l.takeWhile (pdig six)).length))
def isX (c : UInt8) : Bool := c == 120 || c == 88
def numRead (l : Bs) : Option (Bs × Nat) := match l with
  | [] => none
  | c :: l => if c = 35 then match l with
      | [] => numTail false []
      | x :: l' => if isX x then (numTail true l').map fun r => (r.1, r.2 + 2) else (numTail false (x :: l')).map fun r => (r.1, r.2 + 1)
    else none
theorem numTail_nil : numTail false [] = none := by simp [numTail, value]

theorem value_range (l : Bs) (six : Bool) : -1 ≤ value l six ∧ value l six ≤ 1114112 := by
  unfold value
  split
  · omega
  · split
    · omega
    · rename_i n h
      have := Q.valTo_le _ _ _ _ (by omega) h
      omega
theorem beq_one (c d : UInt8) : (lower [c] == [d]) = (lw c == d) := by
  show ([lw c] == [d]) = _
  simp
theorem take_one (l : Bs) : l.take 1 = match l with | [] => [] | c :: _ => [c] := by cases l <;> rfl

theorem j2_f (s : ByteArray) (at_ : Int) (from_ m k : Nat) (six : Bool) (l : Bs) (hs : s.size < 2147483648) (hd : (toL s).drop from_ = l) (hf : from_ ≤ s.size) (hm : m = (l.takeWhile (pdig six)).length) :
    Q.number_Read.j2 (k + 1) s at_ ((from_ + m : Nat) : Int) six (from_ : Int) = some (match numTail six l with | none => (⟨#[]⟩, at_, false) | some (t, n) => (ofL t, ((from_ + n : Nat) : Int), true)) := by
  have hll := drop_length hd
  have hml : m ≤ l.length := by rw [hm]; exact (List.takeWhile_prefix _).length_le
  have hr := value_range (l.takeWhile (pdig six)) six
  simp only [Q.number_Read.j2]
  rw [if_pos (by omega), if_pos (by omega), if_pos (by omega), Int.toNat_natCast, Int.toNat_natCast]
  unfold Q.number_Value.f
  rw [if_pos (by rw [size_extract _ _ _ (by omega)]; omega)]
  have e1 : toL (s.extract from_ (from_ + m)) = l.takeWhile (pdig six) := by
    rw [extract_toL, hd, Nat.add_sub_cancel_left, hm]
    exact (List.prefix_iff_eq_take.1 (List.takeWhile_prefix _)).symm
  simp only [Option.bind_some, e1]
  unfold numTail
  by_cases hv : value (l.takeWhile (pdig six)) six < 0
  · rw [if_pos hv, if_pos hv]
  · rw [if_neg hv, if_neg hv]
    rw [begins_f s _ (from_ + m) hs (by decide) (by omega)]
    simp only [Option.bind_some]
    have hfx : Q.number_Fix.f (value (l.takeWhile (pdig six)) six) = some (Q.fixB (value (l.takeWhile (pdig six)) six)) := by
      unfold Q.number_Fix.f; rw [if_pos ⟨by omega, by omega⟩]
    rw [hfx]
    simp only [Option.bind_some]
    have e2 : (toL s).drop (from_ + m) = l.drop m := by rw [← List.drop_drop, hd]
    rw [e2]
    have e3 : (⟨#[59]⟩ : ByteArray).size = 1 := rfl
    rw [e3, take_one, ← hm]
    rw [show toL (⟨#[59]⟩ : ByteArray) = [59] from rfl]
    rcases hdm : l.drop m with _ | ⟨c, l'⟩
    · have : (lower [] == [59]) = false := by decide
      simp only [this, semi]
      rw [if_neg (by simp)]
      simp
    · simp only [beq_one, semi]
      by_cases hc : c = 59
      · subst hc
        have : (lw 59 == 59) = true := by decide
        rw [if_pos this, if_pos rfl]
        have : wrap64 (((from_ + m : Nat) : Int) + 1) = ((from_ + (m + 1) : Nat) : Int) := by unfold wrap64; omega
        rw [this]; rfl
      · have : (lw c == 59) = false := by
          have := byteAll (fun c => c == 59 || !(lw c == 59)) (by decide +kernel) c
          simpa [hc] using this
        rw [if_neg (by simp [this]), if_neg hc]; rfl

theorem l0_f (s : ByteArray) (at_ : Int) (from_ : Nat) (six : Bool) (hs : s.size < 2147483648) : ∀ (l : Bs) (i k : Nat), (toL s).drop i = l → i ≤ s.size → l.length + 1 < k →
    ∃ k', Q.number_Read.l0 k s at_ (i : Int) six (from_ : Int) = Q.number_Read.j2 (k' + 1) s at_ ((i + (l.takeWhile (pdig six)).length : Nat) : Int) six (from_ : Int) := by
  intro l
  induction l with
  | nil =>
    intro i k hd hi hk
    obtain ⟨k, rfl⟩ : ∃ m, k = m + 2 := ⟨k - 2, by omega⟩
    have := drop_nil hd
    rw [show Q.number_Read.l0 (k + 2) s at_ (i : Int) six (from_ : Int) = Q.number_Read.j2 (k + 1) s at_ (i : Int) six (from_ : Int) from by
      conv => lhs; unfold Q.number_Read.l0
      rw [if_neg (by omega)]]
    exact ⟨k, rfl⟩
  | cons c l ih =>
    intro i k hd hi hk
    obtain ⟨k, rfl⟩ : ∃ m, k = m + 2 := ⟨k - 2, by omega⟩
    obtain ⟨h1, h2, h3⟩ := drop_cons hd
    have hstep : Q.number_Read.l0 (k + 2) s at_ (i : Int) six (from_ : Int) = if pdig six c = true then Q.number_Read.l0 (k + 1) s at_ ((i + 1 : Nat) : Int) six (from_ : Int) else Q.number_Read.j2 (k + 1) s at_ (i : Int) six (from_ : Int) := by
      conv => lhs; unfold Q.number_Read.l0
      rw [if_pos (by omega), if_pos (by omega), h2, digit_f]
      simp only [Option.bind_some]
      rw [Q.hex_f]
      simp only [Option.bind_some]
      rw [wrap_in ((i : Int) + 1) (by omega) (by omega)]
      unfold pdig
      cases hdc : dig c
      · cases six
        · simp
        · simp only [Bool.false_or, Bool.true_and, decide_eq_true_eq]
          by_cases hx : 0 ≤ hexv c
          · rw [if_neg (by simp), if_pos trivial, if_pos hx, if_pos hx]; rfl
          · rw [if_neg (by simp), if_pos trivial, if_neg hx, if_neg hx]
      · simp
    rw [hstep]
    by_cases hp : pdig six c = true
    · rw [if_pos hp]
      obtain ⟨k', hk'⟩ := ih (i + 1) (k + 1) h3 (by omega) (by simp at hk; omega)
      refine ⟨k', ?_⟩
      rw [hk', List.takeWhile_cons, if_pos hp, List.length_cons]
      congr 2; omega
    · rw [if_neg hp, List.takeWhile_cons, if_neg hp]
      exact ⟨k, rfl⟩

theorem number_f (s : ByteArray) (i k : Nat) (l : Bs) (hs : s.size < 2147483648) (hi : i ≤ s.size) (hd : (toL s).drop i = l) (hk : l.length + 3 < k) :
    Q.number_Read.f k s (i : Int) = some (match numRead l with | none => (⟨#[]⟩, (i : Int), false) | some (t, n) => (ofL t, ((i + n : Nat) : Int), true)) := by
  obtain ⟨k, rfl⟩ : ∃ m, k = m + 1 := ⟨k - 1, by omega⟩
  unfold Q.number_Read.f
  rw [begins_f s _ i hs (by decide) hi, hd]
  simp only [Option.bind_some]
  rw [show (⟨#[35]⟩ : ByteArray).size = 1 from rfl, show toL (⟨#[35]⟩ : ByteArray) = [35] from rfl, take_one]
  rcases l with _ | ⟨c, l⟩
  · rw [if_neg (by decide)]; rfl
  · simp only [beq_one, numRead]
    by_cases hc : c = 35
    · subst hc
      rw [if_pos (by decide), if_pos rfl]
      obtain ⟨h1, h2, h3⟩ := drop_cons hd
      rw [wrap_in ((i : Int) + 1) (by omega) (by omega), show ((i : Int) + 1) = ((i + 1 : Nat) : Int) from rfl, begins_f s _ (i + 1) hs (by decide) (by omega), h3]
      simp only [Option.bind_some]
      rw [show (⟨#[120]⟩ : ByteArray).size = 1 from rfl, show toL (⟨#[120]⟩ : ByteArray) = [120] from rfl, take_one]
      rw [wrap_in (((i + 1 : Nat) : Int) + 1) (by omega) (by omega)]
      rcases l with _ | ⟨x, l⟩
      · rw [if_neg (by decide)]
        simp only [Q.number_Read.j0]
        obtain ⟨k', hk'⟩ := l0_f s (i : Int) (i + 1) (lower [] == [120]) hs [] (i + 1) k h3 (by omega) (by simp at hk ⊢; omega)
        rw [hk', show (lower [] == [120]) = false from by decide, j2_f s _ (i + 1) _ _ _ [] hs h3 (by omega) rfl, numTail_nil]
      · simp only [beq_one]
        have hx : (lw x == 120) = isX x := by
          have := byteAll (fun x => (lw x == 120) == isX x) (by decide +kernel) x
          simpa using this
        rw [hx]
        obtain ⟨h4, h5, h6⟩ := drop_cons h3
        cases hxx : isX x
        · rw [if_neg (by simp), if_neg (by simp)]
          simp only [Q.number_Read.j0]
          obtain ⟨k', hk'⟩ := l0_f s (i : Int) (i + 1) false hs (x :: l) (i + 1) k h3 (by omega) (by simp at hk ⊢; omega)
          rw [hk', j2_f s _ (i + 1) _ _ _ _ hs h3 (by omega) rfl]
          cases numTail false (x :: l) with
          | none => rfl
          | some r =>
            simp only [Option.map_some]
            rw [show i + 1 + r.2 = i + (r.2 + 1) by omega]
        · rw [if_pos rfl, if_pos rfl]
          simp only [Q.number_Read.j0]
          rw [show (((i + 1 : Nat) : Int) + 1) = ((i + 2 : Nat) : Int) from rfl]
          obtain ⟨k', hk'⟩ := l0_f s (i : Int) (i + 2) true hs l (i + 2) k h6 (by omega) (by simp at hk ⊢; omega)
          rw [hk', j2_f s _ (i + 2) _ _ _ _ hs h6 (by omega) rfl]
          cases numTail true l with
          | none => rfl
          | some r =>
            simp only [Option.map_some]
            rw [show i + 2 + r.2 = i + (r.2 + 2) by omega]
    · have : (lw c == 35) = false := by
        have := byteAll (fun c => c == 35 || !(lw c == 35)) (by decide +kernel) c
        simpa [hc] using this
      rw [if_neg (by simp [this]), if_neg hc]

/-! The longest name. -/
noncomputable def lgst (l : Bs) : Nat → Nat
  | 0 => 0
  | n + 1 => if (nrow (l.take (n + 1))).isSome = true then n + 1 else lgst l n
noncomputable def longest (l : Bs) : Nat := lgst l (min 32 l.length)
theorem lgst_le (l : Bs) : ∀ n, lgst l n ≤ n
  | 0 => Nat.le_refl _
  | n + 1 => by
    unfold lgst; split
    · exact Nat.le_refl _
    · exact Nat.le_trans (lgst_le l n) (by omega)
theorem nrow_nil : nrow [] = none := by
  unfold nrow
  rw [List.find?_eq_none]
  intro x hx
  have h := chk_all namesL [] names_chk x hx
  simp only [okLine, Bool.and_eq_true, Bool.not_eq_true'] at h
  have h2 := h.1.1.2
  intro e
  have e2 : keyOf x = [] := by simpa using e
  rw [e2] at h2; cases h2
theorem longl0_f (s : ByteArray) (i : Nat) (l : Bs) (hs : s.size < 2147483648) (hi : i ≤ s.size) (hd : (toL s).drop i = l) : ∀ (n k : Nat), n ≤ l.length → n ≤ 32 → n < k →
    Q.search_Longest.l0 k Q.namesB s (i : Int) (n : Int) = some ((lgst l n : Nat) : Int) := by
  have hll := drop_length hd
  intro n
  induction n with
  | zero =>
    intro k _ _ hk
    obtain ⟨k, rfl⟩ : ∃ m, k = m + 1 := ⟨k - 1, by omega⟩
    simp only [Q.search_Longest.l0]
    rfl
  | succ n ih =>
    intro k h1 h2 hk
    obtain ⟨k, rfl⟩ : ∃ m, k = m + 1 := ⟨k - 1, by omega⟩
    have hw : wrap64 ((i : Int) + ((n + 1 : Nat) : Int)) = ((i + (n + 1) : Nat) : Int) := by unfold wrap64; omega
    have hw2 : wrap64 (((n + 1 : Nat) : Int) - 1) = (n : Int) := by unfold wrap64; omega
    simp only [Q.search_Longest.l0]
    have q1 : ((n + 1 : Nat) : Int) > 0 := by omega
    have q2 : (0 : Int) ≤ (i : Int) := by omega
    have q3 : (i : Int) ≤ ((i + (n + 1) : Nat) : Int) := by omega
    have q4 : ((i + (n + 1) : Nat) : Int) ≤ (s.size : Int) := by omega
    rw [if_pos q1, if_pos q2, hw, if_pos q3, if_pos q4, Int.toNat_natCast, Int.toNat_natCast, line_look, hw2]
    simp only [Option.bind_some]
    have e1 : toL (s.extract i (i + (n + 1))) = l.take (n + 1) := by rw [extract_toL, hd, Nat.add_sub_cancel_left]
    have hne : (l.take (n + 1)).isEmpty = false := by
      rw [List.isEmpty_eq_false_iff]; intro e
      have := congrArg List.length e
      rw [List.length_take] at this; simp only [List.length_nil] at this; omega
    rw [e1]
    unfold lgst look
    rw [show (namesL.find? fun l_1 => keyOf l_1 == l.take (n + 1)) = nrow (l.take (n + 1)) from rfl]
    cases hr : nrow (l.take (n + 1)) with
    | none =>
      simp only [Option.isSome_none]
      rw [if_neg (by simp), if_neg (by simp)]
      exact ih k (by omega) (by omega) (by omega)
    | some x =>
      simp only [Option.isSome_some, hne, Bool.not_false]
      rw [if_pos trivial, if_pos trivial]
theorem j0_step (k : Nat) (L s : ByteArray) (i m : Int) : Q.search_Longest.j0 (k + 1) L s i m false = Q.search_Longest.l0 k L s i (mn m (wrap64 ((s.size : Int) - i))) := by
  simp only [Q.search_Longest.j0]
  rw [if_neg (by simp)]
theorem longest_f (s : ByteArray) (i : Nat) (l : Bs) (hs : s.size < 2147483648) (hi : i ≤ s.size) (hd : (toL s).drop i = l) :
    Q.names_Longest.f s (i : Int) = some ((longest l : Nat) : Int) := by
  have hll := drop_length hd
  unfold Q.names_Longest.f Q.search_Longest.f
  rw [if_neg (by omega)]
  have h1 : decide ((i : Int) > (s.size : Int)) = false := by rw [decide_eq_false_iff_not]; omega
  rw [h1]
  rw [show (200 : Nat) = 199 + 1 from rfl, j0_step]
  rw [wrap_in ((s.size : Int) - (i : Int)) (by omega) (by omega)]
  have h2 : mn 32 ((s.size : Int) - (i : Int)) = ((min 32 l.length : Nat) : Int) := by
    unfold mn; split <;> omega
  rw [h2]
  exact longl0_f s i l hs hi hd (min 32 l.length) 199 (by omega) (by omega) (by omega)

/-! A reference: the text, and how many bytes behind '&' are read. -/
def textL (a b : Nat) : Bs := toL (Q.textB a b)
def keptL (l : Bs) : Bool := match l with
  | c :: _ => c == 61 || word c
  | [] => false
noncomputable def shortL (name : Bs) : Bool := (nval name).isSome && !Lib.hasSuffix name [59]
noncomputable def refRead (attr : Bool) (l : Bs) : Bs × Nat := match numRead l with
  | some r => r
  | none => match nval (l.take (longest l)) with
    | none => (38 :: l.take (longest l), longest l)
    | some (a, b) => if (attr && shortL (l.take (longest l)) && keptL (l.drop (longest l))) = true then (38 :: l.take (longest l), longest l) else (textL a b, longest l)
theorem kept_f (s : ByteArray) (i : Nat) (l : Bs) (hs : s.size < 2147483648) (hi : i ≤ s.size) (hd : (toL s).drop i = l) : Q.ref_kept.f s (i : Int) = some (keptL l) := by
  unfold Q.ref_kept.f
  rcases l with _ | ⟨c, l⟩
  · have := drop_nil hd
    rw [if_neg (by omega)]; rfl
  · obtain ⟨h1, h2, h3⟩ := drop_cons hd
    rw [if_pos (by omega), if_pos (by omega), h2, word_f]
    simp only [Option.bind_some, keptL]
    by_cases hc : c = 61
    · subst hc
      rw [if_pos (by decide)]; rfl
    · have h61 : (c == 61) = false := by simpa using hc
      rw [if_neg (fun e => hc (UInt8.toNat_inj.1 (by have : (61 : UInt8).toNat = 61 := rfl; omega))), h61]; rfl
end Go.Proofs.YtfhjfidkcdcjnaaDoor.Fl
