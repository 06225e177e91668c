/- The law TagWritten, proved whole (for every input, as the given card says; no condition beyond it): its row and its card, and what they lean on. -/
import Derived.Test.YtfhjfidkcdcjnaaDoorB1
import Derived.Lib.Hide
import Derived.Deep.LoopGhost
import Derived.Lib.SlicesS
import Derived.WalkMore
import Derived.BigQuiet
import Derived.WalkLawsBesides
set_option linter.unusedVariables false
set_option linter.unusedSimpArgs false
set_option linter.unusedSectionVars false

/- 'ref.Read': what an ampersand means: the walk. -/
namespace Go.Proofs.YtfhjfidkcdcjnaaDoor.Fl
open Go
theorem longest_le (l : Bs) : longest l ≤ l.length := Nat.le_trans (lgst_le l _) (Nat.min_le_right _ _)
theorem longest_32 (l : Bs) : longest l ≤ 32 := Nat.le_trans (lgst_le l _) (Nat.min_le_left _ _)
theorem nval_nil : nval [] = none := by unfold nval; rw [nrow_nil]; rfl
theorem nval_bounds {name : Bs} {a b : Nat} (h : nval name = some (a, b)) : a < 2 ^ 53 ∧ b < 2 ^ 53 := by
  unfold nval nrow at h
  obtain ⟨x, hx, hab⟩ := Option.map_eq_some_iff.1 h
  have hmem := List.mem_of_find?_eq_some hx
  obtain ⟨_, _, hf, hs⟩ := line_parts (chk_all namesL [] names_chk x hmem)
  have one : ∀ s : Bs, okNum s = true → hexTo 0 s < 2 ^ 53 := by
    intro s h
    obtain ⟨_, h2, h3⟩ := num_parts h
    have h4 := Q.hexTo_lt s 0 h3
    have h5 : (16 : Nat) ^ s.length ≤ 16 ^ 8 := Nat.pow_le_pow_right (by omega) h2
    omega
  have h1 : hexTo 0 (keyOf (restOf x)) = a := congrArg Prod.fst hab
  have h2 : hexTo 0 (restOf (restOf x)) = b := congrArg Prod.snd hab
  rw [← h1, ← h2]
  refine ⟨one _ hf, ?_⟩
  rcases hs with hs | hs
  · rw [hs]; decide
  · exact one _ hs
end Go.Proofs.YtfhjfidkcdcjnaaDoor.Fl
namespace Go.Proofs.YtfhjfidkcdcjnaaDoor.Q
open Go.RowKit Go.Proofs.YtfhjfidkcdcjnaaDoorW.PrintWords Go.Proofs.YtfhjfidkcdcjnaaDoorW.PrintLast Go.Proofs.YtfhjfidkcdcjnaaDoorW.PrintMore
set_option linter.unusedVariables false
set_option linter.unusedSimpArgs false

theorem shortB_L (name : ByteArray) : shortB name = Fl.shortL (Fl.toL name) := rfl

set_option maxHeartbeats 4000000 in
set_option maxRecDepth 1000000 in
theorem read_calls (s : ByteArray) (i : Nat) (attr : Bool) (l : Fl.Bs) (w : World) (hG : Gl w) (hs : s.size < 2147483648) (hd : (Fl.toL s).drop i = 38 :: l) :
    Calls Tryd.prog 41 #[.string s, .int .i64 i, .bool attr] w fun e w' => e = .returned (.tuple #[.string (Fl.ofL (Fl.refRead attr l).1), .int .i64 ((i + 1 + (Fl.refRead attr l).2 : Nat) : Int)]) ∧ Below w.heap.size w w' := by
  obtain ⟨hi, hb, hd1⟩ := Fl.drop_cons hd
  have hll := Fl.drop_length hd1
  have hbeg : sign_Begins.f s (i : Int) ⟨#[38]⟩ = some true := by
    rw [Fl.begins_f s _ i hs (by decide) (by omega), hd]
    rfl
  have hB := fun W => sign_Begins.calls s (i : Int) ⟨#[38]⟩ true W hbeg
  have hw1 : wrap64 ((i : Int) + 1) = ((i + 1 : Nat) : Int) := by unfold wrap64; omega
  have hnf := Fl.number_f s (i + 1) (l.length + 4) l hs (by omega) hd1 (by omega)
  have hlf := Fl.longest_f s (i + 1) l hs (by omega) hd1
  have hL := fun W => names_Longest.calls s ((i + 1 : Nat) : Int) _ W hlf
  have hle := Fl.longest_le l
  have hext : Fl.toL (s.extract (i + 1) (i + 1 + Fl.longest l)) = l.take (Fl.longest l) := by
    rw [Fl.extract_toL, hd1, Nat.add_sub_cancel_left]
  have hext2 : s.extract i (i + 1 + Fl.longest l) = Fl.ofL (38 :: l.take (Fl.longest l)) := by
    apply Fl.toL_inj
    rw [Fl.extract_toL, hd, show i + 1 + Fl.longest l - i = Fl.longest l + 1 by omega, List.take_succ_cons]; rfl
  have hdn : (Fl.toL s).drop (i + 1 + Fl.longest l) = l.drop (Fl.longest l) := by rw [← List.drop_drop, hd1]
  have hkf := Fl.kept_f s (i + 1 + Fl.longest l) _ hs (by omega) hdn
  have hK := fun W => ref_kept.calls s ((i + 1 + Fl.longest l : Nat) : Int) _ W hkf
  have hexts := Fl.size_extract s (i + 1) (i + 1 + Fl.longest l) (by omega)
  clear hnf hlf hkf hbeg hdn
  have hnf := Fl.number_f s (i + 1) (l.length + 4) l hs (by omega) hd1 (by omega)
  unfold Fl.refRead
  have hVn := fun (h : Fl.nval (l.take (Fl.longest l)) = none) W => value_none (s.extract (i + 1) (i + 1 + Fl.longest l)) W (by rw [hext]; exact h)
  have hne : Fl.nval (l.take (Fl.longest l)) ≠ none → (s.extract (i + 1) (i + 1 + Fl.longest l)).size ≠ 0 := by
    intro h e
    apply h
    rw [hexts] at e
    rw [show Fl.longest l = 0 by omega, List.take_zero, Fl.nval_nil]
  have hVs := fun a b (h : Fl.nval (l.take (Fl.longest l)) = some (a, b)) W hW => value_some (s.extract (i + 1) (i + 1 + Fl.longest l)) W hW a b (hne (by rw [h]; simp)) (by rw [hext]; exact h)
  have hSh := fun (h : Fl.nval (l.take (Fl.longest l)) ≠ none) W hW => short_calls (s.extract (i + 1) (i + 1 + Fl.longest l)) W hW (hne h) (by omega)
  rw [shortB_L, hext] at hSh
  have hbd := fun a b (h : Fl.nval (l.take (Fl.longest l)) = some (a, b)) => Fl.nval_bounds h
  clear hne hext hd hd1 hb
  generalize Fl.longest l = n at *
  generalize l.take n = name at *
  generalize l.drop n = rest at *
  have c1 : (0 : Int) ≤ ((i + 1 : Nat) : Int) := by omega
  have c2 : wrap64 (((i + 1 : Nat) : Int) + (n : Int)) = ((i + 1 + n : Nat) : Int) := by unfold wrap64; omega
  have c3 : ((i + 1 : Nat) : Int) ≤ ((i + 1 + n : Nat) : Int) := by omega
  have c4 : ((i + 1 + n : Nat) : Int) ≤ (s.size : Int) := by omega
  have c5 : (i : Int) ≤ ((i + 1 + n : Nat) : Int) := by omega
  have c6 : (0 : Int) ≤ (i : Int) := by omega
  have d1 : (0 : Int) ≤ (i : Int) + 1 := by omega
  have d3 : (i : Int) + 1 ≤ (i : Int) + 1 + (n : Int) := by omega
  have d4 : (i : Int) + 1 + (n : Int) ≤ (s.size : Int) := by omega
  have d5 : (i : Int) ≤ (i : Int) + 1 + (n : Int) := by omega
  have d6 : ((i : Int) + 1).toNat = i + 1 := by omega
  have d7 : ((i : Int) + 1 + (n : Int)).toNat = i + 1 + n := by omega
  have HG := Lib.hid hG
  have HE := Lib.hid hext2
  clear hext2 hG
  cases hnr : Fl.numRead l with
  | some r =>
    obtain ⟨t, m⟩ := r
    rw [hnr] at hnf
    have hN := fun W => number_Read.calls _ s ((i + 1 : Nat) : Int) _ _ _ W hnf
    clear hnf hnr hVn hVs hSh hK hL hbd
    go_enter Tryd.func41, Tryd.ntmps41
    go_wp2_with fail
    refine (hB _).mono ?_
    rintro e w1 ⟨rfl, hb1⟩
    have HB1 := Lib.hid hb1
    clear hb1
    go_wp2_with fail
    refine (hN _).mono ?_
    rintro e w2 ⟨rfl, hb2⟩
    have HB2 := Lib.hid (HB1.out.trans (hb2.mono HB1.out.size))
    clear hb2
    go_wp2
    go_ret2
    exact ⟨rfl, HB2.out⟩
  | none =>
    rw [hnr] at hnf
    have hN := fun W => number_Read.calls _ s ((i + 1 : Nat) : Int) _ _ _ W hnf
    clear hnf hnr
    cases hv : Fl.nval name with
    | none =>
      have hV := hVn hv
      clear hVn hVs hSh hK hbd hv
      go_enter Tryd.func41, Tryd.ntmps41
      go_wp2_with fail
      refine (hB _).mono ?_
      rintro e w1 ⟨rfl, hb1⟩
      have HB1 := Lib.hid hb1
      clear hb1
      go_wp2_with fail
      refine (hN _).mono ?_
      rintro e w2 ⟨rfl, hb2⟩
      have HB2 := Lib.hid (HB1.out.trans (hb2.mono HB1.out.size))
      clear hb2
      go_wp2_with fail
      refine (hL _).mono ?_
      rintro e w3 ⟨rfl, hb3⟩
      have HB3 := Lib.hid (HB2.out.trans (hb3.mono HB2.out.size))
      clear hb3
      go_wp2_with fail
      refine (hV _).mono ?_
      rintro e w4 ⟨rfl, ⟨⟨n4, rfl⟩⟩⟩
      have HB4 := Lib.hid (pw_below_drewN HB3.out n4)
      go_wp2
      go_ret2
      exact ⟨by rw [← HE.out]; rfl, HB4.out⟩
    | some ab =>
      obtain ⟨a, b⟩ := ab
      dsimp only
      have hV := hVs a b hv
      have hS := hSh (by rw [hv]; simp)
      have hT := fun W => text_calls a b W (hbd a b hv).1 (hbd a b hv).2
      have hTe : Fl.ofL (Fl.textL a b) = textB a b := rfl
      generalize textB a b = tb at *
      generalize Fl.textL a b = tl at *
      subst hTe
      generalize Fl.shortL name = sh at *
      generalize Fl.keptL rest = kp at *
      clear hVn hVs hSh hbd hv
      cases attr with
      | false =>
        rw [if_neg (by simp)]
        go_enter Tryd.func41, Tryd.ntmps41
        go_wp2_with fail
        refine (hB _).mono ?_
        rintro e w1 ⟨rfl, hb1⟩
        have HB1 := Lib.hid hb1
        clear hb1
        go_wp2_with fail
        refine (hN _).mono ?_
        rintro e w2 ⟨rfl, hb2⟩
        have HB2 := Lib.hid (HB1.out.trans (hb2.mono HB1.out.size))
        clear hb2
        go_wp2_with fail
        refine (hL _).mono ?_
        rintro e w3 ⟨rfl, hb3⟩
        have HB3 := Lib.hid (HB2.out.trans (hb3.mono HB2.out.size))
        clear hb3
        go_wp2_with fail
        refine (hV _ (Gl.below HG.out HB3.out)).mono ?_
        rintro e w4 ⟨rfl, hb4⟩
        have HB4 := Lib.hid (HB3.out.trans (hb4.mono HB3.out.size))
        clear hb4
        go_wp2_with fail
        refine (hT _).mono ?_
        rintro e w7 ⟨rfl, rfl⟩
        go_wp2
        go_ret2
        exact ⟨rfl, HB4.out⟩
      | true =>
        cases sh with
        | false =>
          rw [if_neg (by simp)]
          go_enter Tryd.func41, Tryd.ntmps41
          go_wp2_with fail
          refine (hB _).mono ?_
          rintro e w1 ⟨rfl, hb1⟩
          have HB1 := Lib.hid hb1
          clear hb1
          go_wp2_with fail
          refine (hN _).mono ?_
          rintro e w2 ⟨rfl, hb2⟩
          have HB2 := Lib.hid (HB1.out.trans (hb2.mono HB1.out.size))
          clear hb2
          go_wp2_with fail
          refine (hL _).mono ?_
          rintro e w3 ⟨rfl, hb3⟩
          have HB3 := Lib.hid (HB2.out.trans (hb3.mono HB2.out.size))
          clear hb3
          go_wp2_with fail
          refine (hV _ (Gl.below HG.out HB3.out)).mono ?_
          rintro e w4 ⟨rfl, hb4⟩
          have HB4 := Lib.hid (HB3.out.trans (hb4.mono HB3.out.size))
          clear hb4
          go_wp2_with fail
          refine (hS _ (Gl.below HG.out HB4.out)).mono ?_
          rintro e w5 ⟨rfl, hb5⟩
          have HB5 := Lib.hid (HB4.out.trans (hb5.mono HB4.out.size))
          clear hb5
          go_wp2_with fail
          refine (hT _).mono ?_
          rintro e w7 ⟨rfl, rfl⟩
          go_wp2
          go_ret2
          exact ⟨rfl, HB5.out⟩
        | true =>
          cases kp with
          | false =>
            rw [if_neg (by simp)]
            go_enter Tryd.func41, Tryd.ntmps41
            go_wp2_with fail
            refine (hB _).mono ?_
            rintro e w1 ⟨rfl, hb1⟩
            have HB1 := Lib.hid hb1
            clear hb1
            go_wp2_with fail
            refine (hN _).mono ?_
            rintro e w2 ⟨rfl, hb2⟩
            have HB2 := Lib.hid (HB1.out.trans (hb2.mono HB1.out.size))
            clear hb2
            go_wp2_with fail
            refine (hL _).mono ?_
            rintro e w3 ⟨rfl, hb3⟩
            have HB3 := Lib.hid (HB2.out.trans (hb3.mono HB2.out.size))
            clear hb3
            go_wp2_with fail
            refine (hV _ (Gl.below HG.out HB3.out)).mono ?_
            rintro e w4 ⟨rfl, hb4⟩
            have HB4 := Lib.hid (HB3.out.trans (hb4.mono HB3.out.size))
            clear hb4
            go_wp2_with fail
            refine (hS _ (Gl.below HG.out HB4.out)).mono ?_
            rintro e w5 ⟨rfl, hb5⟩
            have HB5 := Lib.hid (HB4.out.trans (hb5.mono HB4.out.size))
            clear hb5
            go_wp2_with fail
            refine (hK _).mono ?_
            rintro e w6 ⟨rfl, ⟨⟨n6, rfl⟩⟩⟩
            have HB6 := Lib.hid (pw_below_drewN HB5.out n6)
            go_wp2_with fail
            refine (hT _).mono ?_
            rintro e w7 ⟨rfl, rfl⟩
            go_wp2
            go_ret2
            exact ⟨rfl, HB6.out⟩
          | true =>
            rw [if_pos (by rfl)]
            go_enter Tryd.func41, Tryd.ntmps41
            go_wp2_with fail
            refine (hB _).mono ?_
            rintro e w1 ⟨rfl, hb1⟩
            have HB1 := Lib.hid hb1
            clear hb1
            go_wp2_with fail
            refine (hN _).mono ?_
            rintro e w2 ⟨rfl, hb2⟩
            have HB2 := Lib.hid (HB1.out.trans (hb2.mono HB1.out.size))
            clear hb2
            go_wp2_with fail
            refine (hL _).mono ?_
            rintro e w3 ⟨rfl, hb3⟩
            have HB3 := Lib.hid (HB2.out.trans (hb3.mono HB2.out.size))
            clear hb3
            go_wp2_with fail
            refine (hV _ (Gl.below HG.out HB3.out)).mono ?_
            rintro e w4 ⟨rfl, hb4⟩
            have HB4 := Lib.hid (HB3.out.trans (hb4.mono HB3.out.size))
            clear hb4
            go_wp2_with fail
            refine (hS _ (Gl.below HG.out HB4.out)).mono ?_
            rintro e w5 ⟨rfl, hb5⟩
            have HB5 := Lib.hid (HB4.out.trans (hb5.mono HB4.out.size))
            clear hb5
            go_wp2_with fail
            refine (hK _).mono ?_
            rintro e w6 ⟨rfl, ⟨⟨n6, rfl⟩⟩⟩
            have HB6 := Lib.hid (pw_below_drewN HB5.out n6)
            go_wp2
            go_ret2
            exact ⟨by rw [← HE.out]; rfl, HB6.out⟩
end Go.Proofs.YtfhjfidkcdcjnaaDoor.Q

/- 'lines.Clean' puts the bad sign in the place of each byte 0: the walk, through 'strings.ReplaceAll' and 'strings.Replace' at one byte. -/
namespace Go.Proofs.YtfhjfidkcdcjnaaDoor.Fl
open Go

theorem indexByte_none {l : Bs} {c : UInt8} (h : l.count c = 0) : Lib.indexByte l c = -1 := by
  induction l with
  | nil => rfl
  | cons b l ih =>
    rw [List.count_cons] at h
    have hb : (b == c) = false := by
      cases e : b == c with
      | false => rfl
      | true => simp [e] at h
    simp only [Lib.indexByte, hb]
    rw [ih (by simp [hb] at h; exact h)]; rfl
/-- The first byte c of l, where there is one: what stands ahead of it has none. -/
theorem indexByte_some {l : Bs} {c : UInt8} (h : l.count c ≠ 0) : ∃ j : Nat, Lib.indexByte l c = j ∧ ∃ r, l = l.take j ++ c :: r ∧ (l.take j).count c = 0 ∧ l.drop (j + 1) = r ∧ j < l.length := by
  induction l with
  | nil => simp at h
  | cons b l ih =>
    cases hb : b == c with
    | true =>
      refine ⟨0, by simp [Lib.indexByte, hb], l, ?_, by simp, by simp, by simp⟩
      have : b = c := by simpa using hb
      simp [this]
    | false =>
      rw [List.count_cons] at h
      obtain ⟨j, hj, r, h1, h2, h3, h4⟩ := ih (by simpa [hb] using h)
      refine ⟨j + 1, ?_, r, ?_, ?_, ?_, ?_⟩
      · simp only [Lib.indexByte, hb, hj]
        have : ((j : Int) == -1) = false := by rw [beq_eq_false_iff_ne]; omega
        simp [this]
      · simp only [List.take_succ_cons, List.cons_append]; rw [← h1]
      · simp [List.count_cons, hb, h2]
      · simpa using h3
      · simp; omega
theorem clean_append (a b : Bs) : clean (a ++ b) = clean a ++ clean b := by
  induction a with
  | nil => rfl
  | cons c a ih => simp only [List.cons_append, clean]; split <;> simp [ih]
theorem clean_same {l : Bs} (h : l.count 0 = 0) : clean l = l := by
  induction l with
  | nil => rfl
  | cons c l ih =>
    rw [List.count_cons] at h
    by_cases hc : c = 0
    · subst hc; simp at h
    · simp only [clean, hc, if_false]
      rw [ih (by omega)]
theorem clean_length (l : Bs) : (clean l).length = l.length + 2 * l.count 0 := by
  induction l with
  | nil => rfl
  | cons c l ih =>
    rw [List.count_cons]
    by_cases hc : c = 0
    · subst hc; simp only [clean, if_true, bad]; simp [ih]; omega
    · simp only [clean, hc, if_false]; simp [ih, hc]; omega
end Go.Proofs.YtfhjfidkcdcjnaaDoor.Fl

namespace Go.Proofs.YtfhjfidkcdcjnaaDoor.Q
open Go.RowKit Go.Proofs.YtfhjfidkcdcjnaaDoorW.PrintWords Go.Proofs.YtfhjfidkcdcjnaaDoorW.PrintLast Go.Proofs.YtfhjfidkcdcjnaaDoorW.PrintMore
set_option linter.unusedVariables false
set_option linter.unusedSimpArgs false

def badB : ByteArray := ⟨#[239, 191, 189]⟩
def nulB : ByteArray := ⟨#[0]⟩
theorem grow_arg (n K : Nat) (h : n ≤ 4294967281) (hK : K ≤ n) : wrap64 ((n : Int) + wrap64 ((K : Int) * wrap64 (3 - 1))) = ((n + 2 * K : Nat) : Int) := by
  unfold wrap64; omega

set_option maxHeartbeats 16000000 in
set_option maxRecDepth 1000000 in
theorem replace0 (s : ByteArray) (w : World) (hs : s.size < 4294967281) (hc0 : (Fl.toL s).count 0 ≠ 0) :
    Calls Tryd.prog 44 #[.string s, .string ⟨#[0]⟩, .string ⟨#[239, 191, 189]⟩, .int .i64 (-1)] w fun e w' =>
      e = .returned (.string (Fl.ofL (Fl.clean (Fl.toL s)))) ∧ Below w.heap.size w w' := by
  obtain ⟨K, hK⟩ : ∃ K : Nat, (Fl.toL s).count 0 = K := ⟨_, rfl⟩
  have hC := Tryd.strings_Count_one s 0 w
  rw [show Lib.countByte s.data.toList 0 = K from hK] at hC
  have hKs : K ≤ s.size := by rw [← hK, ← Fl.toL_length]; exact List.count_le_length
  have hcz : ((K : Int) == 0) = false := beq_eq_false_iff_ne.2 (by omega)
  have hKcount : K = ((Fl.toL s).drop 0).count 0 := by rw [List.drop_zero, hK]
  have HK := Lib.hid hKcount
  clear hK hKcount hc0
  go_enter Tryd.func44, Tryd.ntmps44
  go_wp2_with (first | (go_at_call 54; refine hC.mono ?_; rintro e w1 ⟨rfl, hw⟩; obtain rfl := hw.symm))
  rw [show ((s.size : Int) + (K : Int) * 2) = ((s.size + K * 2 : Nat) : Int) from by omega]
  have L := Tryd.lays154
  have X := Tryd.Builder_Extra_154
  refine (Any.Builder_Grow_fresh { L with } X w.heap.size w.heap.size _ _ (Nat.le_refl _) (heap_alloc_new w _) (by simp) (by omega)).mono ?_
  rintro e w1 ⟨rfl, hb0, hb1⟩
  have H1 := Lib.hid (Or.inr hb0 : Lib.IsBuilder 68 5 w.heap.size w.heap.size (Lib.byteCells []) w1)
  have Hb1 := Lib.hid (((Below.refl w.heap.size w).alloc (Nat.le_refl _) _).trans hb1)
  clear hb0 hb1
  go_wp2_with fail
  have hlenL : (Fl.toL s).length = s.size := Fl.toL_length s
  go_loopg [11, 53] K (fun g s11 s53 wx => ∃ (i start : Nat) (acc : List UInt8), s53 = .int .i64 i ∧ s11 = .int .i64 start ∧ i + g = K ∧ start ≤ s.size ∧
    Hid (Lib.IsBuilder 68 5 w.heap.size w.heap.size (Lib.byteCells acc) wx) ∧ Hid (Below w.heap.size w wx) ∧ Hid (acc ++ Fl.clean ((Fl.toL s).drop start) = Fl.clean (Fl.toL s)) ∧
    Hid (g = ((Fl.toL s).drop start).count 0) ∧ acc.length + (s.size - start) + 2 * g ≤ s.size + 2 * K)
  case atStart => exact ⟨0, 0, [], rfl, rfl, by omega, Nat.zero_le _, H1, Hb1, Lib.hid (by simp), HK, by simp⟩
  case round =>
    obtain ⟨i, start, acc, rfl, rfl, hig, hst, HB, HW, HR, HG, hbd⟩ := hrel
    have hBw : w.heap.size ≤ wr.heap.size := HW.out.size
    have c1 : (0 : Int) ≤ (start : Int) := by omega
    have c2 : (start : Int) ≤ (s.size : Int) := by omega
    cases gk with
    | zero =>
      have hiK : ¬ ((i : Int) < (K : Int)) := by omega
      go_wp2_with fail
      refine (Any.Builder_WriteString { L with } X w.heap.size w.heap.size _ _ wr HB.out (by rw [Lib.byteCells_length, ByteArray.size_extract]; omega) hBw).mono ?_
      rintro e w3 ⟨rfl, h3, hb3⟩
      rw [Lib.strCells_eq, Lib.extract_to_end, ← Lib.byteCells_append] at h3
      have hfin : acc ++ s.data.toList.drop start = Fl.clean (Fl.toL s) := by
        have := HR.out
        rw [Fl.clean_same HG.out.symm] at this
        exact this
      rw [hfin] at h3
      have H3 := Lib.hid (Or.inr h3 : Lib.IsBuilder 68 5 w.heap.size w.heap.size _ w3)
      have Hb3 := Lib.hid (HW.out.trans hb3)
      have hBw3 : w.heap.size ≤ w3.heap.size := Hb3.out.size
      clear h3 hb3 hfin
      go_wp2_with fail
      refine (Any.Builder_String_any { L with } X w.heap.size w.heap.size _ w3 H3.out hBw3).mono ?_
      rintro e w5 ⟨rfl, hb5⟩
      have Hb5 := Lib.hid (Hb3.out.trans hb5)
      clear hb5
      go_wp2
      go_ret
      exact ⟨rfl, Hb5.out⟩
    | succ g =>
      have hiK : (i : Int) < (K : Int) := by omega
      obtain ⟨j, hj, r, h1, h3, h2, h4⟩ := Fl.indexByte_some (l := (Fl.toL s).drop start) (c := 0) (by rw [← HG.out]; omega)
      have hroom : j + 1 ≤ s.size - start := by rw [List.length_drop, hlenL] at h4; omega
      have c3 : (start : Int) ≤ (start : Int) + (j : Int) := by omega
      have c4 : (start : Int) + (j : Int) ≤ (s.size : Int) := by omega
      have hnext : Lib.byteCells acc ++ Lib.strCells (s.extract start (start + j)) ++ Lib.strCells ⟨#[239, 191, 189]⟩ = Lib.byteCells (acc ++ ((Fl.toL s).drop start).take j ++ Fl.bad) := by
        rw [Lib.strCells_eq, Lib.strCells_eq, Lib.extract_data, Nat.add_sub_cancel_left, ← Lib.byteCells_append, ← Lib.byteCells_append]; rfl
      have hrep : (acc ++ ((Fl.toL s).drop start).take j ++ Fl.bad) ++ Fl.clean ((Fl.toL s).drop (start + (j + 1))) = Fl.clean (Fl.toL s) := by
        rw [← HR.out, ← List.drop_drop, h2]
        conv => rhs; rw [h1]
        rw [Fl.clean_append, Fl.clean_same h3]
        simp [Fl.clean, Fl.bad]
      have hcnt : g = ((Fl.toL s).drop (start + (j + 1))).count 0 := by
        have := HG.out
        rw [h1, List.count_append, h3, List.count_cons] at this
        rw [← List.drop_drop, h2]
        simp at this
        omega
      have htl : (((Fl.toL s).drop start).take j).length = j := by rw [List.length_take, List.length_drop, hlenL]; omega
      have hfin : (acc ++ ((Fl.toL s).drop start).take j ++ Fl.bad).length + (s.size - (start + (j + 1))) + 2 * g ≤ s.size + 2 * K := by
        rw [List.length_append, List.length_append, htl]; simp only [Fl.bad, List.length_cons, List.length_nil]; omega
      have Hfin := Lib.hid hfin
      clear hfin
      have Hn := Lib.hid hnext
      have Hrep := Lib.hid hrep
      have Hcnt := Lib.hid hcnt
      have Hj := Lib.hid (show Lib.indexByte (s.data.toList.drop start) 0 = j from hj)
      clear hnext hrep hcnt HR HG hj h1 h2 h3 h4
      go_wp2_with (first | (go_at_call 56; refine (Tryd.strings_Index_one _ 0 _).mono ?_; rintro e w2 ⟨rfl, hw⟩; obtain rfl := hw.symm; rw [Lib.extract_to_end, Hj.out]))
      refine (Any.Builder_WriteString { L with } X w.heap.size w.heap.size _ (s.extract start (start + j)) wr HB.out (by rw [Lib.byteCells_length, ByteArray.size_extract]; omega) hBw).mono ?_
      rintro e w3 ⟨rfl, h3, hb3⟩
      have hBw3 : w.heap.size ≤ w3.heap.size := Nat.le_trans hBw hb3.size
      have H3 := Lib.hid h3
      have Hb3 := Lib.hid hb3
      clear h3 hb3
      go_wp2_with fail
      refine (Any.Builder_WriteString { L with } X w.heap.size w.heap.size _ ⟨#[239, 191, 189]⟩ w3 (Or.inr H3.out) (by rw [List.length_append, Lib.byteCells_length, Lib.strCells_length, ByteArray.size_extract, show (⟨#[239, 191, 189]⟩ : ByteArray).size = 3 from rfl]; omega) hBw3).mono ?_
      rintro e w4 ⟨rfl, h4, hb4⟩
      rw [Hn.out] at h4
      have H4 := Lib.hid (Or.inr h4 : Lib.IsBuilder 68 5 w.heap.size w.heap.size _ w4)
      have Hb4 := Lib.hid ((HW.out.trans Hb3.out).trans hb4)
      clear h4 hb4
      go_wp2
      go_roundg g
      case measure => omega
      case rel => exact ⟨i + 1, start + (j + 1), acc ++ ((Fl.toL s).drop start).take j ++ Fl.bad, by first | rfl | go_num, by first | rfl | exact congrArg (Value.int .i64) (by omega) | (trace_state; exact congrArg (Value.int .i64) (by unfold wrap64; omega)), by omega, by omega, H4, Hb4, Hrep, Hcnt, Hfin.out⟩

set_option maxHeartbeats 16000000 in
set_option maxRecDepth 1000000 in
theorem replace0_none (s : ByteArray) (w : World) (hc0 : (Fl.toL s).count 0 = 0) :
    Calls Tryd.prog 44 #[.string s, .string ⟨#[0]⟩, .string ⟨#[239, 191, 189]⟩, .int .i64 (-1)] w fun e w' =>
      e = .returned (.string s) ∧ w' = w := by
  have hC := Tryd.strings_Count_one s 0 w
  rw [show Lib.countByte s.data.toList 0 = 0 from hc0] at hC
  clear hc0
  go_enter Tryd.func44, Tryd.ntmps44
  go_wp2_with (first | (go_at_call 54; refine hC.mono ?_; rintro e w1 ⟨rfl, hw⟩; obtain rfl := hw.symm))
  go_ret
  exact ⟨rfl, rfl⟩

theorem replace0_any (s : ByteArray) (w : World) (hs : s.size < 4294967281) :
    Calls Tryd.prog 44 #[.string s, .string ⟨#[0]⟩, .string ⟨#[239, 191, 189]⟩, .int .i64 (-1)] w fun e w' =>
      e = .returned (.string (Fl.ofL (Fl.clean (Fl.toL s)))) ∧ Below w.heap.size w w' := by
  by_cases hc0 : (Fl.toL s).count 0 = 0
  · refine (replace0_none s w hc0).mono ?_
    rintro e w1 ⟨rfl, rfl⟩
    rw [Fl.clean_same hc0]
    exact ⟨rfl, Below.refl _ _⟩
  · exact replace0 s w hs hc0

def lines_Clean.f (a0 : ByteArray) : Option (ByteArray) := if a0.size < 4294967281 then some (Fl.ofL (Fl.clean (Fl.toL a0))) else none
set_option maxHeartbeats 4000000 in
set_option maxRecDepth 1000000 in
theorem lines_Clean.calls (a0 : ByteArray) (r : ByteArray) (w : World) (h : lines_Clean.f a0 = some r) :
    Calls Tryd.prog 25 #[.string a0] w fun e w' => e = .returned (.string r) ∧ Below w.heap.size w w' := by
  unfold lines_Clean.f at h
  split at h
  · rename_i hs
    obtain rfl := Option.some.inj h
    clear h
    go_enter Tryd.func25, Tryd.ntmps25
    go_wp2_with (first | (go_at_call 44; refine (replace0_any a0 _ hs).mono ?_; rintro e w1 ⟨rfl, hb⟩; have HB := Lib.hid hb; clear hb) | go_in)
    go_ret
    exact ⟨rfl, HB.out⟩
  · cases h

end Go.Proofs.YtfhjfidkcdcjnaaDoor.Q

/- All references of a text, on lists of bytes. No program in sight. -/
namespace Go.Proofs.YtfhjfidkcdcjnaaDoor.Fl
open Go

noncomputable def dec (attr : Bool) : Nat → Bs → Bs
  | 0, _ => []
  | n + 1, l => match l with
    | [] => []
    | c :: l => if c = 38 then (refRead attr l).1 ++ dec attr n (l.drop (refRead attr l).2) else c :: dec attr n l
noncomputable def decode (attr : Bool) (l : Bs) : Bs := dec attr l.length l
theorem dec_same (attr : Bool) : ∀ (n m : Nat) (l : Bs), l.length ≤ n → l.length ≤ m → dec attr n l = dec attr m l := by
  intro n
  induction n with
  | zero =>
    intro m l h1 _
    have : l = [] := List.eq_nil_of_length_eq_zero (by omega)
    subst this
    cases m <;> rfl
  | succ n ih =>
    intro m l h1 h2
    cases l with
    | nil => cases m <;> rfl
    | cons c l =>
      cases m with
      | zero => simp at h2
      | succ m =>
        simp only [List.length_cons] at h1 h2
        simp only [dec]
        split
        · rw [ih m _ (by rw [List.length_drop]; omega) (by rw [List.length_drop]; omega)]
        · rw [ih m _ (by omega) (by omega)]
theorem decode_nil (attr : Bool) : decode attr [] = [] := rfl
theorem decode_cons (attr : Bool) (c : UInt8) (l : Bs) : decode attr (c :: l) = if c = 38 then (refRead attr l).1 ++ decode attr (l.drop (refRead attr l).2) else c :: decode attr l := by
  unfold decode
  show dec attr (l.length + 1) (c :: l) = _
  simp only [dec]
  split
  · rw [dec_same attr l.length (l.drop (refRead attr l).2).length _ (by rw [List.length_drop]; omega) (Nat.le_refl _)]
  · rfl
theorem decode_amp (attr : Bool) (l : Bs) : decode attr (38 :: l) = (refRead attr l).1 ++ decode attr (l.drop (refRead attr l).2) := by
  rw [decode_cons, if_pos rfl]
theorem decode_append (attr : Bool) (a l : Bs) (h : a.count 38 = 0) : decode attr (a ++ l) = a ++ decode attr l := by
  induction a with
  | nil => rfl
  | cons c a ih =>
    rw [List.count_cons] at h
    have hc : c ≠ 38 := fun e => by subst e; simp at h
    rw [List.cons_append, decode_cons, if_neg hc, ih (by omega), List.cons_append]
theorem decode_same (attr : Bool) (a : Bs) (h : a.count 38 = 0) : decode attr a = a := by
  have := decode_append attr a [] h
  rw [List.append_nil] at this
  rw [this, decode_nil, List.append_nil]

theorem fixB_size (n : Int) : (Q.fixB n).size ≤ 4 := by
  unfold Q.fixB
  split
  · decide
  · split <;> exact Q.signB_size _
theorem textB_size (a b : Nat) : (Q.textB a b).size ≤ 8 := by
  unfold Q.textB
  have h1 := Q.signB_size (a : Int)
  have h2 := Q.signB_size (b : Int)
  split
  · omega
  · rw [ByteArray.size_append]; omega
theorem semi_le (l : Bs) : semi l ≤ l.length := by
  unfold semi
  split
  · split <;> simp
  · simp
theorem numTail_len (six : Bool) (l : Bs) (t : Bs) (n : Nat) (h : numTail six l = some (t, n)) : n ≤ l.length ∧ t.length ≤ 4 := by
  unfold numTail at h
  split at h
  · cases h
  · injection h with h
    injection h with h1 h2
    have h3 := semi_le (l.drop (l.takeWhile (pdig six)).length)
    have h4 : (l.takeWhile (pdig six)).length ≤ l.length := (List.takeWhile_prefix _).length_le
    rw [List.length_drop] at h3
    refine ⟨by omega, ?_⟩
    rw [← h1, toL_length]; exact fixB_size _
theorem numRead_len (l : Bs) (t : Bs) (n : Nat) (h : numRead l = some (t, n)) : n ≤ l.length ∧ t.length ≤ 4 := by
  unfold numRead at h
  split at h
  · cases h
  · rename_i c l
    split at h
    · split at h
      · have := numTail_len _ _ _ _ h
        simp at this ⊢; omega
      · rename_i x l'
        split at h
        · obtain ⟨r, hr, he⟩ := Option.map_eq_some_iff.1 h
          injection he with h1 h2
          have := numTail_len _ _ _ _ hr
          rw [← h1, ← h2]; simp only [List.length_cons]; omega
        · obtain ⟨r, hr, he⟩ := Option.map_eq_some_iff.1 h
          injection he with h1 h2
          have := numTail_len _ _ _ _ hr
          rw [← h1, ← h2]; simp only [List.length_cons] at this ⊢; omega
    · cases h
theorem refRead_len (attr : Bool) (l : Bs) : (refRead attr l).2 ≤ l.length ∧ (refRead attr l).1.length ≤ 8 * ((refRead attr l).2 + 1) := by
  have hl := longest_le l
  have ht : (38 :: l.take (longest l)).length ≤ 8 * (longest l + 1) := by simp only [List.length_cons, List.length_take]; omega
  unfold refRead
  split
  · rename_i r hr
    have := numRead_len l r.1 r.2 hr
    omega
  · split
    · exact ⟨hl, ht⟩
    · rename_i a b _
      split
      · exact ⟨hl, ht⟩
      · refine ⟨hl, ?_⟩
        have := textB_size a b
        show (toL (Q.textB a b)).length ≤ _
        rw [toL_length]; omega
theorem decode_len (attr : Bool) : ∀ (n : Nat) (l : Bs), l.length ≤ n → (decode attr l).length ≤ 8 * l.length := by
  intro n
  induction n with
  | zero =>
    intro l h
    have : l = [] := List.eq_nil_of_length_eq_zero (by omega)
    subst this; rw [decode_nil]; simp
  | succ n ih =>
    intro l h
    cases l with
    | nil => rw [decode_nil]; simp
    | cons c l =>
      simp only [List.length_cons] at h
      rw [decode_cons]
      split
      · have h1 := refRead_len attr l
        have h2 := ih (l.drop (refRead attr l).2) (by rw [List.length_drop]; omega)
        rw [List.length_append, List.length_cons]
        rw [List.length_drop] at h2
        omega
      · have := ih l (by omega)
        simp only [List.length_cons]; omega
end Go.Proofs.YtfhjfidkcdcjnaaDoor.Fl

namespace Go.Proofs.YtfhjfidkcdcjnaaDoor.Q
open Go.RowKit Go.Proofs.YtfhjfidkcdcjnaaDoorW.PrintWords Go.Proofs.YtfhjfidkcdcjnaaDoorW.PrintLast Go.Proofs.YtfhjfidkcdcjnaaDoorW.PrintMore
attribute [local go_sem] max2_int min2_int max_two min_two max_three min_three max_four min_four   -- for this text's walks alone
set_option linter.unusedVariables false
set_option linter.unusedSimpArgs false

/-- A state of type 50 at block g of W; what its slices lead to came in by w0. -/
def IsS50 (w0 W : World) (g : Nat) (f0 : ByteArray) (f1 : Int) : Prop := W.heap[g]? = some (.cells #[.string f0, .int .i64 f1] 50 (0, 0)) ∧ w0.heap.size ≤ g
theorem IsS50.grown {w0 W : World} {g : Nat} {f0 : ByteArray} {f1 : Int} {W1 : World} {row : Option Nat} (h : IsS50 w0 W g f0 f1) (hw : W.grownBy W1 row) (hne : some g ≠ row) : IsS50 w0 W1 g f0 f1 := by
  obtain ⟨hb, hg⟩ := h
  exact ⟨blk_grown hb hw hne, hg⟩
theorem IsS50.own_neN {w0 W : World} {g : Nat} {f0 : ByteArray} {f1 : Int} {α : Type} {d : Kd α} {e : Nat} {base : Nat} {ok : Nat → Prop} {v : Value} {xs : List α} (h : IsS50 w0 W g f0 f1) (ho : Kd.N d e W base ok v xs) (ht : e ≠ 50) : some g ≠ v.ownBlock := by
  obtain ⟨hb, hg⟩ := h
  exact Kd.N_ne ho hb ht
theorem IsS50.fresh {w0 W : World} {g : Nat} {f0 : ByteArray} {f1 : Int} (h : IsS50 w0 W g f0 f1) : ∀ k, W.heap.size ≤ k → k ≠ g := by
  obtain ⟨hb, hg⟩ := h
  exact Kd.freshB hb
theorem IsS50.kept {w0 W : World} {g : Nat} {f0 : ByteArray} {f1 : Int} {W1 : World} {S : Nat → Prop} (h : IsS50 w0 W g f0 f1) (hk : Kept W W1 S) (hne : ¬ S g) : IsS50 w0 W1 g f0 f1 := by
  obtain ⟨hb, hg⟩ := h
  exact ⟨blk_kept hb hk hne, hg⟩
theorem IsS50.below {w0 W : World} {g : Nat} {f0 : ByteArray} {f1 : Int} {W1 : World} (h : IsS50 w0 W g f0 f1) (hw : Below W.heap.size W W1) : IsS50 w0 W1 g f0 f1 := h.grown (grown_of_below hw none) (by simp)
theorem IsS50.alloc {w0 W : World} {g : Nat} {f0 : ByteArray} {f1 : Int} (h : IsS50 w0 W g f0 f1) (o : Obj) : IsS50 w0 (W.alloc o) g f0 f1 := h.below (below_alloc (Below.refl _ _) o)
theorem IsS50.drewN {w0 W : World} {g : Nat} {f0 : ByteArray} {f1 : Int} (h : IsS50 w0 W g f0 f1) (m : Nat) : IsS50 w0 (W.drewN m) g f0 f1 := h
theorem IsS50.drew {w0 W : World} {g : Nat} {f0 : ByteArray} {f1 : Int} (h : IsS50 w0 W g f0 f1) : IsS50 w0 W.drew g f0 f1 := h
theorem IsS50.at_ {w0 W : World} {g : Nat} {f0 : ByteArray} {f1 : Int} {w' : World} {m : Nat} (hq : W.drewN m = w') (h : IsS50 w0 W g f0 f1) : IsS50 w0 w' g f0 f1 := by subst hq; exact IsS50.drewN h m
theorem IsS50.apart {w0 W : World} {g : Nat} {f0 : ByteArray} {f1 : Int} {α : Type} {d : Kd α} {e : Nat} {base : Nat} {ok : Nat → Prop} {v : Value} {xs : List α} (h : IsS50 w0 W g f0 f1) (ho : d.R e W base ok v xs) (ht : ∀ q, q ∈ e :: d.E → q ≠ 50) : d.R e W base (fun k => ok k ∧ k ≠ g) v xs := by
  obtain ⟨hb, hg⟩ := h
  exact Kd.R_types ho hb ht
theorem IsS50.own_ne {w0 W : World} {g : Nat} {f0 : ByteArray} {f1 : Int} {α : Type} {d : Kd α} {e : Nat} {base : Nat} {ok : Nat → Prop} {v : Value} {xs : List α} (h : IsS50 w0 W g f0 f1) (ho : d.R e W base ok v xs) (ht : e ≠ 50) : some g ≠ v.ownBlock := by
  obtain ⟨hb, hg⟩ := h
  exact Kd.R_ne ho hb ht
theorem IsS50.apartQ {w0 W : World} {g : Nat} {f0 : ByteArray} {f1 : Int} {α : Type} {d : Kd α} {e : Nat} {base : Nat} {ok : Nat → Prop} {v : Value} {xs : List α} (h : IsS50 w0 W g f0 f1) (ho : d.Q e W base ok v xs) (ht : ∀ q, q ∈ e :: d.E → q ≠ 50) : d.Q e W base (fun k => ok k ∧ k ≠ g) v xs := by
  obtain ⟨hb, hg⟩ := h
  exact Kd.Q_types ho hb ht
theorem IsS50.own_neQ {w0 W : World} {g : Nat} {f0 : ByteArray} {f1 : Int} {α : Type} {d : Kd α} {e : Nat} {base : Nat} {ok : Nat → Prop} {v : Value} {xs : List α} (h : IsS50 w0 W g f0 f1) (ho : d.Q e W base ok v xs) (ht : e ≠ 50) : some g ≠ v.ownBlock := by
  obtain ⟨hb, hg⟩ := h
  exact Kd.Q_ne ho hb ht
theorem IsS50.apartS {w0 W : World} {g : Nat} {f0 : ByteArray} {f1 : Int} {α : Type} {d : Kd α} {e : Nat} {base : Nat} {ok : Nat → Prop} {v : Value} {xs : List α} (h : IsS50 w0 W g f0 f1) (ho : d.S e W base ok v xs) (ht : ∀ q, q ∈ e :: d.E → q ≠ 50) : d.S e W base (fun k => ok k ∧ k ≠ g) v xs := by
  obtain ⟨hb, hg⟩ := h
  exact Kd.S_types ho hb ht
theorem IsS50.own_neS {w0 W : World} {g : Nat} {f0 : ByteArray} {f1 : Int} {α : Type} {d : Kd α} {e : Nat} {base : Nat} {ok : Nat → Prop} {v : Value} {xs : List α} (h : IsS50 w0 W g f0 f1) (ho : d.S e W base ok v xs) (ht : e ≠ 50) : some g ≠ v.ownBlock := by
  obtain ⟨hb, hg⟩ := h
  exact Kd.S_ne ho hb ht
theorem IsS50.lt {w0 W : World} {g : Nat} {f0 : ByteArray} {f1 : Int} (h : IsS50 w0 W g f0 f1) : g < W.heap.size := by
  obtain ⟨hb, hg⟩ := h
  exact blk_lt hb
theorem IsS50.ge {w0 W : World} {g : Nat} {f0 : ByteArray} {f1 : Int} (h : IsS50 w0 W g f0 f1) : w0.heap.size ≤ g := by
  obtain ⟨hb, hg⟩ := h
  exact hg
theorem IsS50.ne_blk {w0 W : World} {g : Nat} {f0 : ByteArray} {f1 : Int} {a : Nat} {cs : Array Value} {t : TypeId} {fr : Nat × Nat} (h : IsS50 w0 W g f0 f1) (hb2 : W.heap[a]? = some (.cells cs t fr)) (ht : t ≠ 50) : g ≠ a := by
  obtain ⟨hb, hg⟩ := h
  rintro rfl
  rw [hb] at hb2
  injection hb2 with hb2
  injection hb2 with _ ht2
  exact ht ht2.symm
theorem IsS50.far {w0 W : World} {g : Nat} {f0 : ByteArray} {f1 : Int} {p : Addr} (h : IsS50 w0 W g f0 f1) (hne : g ≠ p.block) (u : Value) : IsS50 w0 (W.setCell p u) g f0 f1 := by
  obtain ⟨hb, hg⟩ := h
  exact ⟨blk_far hb hne u, hg⟩
theorem cellS50_0 {W : World} {g : Nat} {f0 : ByteArray} {f1 : Int} (h : W.heap[g]? = some (.cells #[.string f0, .int .i64 f1] 50 (0, 0))) : W.cell? ⟨g, 0, none⟩ = some (.string f0) := (blk_cell h 0).trans rfl
theorem IsS50.set_0 {w0 W : World} {g : Nat} {f0 : ByteArray} {f1 : Int} (h : IsS50 w0 W g f0 f1) (x : ByteArray) : IsS50 w0 (W.setCell ⟨g, 0, none⟩ (.string x)) g x f1 := by
  obtain ⟨hb, hg⟩ := h
  exact ⟨by simpa using blk_set hb 0 (.string x), hg⟩
theorem cellS50_1 {W : World} {g : Nat} {f0 : ByteArray} {f1 : Int} (h : W.heap[g]? = some (.cells #[.string f0, .int .i64 f1] 50 (0, 0))) : W.cell? ⟨g, 1, none⟩ = some (.int .i64 f1) := (blk_cell h 1).trans rfl
theorem IsS50.set_1 {w0 W : World} {g : Nat} {f0 : ByteArray} {f1 : Int} (h : IsS50 w0 W g f0 f1) (x : Int) : IsS50 w0 (W.setCell ⟨g, 1, none⟩ (.int .i64 x)) g f0 x := by
  obtain ⟨hb, hg⟩ := h
  exact ⟨by simpa using blk_set hb 1 (.int .i64 x), hg⟩
theorem IsS50.new (w0 W : World) (f0 : ByteArray) (f1 : Int) (hB : Below w0.heap.size w0 W) : IsS50 w0 (W.alloc (.cells #[.string f0, .int .i64 f1] 50)) W.heap.size f0 f1 := ⟨by simpa using heap_alloc_new W _, hB.size⟩

/-! ### attrs_reader_spaces: function 22 -/
noncomputable def attrs_reader_spaces.l0 : Nat → ByteArray → Int → Option (ByteArray × Int)
  | 0, _, _ => none
  | k + 1, x1000, x1001 => if x1001 < (x1000.size : Int) then (if 0 ≤ x1001 then ((sign_Space.f (bt x1000 x1001)).bind fun t121 => (if t121 = true then (attrs_reader_spaces.l0 k x1000 (wrap64 (x1001 + 1))) else (some (x1000, x1001)))) else (none)) else (some (x1000, x1001))
noncomputable def attrs_reader_spaces.f (k : Nat) (s0_0 : ByteArray) (s0_1 : Int) : Option (ByteArray × Int) := attrs_reader_spaces.l0 k s0_0 s0_1
theorem attrs_reader_spaces.mono_l : ∀ k, (∀ y0 y1, LeO (attrs_reader_spaces.l0 k y0 y1) (attrs_reader_spaces.l0 (k + 1) y0 y1))
  | 0 => fun _ _ r h => by simp [attrs_reader_spaces.l0] at h
  | k + 1 => by
    have ih0 := attrs_reader_spaces.mono_l k
    · intro y0 y1
      unfold attrs_reader_spaces.l0
      repeat' first
      | (with_reducible exact ih0 _ _)
      | (with_reducible exact LeO.refl _)
      | (with_reducible exact LeO.none _)
      | (with_reducible refine LeO.ite ?_ ?_)
      | (with_reducible refine LeO.bind ?_ (fun _ => ?_))
      | exact ih0 _ _
      | exact LeO.none _
      | refine LeO.ite ?_ ?_
      | refine LeO.bind ?_ (fun _ => ?_)
theorem attrs_reader_spaces.mono : ∀ a0 a1 k, LeO (attrs_reader_spaces.f k a0 a1) (attrs_reader_spaces.f (k + 1) a0 a1) := by
  intro a0 a1 k
  have ih0 := attrs_reader_spaces.mono_l k
  unfold attrs_reader_spaces.f
  repeat' first
      | (with_reducible exact ih0 _ _)
      | (with_reducible exact LeO.refl _)
      | (with_reducible exact LeO.none _)
      | (with_reducible refine LeO.ite ?_ ?_)
      | (with_reducible refine LeO.bind ?_ (fun _ => ?_))
      | exact ih0 _ _
      | exact LeO.none _
      | refine LeO.ite ?_ ?_
      | refine LeO.bind ?_ (fun _ => ?_)
set_option maxHeartbeats 8000000 in
set_option maxRecDepth 100000 in
theorem attrs_reader_spaces.calls (k : Nat) (g : Nat) (s0_0 : ByteArray) (s0_1 : Int) (r1 : ByteArray) (r2 : Int) (w0 w : World) (hI : IsS50 w0 w g s0_0 s0_1) (hB : Below w0.heap.size w0 w) (h : attrs_reader_spaces.f k s0_0 s0_1 = some (r1, r2)) :
    Calls Tryd.prog 22 #[.pointer (some ⟨g, 0, none⟩)] w fun e w' => e = .returned (.tuple #[]) ∧ IsS50 w0 w' g r1 r2 ∧ Below w0.heap.size w0 w' ∧ KeepBut w w' g none := by
  have HI0 := Aside0.mk hI
  have HK := Aside0.mk (KeepBut.refl w g none)
  have HL := Aside0.mk hB.size
  clear hI
  have HW0 := Aside0.mk hB.size
  have HB := Aside0.mk hB
  clear hB
  have H : (attrs_reader_spaces.l0 k s0_0 s0_1) = some (r1, r2) := h
  clear h
  have H' := Aside0.mk H
  clear H
  go_enter Tryd.func22, Tryd.ntmps22
  go_wp2
  repeat (go_quiet (fail); try go_wp2)
  go_loopg [] k (fun kq w' => ∃ (x1001_1 : Int), Aside0 (attrs_reader_spaces.l0 kq s0_0 x1001_1 = some (r1, r2)) ∧ Aside0 (kq ≤ k) ∧ Aside0 (IsS50 w0 w' g s0_0 x1001_1) ∧ Aside0 (KeepBut w w' g none) ∧ Aside0 (Below w0.heap.size w0 w'))
  case atStart => exact ⟨(s0_1), H', ⟨Nat.le_refl _⟩, ⟨by repeat (first | (with_reducible first | exact HI0.out | apply IsS50.alloc | apply IsS50.drewN | apply IsS50.drew | apply IsS50.set_0 | apply IsS50.set_1) | exact HI0.out)⟩, ⟨by repeat (first | (with_reducible first | exact HK.out | apply KeepBut.set_ | apply keep_drewN | apply keep_drew | apply keep_alloc) | exact HK.out)⟩, ⟨by repeat (first | (with_reducible first | exact HB.out | apply below_alloc | apply pw_below_drewN | apply below_drew1 | refine below_set ?_ (IsS50.ge HI0.out)) | exact HB.out)⟩⟩
  case round =>
    clear H'
    obtain ⟨x1001_1, HA, HK1, HI0, HK, HB⟩ := hrel
    cases gk with
    | zero => exact absurd HA.out (by simp [attrs_reader_spaces.l0])
    | succ k1 =>
      have H := HA.out
      clear HA
      simp only [attrs_reader_spaces.l0] at H
      by_cases c2 : x1001_1 < (s0_0.size : Int)
      · rw [if_pos c2] at H
        have c2b0 : decide (x1001_1 < (s0_0.size : Int)) = true := decide_eq_true c2
        clear c2
        by_cases c3 : 0 ≤ x1001_1
        · rw [if_pos c3] at H
          have c3b0 : decide (0 ≤ x1001_1) = true := decide_eq_true c3
          clear c3
          replace H := Option.bind_eq_some_iff.mp H
          obtain ⟨t121, A50, H⟩ := H
          replace H : (if t121 = true then (attrs_reader_spaces.l0 k1 s0_0 (wrap64 (x1001_1 + 1))) else (some (s0_0, x1001_1))) = some (r1, r2) := H
          have A5 := Aside0.mk A50
          clear A50
          by_cases c6 : t121 = true
          · subst c6
            have H1 : (attrs_reader_spaces.l0 k1 s0_0 (wrap64 (x1001_1 + 1))) = some (r1, r2) := by rw [if_pos rfl] at H; exact H
            clear H
            have H := H1
            clear H1
            have H' := Aside0.mk H
            clear H
            obtain ⟨HGz7, hgz7⟩ := HI0.out
            have hcz7_0 := cellS50_0 HGz7
            have hcz7_1 := cellS50_1 HGz7
            have hfz7_0 := blk_frozen HGz7 0
            have hfz7_1 := blk_frozen HGz7 1
            clear HGz7 hgz7
            have p4 : 0 ≤ (x1001_1 : Int) := of_decide_eq_true (by first | (with_reducible assumption) | assumption)
            have q4 : x1001_1 < (s0_0.size : Int) := of_decide_eq_true (by first | (with_reducible assumption) | assumption)
            have hx4 := bt_at s0_0 x1001_1
            replace p4 := eq_true p4
            replace q4 := eq_true q4
            go_wp2_with (first | (go_at_call 34; (with_reducible refine (sign_Space.calls (bt s0_0 x1001_1) true _ A5.out).mono ?_); rintro e w' ⟨rfl, ⟨nd, rfl⟩⟩; (try first | exact ⟨rfl, _, World.drewN_drewN _ _ _⟩ | exact ⟨rfl, _, Eq.trans (World.drewN_drewN _ _ _) (congrArg (World.drewN _) (Nat.add_assoc _ _ _))⟩)))
            repeat (go_quiet (first | (go_at_call 34; (with_reducible refine (sign_Space.calls (bt s0_0 x1001_1) true _ A5.out).mono ?_); rintro e w' ⟨rfl, ⟨nd, rfl⟩⟩; (try first | exact ⟨rfl, _, World.drewN_drewN _ _ _⟩ | exact ⟨rfl, _, Eq.trans (World.drewN_drewN _ _ _) (congrArg (World.drewN _) (Nat.add_assoc _ _ _))⟩))); try go_wp2_with (first | (go_at_call 34; (with_reducible refine (sign_Space.calls (bt s0_0 x1001_1) true _ A5.out).mono ?_); rintro e w' ⟨rfl, ⟨nd, rfl⟩⟩; (try first | exact ⟨rfl, _, World.drewN_drewN _ _ _⟩ | exact ⟨rfl, _, Eq.trans (World.drewN_drewN _ _ _) (congrArg (World.drewN _) (Nat.add_assoc _ _ _))⟩))))
            go_roundg k1
            case measure => have := HK1.out; omega
            case rel => exact ⟨(wrap64 (x1001_1 + 1)), H', ⟨by have := HK1.out; omega⟩, ⟨by repeat (first | (with_reducible first | exact HI0.out | apply IsS50.alloc | apply IsS50.drewN | apply IsS50.drew | apply IsS50.set_0 | apply IsS50.set_1) | exact HI0.out)⟩, ⟨by repeat (first | (with_reducible first | exact HK.out | apply KeepBut.set_ | apply keep_drewN | apply keep_drew | apply keep_alloc) | exact HK.out)⟩, ⟨by repeat (first | (with_reducible first | exact HB.out | apply below_alloc | apply pw_below_drewN | apply below_drew1 | refine below_set ?_ (IsS50.ge HI0.out)) | exact HB.out)⟩⟩
          · replace c6 := Bool.eq_false_iff.mpr c6
            subst c6
            have H1 : (some (s0_0, x1001_1)) = some (r1, r2) := by rw [if_neg (show ¬ (false = true) by decide)] at H; exact H
            clear H
            have H := H1
            clear H1
            simp only [Option.some.injEq, Prod.mk.injEq] at H
            obtain ⟨rfl, rfl⟩ := H
            obtain ⟨HGz8, hgz8⟩ := HI0.out
            have hcz8_0 := cellS50_0 HGz8
            have hcz8_1 := cellS50_1 HGz8
            have hfz8_0 := blk_frozen HGz8 0
            have hfz8_1 := blk_frozen HGz8 1
            clear HGz8 hgz8
            have p4 : 0 ≤ (x1001_1 : Int) := of_decide_eq_true (by first | (with_reducible assumption) | assumption)
            have q4 : x1001_1 < (s0_0.size : Int) := of_decide_eq_true (by first | (with_reducible assumption) | assumption)
            have hx4 := bt_at s0_0 x1001_1
            replace p4 := eq_true p4
            replace q4 := eq_true q4
            go_wp2_with (first | (go_at_call 34; (with_reducible refine (sign_Space.calls (bt s0_0 x1001_1) false _ A5.out).mono ?_); rintro e w' ⟨rfl, ⟨nd, rfl⟩⟩; (try first | exact ⟨rfl, _, World.drewN_drewN _ _ _⟩ | exact ⟨rfl, _, Eq.trans (World.drewN_drewN _ _ _) (congrArg (World.drewN _) (Nat.add_assoc _ _ _))⟩)))
            repeat (go_quiet (first | (go_at_call 34; (with_reducible refine (sign_Space.calls (bt s0_0 x1001_1) false _ A5.out).mono ?_); rintro e w' ⟨rfl, ⟨nd, rfl⟩⟩; (try first | exact ⟨rfl, _, World.drewN_drewN _ _ _⟩ | exact ⟨rfl, _, Eq.trans (World.drewN_drewN _ _ _) (congrArg (World.drewN _) (Nat.add_assoc _ _ _))⟩))); try go_wp2_with (first | (go_at_call 34; (with_reducible refine (sign_Space.calls (bt s0_0 x1001_1) false _ A5.out).mono ?_); rintro e w' ⟨rfl, ⟨nd, rfl⟩⟩; (try first | exact ⟨rfl, _, World.drewN_drewN _ _ _⟩ | exact ⟨rfl, _, Eq.trans (World.drewN_drewN _ _ _) (congrArg (World.drewN _) (Nat.add_assoc _ _ _))⟩))))
            first | go_end0 | ((try simp only [Exit.inBlock, Exit.then]); refine bodyPost_ret (results_none rfl _ _ _) rfl ?_)
            exact ⟨by first | rfl | (simp [errW_none, errW_some] <;> rfl) | (simp [*, errW_none, errW_some] <;> rfl), by repeat (first | (with_reducible first | exact HI0.out | apply IsS50.alloc | apply IsS50.drewN | apply IsS50.drew | apply IsS50.set_0 | apply IsS50.set_1) | exact HI0.out), by repeat (first | (with_reducible first | exact HB.out | apply below_alloc | apply pw_below_drewN | apply below_drew1 | refine below_set ?_ (IsS50.ge HI0.out)) | exact HB.out), by repeat (first | (with_reducible first | exact HK.out | apply KeepBut.set_ | apply keep_drewN | apply keep_drew | apply keep_alloc) | exact HK.out)⟩
        · rw [if_neg c3] at H
          exact absurd H (by simp)
      · rw [if_neg c2] at H
        have c2b0 : decide (x1001_1 < (s0_0.size : Int)) = false := decide_eq_false c2
        clear c2
        simp only [Option.some.injEq, Prod.mk.injEq] at H
        obtain ⟨rfl, rfl⟩ := H
        obtain ⟨HGz9, hgz9⟩ := HI0.out
        have hcz9_0 := cellS50_0 HGz9
        have hcz9_1 := cellS50_1 HGz9
        have hfz9_0 := blk_frozen HGz9 0
        have hfz9_1 := blk_frozen HGz9 1
        clear HGz9 hgz9
        go_wp2
        repeat (go_quiet (fail); try go_wp2)
        first | go_end0 | ((try simp only [Exit.inBlock, Exit.then]); refine bodyPost_ret (results_none rfl _ _ _) rfl ?_)
        exact ⟨by first | rfl | (simp [errW_none, errW_some] <;> rfl) | (simp [*, errW_none, errW_some] <;> rfl), by repeat (first | (with_reducible first | exact HI0.out | apply IsS50.alloc | apply IsS50.drewN | apply IsS50.drew | apply IsS50.set_0 | apply IsS50.set_1) | exact HI0.out), by repeat (first | (with_reducible first | exact HB.out | apply below_alloc | apply pw_below_drewN | apply below_drew1 | refine below_set ?_ (IsS50.ge HI0.out)) | exact HB.out), by repeat (first | (with_reducible first | exact HK.out | apply KeepBut.set_ | apply keep_drewN | apply keep_drew | apply keep_alloc) | exact HK.out)⟩

end Go.Proofs.YtfhjfidkcdcjnaaDoor.Q

namespace Go.Proofs.YtfhjfidkcdcjnaaDoor.Q
open Go.RowKit Go.Proofs.YtfhjfidkcdcjnaaDoorW.PrintWords Go.Proofs.YtfhjfidkcdcjnaaDoorW.PrintLast Go.Proofs.YtfhjfidkcdcjnaaDoorW.PrintMore
attribute [local go_sem] max2_int min2_int max_two min_two max_three min_three max_four min_four   -- for this text's walks alone
set_option linter.unusedVariables false
set_option linter.unusedSimpArgs false

/-! ### attrs_reader_is: function 23 -/
noncomputable def attrs_reader_is.f (s0_0 : ByteArray) (s0_1 : Int) (a1 : Int) : Option (Bool × ByteArray × Int) := if s0_1 < (s0_0.size : Int) then (if 0 ≤ s0_1 then (some (((bt s0_0 s0_1) == a1), s0_0, s0_1)) else (none)) else (some (false, s0_0, s0_1))
set_option maxHeartbeats 8000000 in
set_option maxRecDepth 100000 in
theorem attrs_reader_is.calls (g : Nat) (s0_0 : ByteArray) (s0_1 : Int) (a1 : Int) (r1 : Bool) (r2 : ByteArray) (r3 : Int) (w0 w : World) (hI : IsS50 w0 w g s0_0 s0_1) (hB : Below w0.heap.size w0 w) (h : attrs_reader_is.f s0_0 s0_1 a1 = some (r1, r2, r3)) :
    Calls Tryd.prog 23 #[.pointer (some ⟨g, 0, none⟩), .int .u8 a1] w fun e w' => e = .returned (.bool r1) ∧ IsS50 w0 w' g r2 r3 ∧ Below w0.heap.size w0 w' ∧ KeepBut w w' g none := by
  have HI0 := Aside0.mk hI
  have HK := Aside0.mk (KeepBut.refl w g none)
  have HL := Aside0.mk hB.size
  clear hI
  have HW0 := Aside0.mk hB.size
  have HB := Aside0.mk hB
  clear hB
  have H : (if s0_1 < (s0_0.size : Int) then (if 0 ≤ s0_1 then (some (((bt s0_0 s0_1) == a1), s0_0, s0_1)) else (none)) else (some (false, s0_0, s0_1))) = some (r1, r2, r3) := h
  clear h
  by_cases c3 : s0_1 < (s0_0.size : Int)
  · rw [if_pos c3] at H
    have c3b0 : decide (s0_1 < (s0_0.size : Int)) = true := decide_eq_true c3
    clear c3
    by_cases c4 : 0 ≤ s0_1
    · rw [if_pos c4] at H
      have c4b0 : decide (0 ≤ s0_1) = true := decide_eq_true c4
      clear c4
      simp only [Option.some.injEq, Prod.mk.injEq] at H
      obtain ⟨rfl, rfl, rfl⟩ := H
      obtain ⟨HGz6, hgz6⟩ := HI0.out
      have hcz6_0 := cellS50_0 HGz6
      have hcz6_1 := cellS50_1 HGz6
      have hfz6_0 := blk_frozen HGz6 0
      have hfz6_1 := blk_frozen HGz6 1
      clear HGz6 hgz6
      have p5 : 0 ≤ (s0_1 : Int) := of_decide_eq_true (by first | (with_reducible assumption) | assumption)
      have q5 : s0_1 < (s0_0.size : Int) := of_decide_eq_true (by first | (with_reducible assumption) | assumption)
      have hx5 := bt_at s0_0 s0_1
      replace p5 := eq_true p5
      replace q5 := eq_true q5
      go_enter Tryd.func23, Tryd.ntmps23
      go_wp2
      repeat (go_quiet (fail); try go_wp2)
      go_ret
      exact ⟨by first | rfl | (simp [errW_none, errW_some] <;> rfl) | (simp [*, errW_none, errW_some] <;> rfl), by repeat (first | (with_reducible first | exact HI0.out | apply IsS50.alloc | apply IsS50.drewN | apply IsS50.drew | apply IsS50.set_0 | apply IsS50.set_1) | exact HI0.out), by repeat (first | (with_reducible first | exact HB.out | apply below_alloc | apply pw_below_drewN | apply below_drew1 | refine below_set ?_ (IsS50.ge HI0.out)) | exact HB.out), by repeat (first | (with_reducible first | exact HK.out | apply KeepBut.set_ | apply keep_drewN | apply keep_drew | apply keep_alloc) | exact HK.out)⟩
    · rw [if_neg c4] at H
      exact absurd H (by simp)
  · rw [if_neg c3] at H
    have c3b0 : decide (s0_1 < (s0_0.size : Int)) = false := decide_eq_false c3
    clear c3
    simp only [Option.some.injEq, Prod.mk.injEq] at H
    obtain ⟨rfl, rfl, rfl⟩ := H
    obtain ⟨HGz7, hgz7⟩ := HI0.out
    have hcz7_0 := cellS50_0 HGz7
    have hcz7_1 := cellS50_1 HGz7
    have hfz7_0 := blk_frozen HGz7 0
    have hfz7_1 := blk_frozen HGz7 1
    clear HGz7 hgz7
    go_enter Tryd.func23, Tryd.ntmps23
    go_wp2
    repeat (go_quiet (fail); try go_wp2)
    go_ret
    exact ⟨by first | rfl | (simp [errW_none, errW_some] <;> rfl) | (simp [*, errW_none, errW_some] <;> rfl), by repeat (first | (with_reducible first | exact HI0.out | apply IsS50.alloc | apply IsS50.drewN | apply IsS50.drew | apply IsS50.set_0 | apply IsS50.set_1) | exact HI0.out), by repeat (first | (with_reducible first | exact HB.out | apply below_alloc | apply pw_below_drewN | apply below_drew1 | refine below_set ?_ (IsS50.ge HI0.out)) | exact HB.out), by repeat (first | (with_reducible first | exact HK.out | apply KeepBut.set_ | apply keep_drewN | apply keep_drew | apply keep_alloc) | exact HK.out)⟩

end Go.Proofs.YtfhjfidkcdcjnaaDoor.Q

namespace Go.Proofs.YtfhjfidkcdcjnaaDoor.Q
open Go.RowKit Go.Proofs.YtfhjfidkcdcjnaaDoorW.PrintWords Go.Proofs.YtfhjfidkcdcjnaaDoorW.PrintLast Go.Proofs.YtfhjfidkcdcjnaaDoorW.PrintMore
attribute [local go_sem] max2_int min2_int max_two min_two max_three min_three max_four min_four   -- for this text's walks alone
set_option linter.unusedVariables false
set_option linter.unusedSimpArgs false

/-! ### attrs_reader_upTo: function 26 -/
noncomputable def attrs_reader_upTo.l0 : Nat → ByteArray → Int → ByteArray → Int → Option (ByteArray × ByteArray × Int)
  | 0, _, _, _, _ => none
  | k + 1, x1, x5, x1000, x1001 => if x1001 < (x1000.size : Int) then (if 0 ≤ x1001 then ((sign_Space.f (bt x1000 x1001)).bind fun t122 => (if t122 = true then (if 0 ≤ x5 then (if x5 ≤ x1001 then (if x1001 ≤ (x1000.size : Int) then (some (x1000.extract (x5 : Int).toNat (x1001 : Int).toNat, x1000, x1001)) else (none)) else (none)) else (none)) else ((strings_IndexByte.f x1 (bt x1000 x1001)).bind fun t123 => (if t123 ≥ 0 then (if 0 ≤ x5 then (if x5 ≤ x1001 then (if x1001 ≤ (x1000.size : Int) then (some (x1000.extract (x5 : Int).toNat (x1001 : Int).toNat, x1000, x1001)) else (none)) else (none)) else (none)) else (attrs_reader_upTo.l0 k x1 x5 x1000 (wrap64 (x1001 + 1))))))) else (none)) else (if 0 ≤ x5 then (if x5 ≤ x1001 then (if x1001 ≤ (x1000.size : Int) then (some (x1000.extract (x5 : Int).toNat (x1001 : Int).toNat, x1000, x1001)) else (none)) else (none)) else (none))
noncomputable def attrs_reader_upTo.f (k : Nat) (s0_0 : ByteArray) (s0_1 : Int) (a1 : ByteArray) : Option (ByteArray × ByteArray × Int) := attrs_reader_upTo.l0 k a1 s0_1 s0_0 (wrap64 (s0_1 + 1))
theorem attrs_reader_upTo.mono_l : ∀ k, (∀ y0 y1 y2 y3, LeO (attrs_reader_upTo.l0 k y0 y1 y2 y3) (attrs_reader_upTo.l0 (k + 1) y0 y1 y2 y3))
  | 0 => fun _ _ _ _ r h => by simp [attrs_reader_upTo.l0] at h
  | k + 1 => by
    have ih0 := attrs_reader_upTo.mono_l k
    · intro y0 y1 y2 y3
      unfold attrs_reader_upTo.l0
      repeat' first
      | (with_reducible exact ih0 _ _ _ _)
      | (with_reducible exact LeO.refl _)
      | (with_reducible exact LeO.none _)
      | (with_reducible refine LeO.ite ?_ ?_)
      | (with_reducible refine LeO.bind ?_ (fun _ => ?_))
      | exact ih0 _ _ _ _
      | exact LeO.none _
      | refine LeO.ite ?_ ?_
      | refine LeO.bind ?_ (fun _ => ?_)
theorem attrs_reader_upTo.mono : ∀ a0 a1 a2 k, LeO (attrs_reader_upTo.f k a0 a1 a2) (attrs_reader_upTo.f (k + 1) a0 a1 a2) := by
  intro a0 a1 a2 k
  have ih0 := attrs_reader_upTo.mono_l k
  unfold attrs_reader_upTo.f
  repeat' first
      | (with_reducible exact ih0 _ _ _ _)
      | (with_reducible exact LeO.refl _)
      | (with_reducible exact LeO.none _)
      | (with_reducible refine LeO.ite ?_ ?_)
      | (with_reducible refine LeO.bind ?_ (fun _ => ?_))
      | exact ih0 _ _ _ _
      | exact LeO.none _
      | refine LeO.ite ?_ ?_
      | refine LeO.bind ?_ (fun _ => ?_)
set_option maxHeartbeats 8000000 in
set_option maxRecDepth 100000 in
theorem attrs_reader_upTo.calls (k : Nat) (g : Nat) (s0_0 : ByteArray) (s0_1 : Int) (a1 : ByteArray) (r1 : ByteArray) (r2 : ByteArray) (r3 : Int) (w0 w : World) (hI : IsS50 w0 w g s0_0 s0_1) (hB : Below w0.heap.size w0 w) (h : attrs_reader_upTo.f k s0_0 s0_1 a1 = some (r1, r2, r3)) :
    Calls Tryd.prog 26 #[.pointer (some ⟨g, 0, none⟩), .string a1] w fun e w' => e = .returned (.string r1) ∧ IsS50 w0 w' g r2 r3 ∧ Below w0.heap.size w0 w' ∧ KeepBut w w' g none := by
  have HI0 := Aside0.mk hI
  have HK := Aside0.mk (KeepBut.refl w g none)
  have HL := Aside0.mk hB.size
  clear hI
  have HW0 := Aside0.mk hB.size
  have HB := Aside0.mk hB
  clear hB
  have H : (attrs_reader_upTo.l0 k a1 s0_1 s0_0 (wrap64 (s0_1 + 1))) = some (r1, r2, r3) := h
  clear h
  have H' := Aside0.mk H
  clear H
  obtain ⟨HGz3, hgz3⟩ := HI0.out
  have hcz3_0 := cellS50_0 HGz3
  have hcz3_1 := cellS50_1 HGz3
  have hfz3_0 := blk_frozen HGz3 0
  have hfz3_1 := blk_frozen HGz3 1
  clear HGz3 hgz3
  go_enter Tryd.func26, Tryd.ntmps26
  go_wp2
  repeat (go_quiet (fail); try go_wp2)
  go_loopg [] k (fun kq w' => ∃ (x1001_1 : Int), Aside0 (attrs_reader_upTo.l0 kq a1 s0_1 s0_0 x1001_1 = some (r1, r2, r3)) ∧ Aside0 (kq ≤ k) ∧ Aside0 (IsS50 w0 w' g s0_0 x1001_1) ∧ Aside0 (KeepBut w w' g none) ∧ Aside0 (Below w0.heap.size w0 w'))
  case atStart => exact ⟨(wrap64 (s0_1 + 1)), H', ⟨Nat.le_refl _⟩, ⟨by repeat (first | (with_reducible first | exact HI0.out | apply IsS50.alloc | apply IsS50.drewN | apply IsS50.drew | apply IsS50.set_0 | apply IsS50.set_1) | exact HI0.out)⟩, ⟨by repeat (first | (with_reducible first | exact HK.out | apply KeepBut.set_ | apply keep_drewN | apply keep_drew | apply keep_alloc) | exact HK.out)⟩, ⟨by repeat (first | (with_reducible first | exact HB.out | apply below_alloc | apply pw_below_drewN | apply below_drew1 | refine below_set ?_ (IsS50.ge HI0.out)) | exact HB.out)⟩⟩
  case round =>
    clear H'
    try clear c2
    try clear p2
    try clear hcz3_0
    try clear hcz3_1
    try clear hfz3_0
    try clear hfz3_1
    obtain ⟨x1001_1, HA, HK1, HI0, HK, HB⟩ := hrel
    cases gk with
    | zero => exact absurd HA.out (by simp [attrs_reader_upTo.l0])
    | succ k1 =>
      have H := HA.out
      clear HA
      simp only [attrs_reader_upTo.l0] at H
      by_cases c4 : x1001_1 < (s0_0.size : Int)
      · rw [if_pos c4] at H
        have c4b0 : decide (x1001_1 < (s0_0.size : Int)) = true := decide_eq_true c4
        clear c4
        by_cases c5 : 0 ≤ x1001_1
        · rw [if_pos c5] at H
          have c5b0 : decide (0 ≤ x1001_1) = true := decide_eq_true c5
          clear c5
          replace H := Option.bind_eq_some_iff.mp H
          obtain ⟨t122, A70, H⟩ := H
          replace H : (if t122 = true then (if 0 ≤ s0_1 then (if s0_1 ≤ x1001_1 then (if x1001_1 ≤ (s0_0.size : Int) then (some (s0_0.extract (s0_1 : Int).toNat (x1001_1 : Int).toNat, s0_0, x1001_1)) else (none)) else (none)) else (none)) else ((strings_IndexByte.f a1 (bt s0_0 x1001_1)).bind fun t123 => (if t123 ≥ 0 then (if 0 ≤ s0_1 then (if s0_1 ≤ x1001_1 then (if x1001_1 ≤ (s0_0.size : Int) then (some (s0_0.extract (s0_1 : Int).toNat (x1001_1 : Int).toNat, s0_0, x1001_1)) else (none)) else (none)) else (none)) else (attrs_reader_upTo.l0 k1 a1 s0_1 s0_0 (wrap64 (x1001_1 + 1)))))) = some (r1, r2, r3) := H
          have A7 := Aside0.mk A70
          clear A70
          by_cases c8 : t122 = true
          · subst c8
            have H1 : (if 0 ≤ s0_1 then (if s0_1 ≤ x1001_1 then (if x1001_1 ≤ (s0_0.size : Int) then (some (s0_0.extract (s0_1 : Int).toNat (x1001_1 : Int).toNat, s0_0, x1001_1)) else (none)) else (none)) else (none)) = some (r1, r2, r3) := by rw [if_pos rfl] at H; exact H
            clear H
            have H := H1
            clear H1
            by_cases c9 : 0 ≤ s0_1
            · rw [if_pos c9] at H
              have c9b0 := eq_true c9
              have c9b1 : decide (0 ≤ s0_1) = true := decide_eq_true c9
              clear c9
              by_cases c10 : s0_1 ≤ x1001_1
              · rw [if_pos c10] at H
                have c10b0 := eq_true c10
                have c10b1 : decide (s0_1 ≤ x1001_1) = true := decide_eq_true c10
                clear c10
                by_cases c11 : x1001_1 ≤ (s0_0.size : Int)
                · rw [if_pos c11] at H
                  have c11b0 := eq_true c11
                  have c11b1 : decide (x1001_1 ≤ (s0_0.size : Int)) = true := decide_eq_true c11
                  clear c11
                  simp only [Option.some.injEq, Prod.mk.injEq] at H
                  obtain ⟨rfl, rfl, rfl⟩ := H
                  obtain ⟨HGz12, hgz12⟩ := HI0.out
                  have hcz12_0 := cellS50_0 HGz12
                  have hcz12_1 := cellS50_1 HGz12
                  have hfz12_0 := blk_frozen HGz12 0
                  have hfz12_1 := blk_frozen HGz12 1
                  clear HGz12 hgz12
                  have p6 : 0 ≤ (x1001_1 : Int) := of_decide_eq_true (by first | (with_reducible assumption) | assumption)
                  have q6 : x1001_1 < (s0_0.size : Int) := of_decide_eq_true (by first | (with_reducible assumption) | assumption)
                  have hx6 := bt_at s0_0 x1001_1
                  replace p6 := eq_true p6
                  replace q6 := eq_true q6
                  go_wp2_with (first | (go_at_call 34; (with_reducible refine (sign_Space.calls (bt s0_0 x1001_1) true _ A7.out).mono ?_); rintro e w' ⟨rfl, ⟨nd, rfl⟩⟩; (try first | exact ⟨rfl, _, World.drewN_drewN _ _ _⟩ | exact ⟨rfl, _, Eq.trans (World.drewN_drewN _ _ _) (congrArg (World.drewN _) (Nat.add_assoc _ _ _))⟩)))
                  repeat (go_quiet (first | (go_at_call 34; (with_reducible refine (sign_Space.calls (bt s0_0 x1001_1) true _ A7.out).mono ?_); rintro e w' ⟨rfl, ⟨nd, rfl⟩⟩; (try first | exact ⟨rfl, _, World.drewN_drewN _ _ _⟩ | exact ⟨rfl, _, Eq.trans (World.drewN_drewN _ _ _) (congrArg (World.drewN _) (Nat.add_assoc _ _ _))⟩))); try go_wp2_with (first | (go_at_call 34; (with_reducible refine (sign_Space.calls (bt s0_0 x1001_1) true _ A7.out).mono ?_); rintro e w' ⟨rfl, ⟨nd, rfl⟩⟩; (try first | exact ⟨rfl, _, World.drewN_drewN _ _ _⟩ | exact ⟨rfl, _, Eq.trans (World.drewN_drewN _ _ _) (congrArg (World.drewN _) (Nat.add_assoc _ _ _))⟩))))
                  go_ret
                  exact ⟨by first | rfl | (simp [errW_none, errW_some] <;> rfl) | (simp [*, errW_none, errW_some] <;> rfl), by repeat (first | (with_reducible first | exact HI0.out | apply IsS50.alloc | apply IsS50.drewN | apply IsS50.drew | apply IsS50.set_0 | apply IsS50.set_1) | exact HI0.out), by repeat (first | (with_reducible first | exact HB.out | apply below_alloc | apply pw_below_drewN | apply below_drew1 | refine below_set ?_ (IsS50.ge HI0.out)) | exact HB.out), by repeat (first | (with_reducible first | exact HK.out | apply KeepBut.set_ | apply keep_drewN | apply keep_drew | apply keep_alloc) | exact HK.out)⟩
                · rw [if_neg c11] at H
                  exact absurd H (by simp)
              · rw [if_neg c10] at H
                exact absurd H (by simp)
            · rw [if_neg c9] at H
              exact absurd H (by simp)
          · replace c8 := Bool.eq_false_iff.mpr c8
            subst c8
            have H1 : ((strings_IndexByte.f a1 (bt s0_0 x1001_1)).bind fun t123 => (if t123 ≥ 0 then (if 0 ≤ s0_1 then (if s0_1 ≤ x1001_1 then (if x1001_1 ≤ (s0_0.size : Int) then (some (s0_0.extract (s0_1 : Int).toNat (x1001_1 : Int).toNat, s0_0, x1001_1)) else (none)) else (none)) else (none)) else (attrs_reader_upTo.l0 k1 a1 s0_1 s0_0 (wrap64 (x1001_1 + 1))))) = some (r1, r2, r3) := by rw [if_neg (show ¬ (false = true) by decide)] at H; exact H
            clear H
            have H := H1
            clear H1
            replace H := Option.bind_eq_some_iff.mp H
            obtain ⟨t123, A130, H⟩ := H
            replace H : (if t123 ≥ 0 then (if 0 ≤ s0_1 then (if s0_1 ≤ x1001_1 then (if x1001_1 ≤ (s0_0.size : Int) then (some (s0_0.extract (s0_1 : Int).toNat (x1001_1 : Int).toNat, s0_0, x1001_1)) else (none)) else (none)) else (none)) else (attrs_reader_upTo.l0 k1 a1 s0_1 s0_0 (wrap64 (x1001_1 + 1)))) = some (r1, r2, r3) := H
            have A13 := Aside0.mk A130
            clear A130
            by_cases c14 : t123 ≥ 0
            · rw [if_pos c14] at H
              have c14b0 : decide (0 ≤ t123) = true := decide_eq_true c14
              clear c14
              by_cases c15 : 0 ≤ s0_1
              · rw [if_pos c15] at H
                have c15b0 := eq_true c15
                have c15b1 : decide (0 ≤ s0_1) = true := decide_eq_true c15
                clear c15
                by_cases c16 : s0_1 ≤ x1001_1
                · rw [if_pos c16] at H
                  have c16b0 := eq_true c16
                  have c16b1 : decide (s0_1 ≤ x1001_1) = true := decide_eq_true c16
                  clear c16
                  by_cases c17 : x1001_1 ≤ (s0_0.size : Int)
                  · rw [if_pos c17] at H
                    have c17b0 := eq_true c17
                    have c17b1 : decide (x1001_1 ≤ (s0_0.size : Int)) = true := decide_eq_true c17
                    clear c17
                    simp only [Option.some.injEq, Prod.mk.injEq] at H
                    obtain ⟨rfl, rfl, rfl⟩ := H
                    obtain ⟨HGz18, hgz18⟩ := HI0.out
                    have hcz18_0 := cellS50_0 HGz18
                    have hcz18_1 := cellS50_1 HGz18
                    have hfz18_0 := blk_frozen HGz18 0
                    have hfz18_1 := blk_frozen HGz18 1
                    clear HGz18 hgz18
                    have p6 : 0 ≤ (x1001_1 : Int) := of_decide_eq_true (by first | (with_reducible assumption) | assumption)
                    have q6 : x1001_1 < (s0_0.size : Int) := of_decide_eq_true (by first | (with_reducible assumption) | assumption)
                    have hx6 := bt_at s0_0 x1001_1
                    replace p6 := eq_true p6
                    replace q6 := eq_true q6
                    go_wp2_with (first | (go_at_call 34; (with_reducible refine (sign_Space.calls (bt s0_0 x1001_1) false _ A7.out).mono ?_); rintro e w' ⟨rfl, ⟨nd, rfl⟩⟩; (try first | exact ⟨rfl, _, World.drewN_drewN _ _ _⟩ | exact ⟨rfl, _, Eq.trans (World.drewN_drewN _ _ _) (congrArg (World.drewN _) (Nat.add_assoc _ _ _))⟩)) | (go_at_call 37; (with_reducible refine (strings_IndexByte.calls a1 (bt s0_0 x1001_1) t123 _ A13.out).mono ?_); rintro e w' ⟨rfl, ⟨nd, rfl⟩⟩; (try first | exact ⟨rfl, _, World.drewN_drewN _ _ _⟩ | exact ⟨rfl, _, Eq.trans (World.drewN_drewN _ _ _) (congrArg (World.drewN _) (Nat.add_assoc _ _ _))⟩)))
                    repeat (go_quiet (first | (go_at_call 34; (with_reducible refine (sign_Space.calls (bt s0_0 x1001_1) false _ A7.out).mono ?_); rintro e w' ⟨rfl, ⟨nd, rfl⟩⟩; (try first | exact ⟨rfl, _, World.drewN_drewN _ _ _⟩ | exact ⟨rfl, _, Eq.trans (World.drewN_drewN _ _ _) (congrArg (World.drewN _) (Nat.add_assoc _ _ _))⟩)) | (go_at_call 37; (with_reducible refine (strings_IndexByte.calls a1 (bt s0_0 x1001_1) t123 _ A13.out).mono ?_); rintro e w' ⟨rfl, ⟨nd, rfl⟩⟩; (try first | exact ⟨rfl, _, World.drewN_drewN _ _ _⟩ | exact ⟨rfl, _, Eq.trans (World.drewN_drewN _ _ _) (congrArg (World.drewN _) (Nat.add_assoc _ _ _))⟩))); try go_wp2_with (first | (go_at_call 34; (with_reducible refine (sign_Space.calls (bt s0_0 x1001_1) false _ A7.out).mono ?_); rintro e w' ⟨rfl, ⟨nd, rfl⟩⟩; (try first | exact ⟨rfl, _, World.drewN_drewN _ _ _⟩ | exact ⟨rfl, _, Eq.trans (World.drewN_drewN _ _ _) (congrArg (World.drewN _) (Nat.add_assoc _ _ _))⟩)) | (go_at_call 37; (with_reducible refine (strings_IndexByte.calls a1 (bt s0_0 x1001_1) t123 _ A13.out).mono ?_); rintro e w' ⟨rfl, ⟨nd, rfl⟩⟩; (try first | exact ⟨rfl, _, World.drewN_drewN _ _ _⟩ | exact ⟨rfl, _, Eq.trans (World.drewN_drewN _ _ _) (congrArg (World.drewN _) (Nat.add_assoc _ _ _))⟩))))
                    go_ret
                    exact ⟨by first | rfl | (simp [errW_none, errW_some] <;> rfl) | (simp [*, errW_none, errW_some] <;> rfl), by repeat (first | (with_reducible first | exact HI0.out | apply IsS50.alloc | apply IsS50.drewN | apply IsS50.drew | apply IsS50.set_0 | apply IsS50.set_1) | exact HI0.out), by repeat (first | (with_reducible first | exact HB.out | apply below_alloc | apply pw_below_drewN | apply below_drew1 | refine below_set ?_ (IsS50.ge HI0.out)) | exact HB.out), by repeat (first | (with_reducible first | exact HK.out | apply KeepBut.set_ | apply keep_drewN | apply keep_drew | apply keep_alloc) | exact HK.out)⟩
                  · rw [if_neg c17] at H
                    exact absurd H (by simp)
                · rw [if_neg c16] at H
                  exact absurd H (by simp)
              · rw [if_neg c15] at H
                exact absurd H (by simp)
            · rw [if_neg c14] at H
              have c14b0 : decide (0 ≤ t123) = false := decide_eq_false c14
              clear c14
              have H' := Aside0.mk H
              clear H
              obtain ⟨HGz19, hgz19⟩ := HI0.out
              have hcz19_0 := cellS50_0 HGz19
              have hcz19_1 := cellS50_1 HGz19
              have hfz19_0 := blk_frozen HGz19 0
              have hfz19_1 := blk_frozen HGz19 1
              clear HGz19 hgz19
              have p6 : 0 ≤ (x1001_1 : Int) := of_decide_eq_true (by first | (with_reducible assumption) | assumption)
              have q6 : x1001_1 < (s0_0.size : Int) := of_decide_eq_true (by first | (with_reducible assumption) | assumption)
              have hx6 := bt_at s0_0 x1001_1
              replace p6 := eq_true p6
              replace q6 := eq_true q6
              go_wp2_with (first | (go_at_call 34; (with_reducible refine (sign_Space.calls (bt s0_0 x1001_1) false _ A7.out).mono ?_); rintro e w' ⟨rfl, ⟨nd, rfl⟩⟩; (try first | exact ⟨rfl, _, World.drewN_drewN _ _ _⟩ | exact ⟨rfl, _, Eq.trans (World.drewN_drewN _ _ _) (congrArg (World.drewN _) (Nat.add_assoc _ _ _))⟩)) | (go_at_call 37; (with_reducible refine (strings_IndexByte.calls a1 (bt s0_0 x1001_1) t123 _ A13.out).mono ?_); rintro e w' ⟨rfl, ⟨nd, rfl⟩⟩; (try first | exact ⟨rfl, _, World.drewN_drewN _ _ _⟩ | exact ⟨rfl, _, Eq.trans (World.drewN_drewN _ _ _) (congrArg (World.drewN _) (Nat.add_assoc _ _ _))⟩)))
              repeat (go_quiet (first | (go_at_call 34; (with_reducible refine (sign_Space.calls (bt s0_0 x1001_1) false _ A7.out).mono ?_); rintro e w' ⟨rfl, ⟨nd, rfl⟩⟩; (try first | exact ⟨rfl, _, World.drewN_drewN _ _ _⟩ | exact ⟨rfl, _, Eq.trans (World.drewN_drewN _ _ _) (congrArg (World.drewN _) (Nat.add_assoc _ _ _))⟩)) | (go_at_call 37; (with_reducible refine (strings_IndexByte.calls a1 (bt s0_0 x1001_1) t123 _ A13.out).mono ?_); rintro e w' ⟨rfl, ⟨nd, rfl⟩⟩; (try first | exact ⟨rfl, _, World.drewN_drewN _ _ _⟩ | exact ⟨rfl, _, Eq.trans (World.drewN_drewN _ _ _) (congrArg (World.drewN _) (Nat.add_assoc _ _ _))⟩))); try go_wp2_with (first | (go_at_call 34; (with_reducible refine (sign_Space.calls (bt s0_0 x1001_1) false _ A7.out).mono ?_); rintro e w' ⟨rfl, ⟨nd, rfl⟩⟩; (try first | exact ⟨rfl, _, World.drewN_drewN _ _ _⟩ | exact ⟨rfl, _, Eq.trans (World.drewN_drewN _ _ _) (congrArg (World.drewN _) (Nat.add_assoc _ _ _))⟩)) | (go_at_call 37; (with_reducible refine (strings_IndexByte.calls a1 (bt s0_0 x1001_1) t123 _ A13.out).mono ?_); rintro e w' ⟨rfl, ⟨nd, rfl⟩⟩; (try first | exact ⟨rfl, _, World.drewN_drewN _ _ _⟩ | exact ⟨rfl, _, Eq.trans (World.drewN_drewN _ _ _) (congrArg (World.drewN _) (Nat.add_assoc _ _ _))⟩))))
              go_roundg k1
              case measure => have := HK1.out; omega
              case rel => exact ⟨(wrap64 (x1001_1 + 1)), H', ⟨by have := HK1.out; omega⟩, ⟨by repeat (first | (with_reducible first | exact HI0.out | apply IsS50.alloc | apply IsS50.drewN | apply IsS50.drew | apply IsS50.set_0 | apply IsS50.set_1) | exact HI0.out)⟩, ⟨by repeat (first | (with_reducible first | exact HK.out | apply KeepBut.set_ | apply keep_drewN | apply keep_drew | apply keep_alloc) | exact HK.out)⟩, ⟨by repeat (first | (with_reducible first | exact HB.out | apply below_alloc | apply pw_below_drewN | apply below_drew1 | refine below_set ?_ (IsS50.ge HI0.out)) | exact HB.out)⟩⟩
        · rw [if_neg c5] at H
          exact absurd H (by simp)
      · rw [if_neg c4] at H
        have c4b0 : decide (x1001_1 < (s0_0.size : Int)) = false := decide_eq_false c4
        clear c4
        by_cases c20 : 0 ≤ s0_1
        · rw [if_pos c20] at H
          have c20b0 := eq_true c20
          have c20b1 : decide (0 ≤ s0_1) = true := decide_eq_true c20
          clear c20
          by_cases c21 : s0_1 ≤ x1001_1
          · rw [if_pos c21] at H
            have c21b0 := eq_true c21
            have c21b1 : decide (s0_1 ≤ x1001_1) = true := decide_eq_true c21
            clear c21
            by_cases c22 : x1001_1 ≤ (s0_0.size : Int)
            · rw [if_pos c22] at H
              have c22b0 := eq_true c22
              have c22b1 : decide (x1001_1 ≤ (s0_0.size : Int)) = true := decide_eq_true c22
              clear c22
              simp only [Option.some.injEq, Prod.mk.injEq] at H
              obtain ⟨rfl, rfl, rfl⟩ := H
              obtain ⟨HGz23, hgz23⟩ := HI0.out
              have hcz23_0 := cellS50_0 HGz23
              have hcz23_1 := cellS50_1 HGz23
              have hfz23_0 := blk_frozen HGz23 0
              have hfz23_1 := blk_frozen HGz23 1
              clear HGz23 hgz23
              go_wp2
              repeat (go_quiet (fail); try go_wp2)
              go_ret
              exact ⟨by first | rfl | (simp [errW_none, errW_some] <;> rfl) | (simp [*, errW_none, errW_some] <;> rfl), by repeat (first | (with_reducible first | exact HI0.out | apply IsS50.alloc | apply IsS50.drewN | apply IsS50.drew | apply IsS50.set_0 | apply IsS50.set_1) | exact HI0.out), by repeat (first | (with_reducible first | exact HB.out | apply below_alloc | apply pw_below_drewN | apply below_drew1 | refine below_set ?_ (IsS50.ge HI0.out)) | exact HB.out), by repeat (first | (with_reducible first | exact HK.out | apply KeepBut.set_ | apply keep_drewN | apply keep_drew | apply keep_alloc) | exact HK.out)⟩
            · rw [if_neg c22] at H
              exact absurd H (by simp)
          · rw [if_neg c21] at H
            exact absurd H (by simp)
        · rw [if_neg c20] at H
          exact absurd H (by simp)

end Go.Proofs.YtfhjfidkcdcjnaaDoor.Q

namespace Go.Proofs.YtfhjfidkcdcjnaaDoor.Q
open Go.RowKit Go.Proofs.YtfhjfidkcdcjnaaDoorW.PrintWords Go.Proofs.YtfhjfidkcdcjnaaDoorW.PrintLast Go.Proofs.YtfhjfidkcdcjnaaDoorW.PrintMore
attribute [local go_sem] max2_int min2_int max_two min_two max_three min_three max_four min_four   -- for this text's walks alone
set_option linter.unusedVariables false
set_option linter.unusedSimpArgs false

/-! ### attrs_reader_quoted: function 38 -/
noncomputable def attrs_reader_quoted.f (s0_0 : ByteArray) (s0_1 : Int) : Option (ByteArray × Bool × ByteArray × Int) := if 0 ≤ s0_1 then (if s0_1 < (s0_0.size : Int) then (if 0 ≤ (wrap64 (s0_1 + 1)) then (if (wrap64 (s0_1 + 1)) ≤ (s0_0.size : Int) then ((strings_IndexByte.f (s0_0.extract ((wrap64 (s0_1 + 1)) : Int).toNat s0_0.size) (bt s0_0 s0_1)).bind fun t124 => (if t124 < 0 then (some ((⟨#[]⟩ : ByteArray), false, s0_0, wrap64 (s0_1 + 1))) else (if (wrap64 (s0_1 + 1)) ≤ (wrap64 ((wrap64 (s0_1 + 1)) + t124)) then (if (wrap64 ((wrap64 (s0_1 + 1)) + t124)) ≤ (s0_0.size : Int) then (some (s0_0.extract ((wrap64 (s0_1 + 1)) : Int).toNat ((wrap64 ((wrap64 (s0_1 + 1)) + t124)) : Int).toNat, true, s0_0, wrap64 ((wrap64 (s0_1 + 1)) + (wrap64 (t124 + 1))))) else (none)) else (none)))) else (none)) else (none)) else (none)) else (none)
set_option maxHeartbeats 8000000 in
set_option maxRecDepth 100000 in
theorem attrs_reader_quoted.calls (g : Nat) (s0_0 : ByteArray) (s0_1 : Int) (r1 : ByteArray) (r2 : Bool) (r3 : ByteArray) (r4 : Int) (w0 w : World) (hI : IsS50 w0 w g s0_0 s0_1) (hB : Below w0.heap.size w0 w) (h : attrs_reader_quoted.f s0_0 s0_1 = some (r1, r2, r3, r4)) :
    Calls Tryd.prog 38 #[.pointer (some ⟨g, 0, none⟩)] w fun e w' => e = .returned (.tuple #[.string r1, .bool r2]) ∧ IsS50 w0 w' g r3 r4 ∧ Below w0.heap.size w0 w' ∧ KeepBut w w' g none := by
  have HI0 := Aside0.mk hI
  have HK := Aside0.mk (KeepBut.refl w g none)
  have HL := Aside0.mk hB.size
  clear hI
  have HW0 := Aside0.mk hB.size
  have HB := Aside0.mk hB
  clear hB
  have H : (if 0 ≤ s0_1 then (if s0_1 < (s0_0.size : Int) then (if 0 ≤ (wrap64 (s0_1 + 1)) then (if (wrap64 (s0_1 + 1)) ≤ (s0_0.size : Int) then ((strings_IndexByte.f (s0_0.extract ((wrap64 (s0_1 + 1)) : Int).toNat s0_0.size) (bt s0_0 s0_1)).bind fun t124 => (if t124 < 0 then (some ((⟨#[]⟩ : ByteArray), false, s0_0, wrap64 (s0_1 + 1))) else (if (wrap64 (s0_1 + 1)) ≤ (wrap64 ((wrap64 (s0_1 + 1)) + t124)) then (if (wrap64 ((wrap64 (s0_1 + 1)) + t124)) ≤ (s0_0.size : Int) then (some (s0_0.extract ((wrap64 (s0_1 + 1)) : Int).toNat ((wrap64 ((wrap64 (s0_1 + 1)) + t124)) : Int).toNat, true, s0_0, wrap64 ((wrap64 (s0_1 + 1)) + (wrap64 (t124 + 1))))) else (none)) else (none)))) else (none)) else (none)) else (none)) else (none)) = some (r1, r2, r3, r4) := h
  clear h
  by_cases c2 : 0 ≤ s0_1
  · rw [if_pos c2] at H
    have c2b0 : decide (0 ≤ s0_1) = true := decide_eq_true c2
    clear c2
    by_cases c3 : s0_1 < (s0_0.size : Int)
    · rw [if_pos c3] at H
      have c3b0 : decide (s0_1 < (s0_0.size : Int)) = true := decide_eq_true c3
      clear c3
      obtain ⟨ji5, hji5⟩ : ∃ j_ : Int, (wrap64 (s0_1 + 1)) = j_ := ⟨_, rfl⟩
      replace H : (if 0 ≤ (ji5) then (if (ji5) ≤ (s0_0.size : Int) then ((strings_IndexByte.f (s0_0.extract ((ji5) : Int).toNat s0_0.size) (bt s0_0 s0_1)).bind fun t124 => (if t124 < 0 then (some ((⟨#[]⟩ : ByteArray), false, s0_0, ji5)) else (if (ji5) ≤ (wrap64 ((ji5) + t124)) then (if (wrap64 ((ji5) + t124)) ≤ (s0_0.size : Int) then (some (s0_0.extract ((ji5) : Int).toNat ((wrap64 ((ji5) + t124)) : Int).toNat, true, s0_0, wrap64 ((ji5) + (wrap64 (t124 + 1))))) else (none)) else (none)))) else (none)) else (none)) = some (r1, r2, r3, r4) := by first | (rw [hji5] at H; exact H) | (simp only [hji5] at H ⊢; exact H)
      have hji5w : (IntKind.i64.wrap (s0_1 + 1)) = ji5 := (i64_w _).trans hji5
      by_cases c6 : 0 ≤ (ji5)
      · rw [if_pos c6] at H
        have c6b0 := eq_true c6
        have c6b1 : decide (0 ≤ (ji5)) = true := decide_eq_true c6
        clear c6
        by_cases c7 : (ji5) ≤ (s0_0.size : Int)
        · rw [if_pos c7] at H
          have c7b0 := eq_true c7
          have c7b1 : decide ((ji5) ≤ (s0_0.size : Int)) = true := decide_eq_true c7
          clear c7
          replace H := Option.bind_eq_some_iff.mp H
          obtain ⟨t124, A80, H⟩ := H
          replace H : (if t124 < 0 then (some ((⟨#[]⟩ : ByteArray), false, s0_0, ji5)) else (if (ji5) ≤ (wrap64 ((ji5) + t124)) then (if (wrap64 ((ji5) + t124)) ≤ (s0_0.size : Int) then (some (s0_0.extract ((ji5) : Int).toNat ((wrap64 ((ji5) + t124)) : Int).toNat, true, s0_0, wrap64 ((ji5) + (wrap64 (t124 + 1))))) else (none)) else (none))) = some (r1, r2, r3, r4) := H
          have A8 := Aside0.mk A80
          clear A80
          by_cases c9 : t124 < 0
          · rw [if_pos c9] at H
            have c9b0 : decide (t124 < 0) = true := decide_eq_true c9
            clear c9
            simp only [Option.some.injEq, Prod.mk.injEq] at H
            obtain ⟨rfl, rfl, rfl, rfl⟩ := H
            obtain ⟨HGz10, hgz10⟩ := HI0.out
            have hcz10_0 := cellS50_0 HGz10
            have hcz10_1 := cellS50_1 HGz10
            have hfz10_0 := blk_frozen HGz10 0
            have hfz10_1 := blk_frozen HGz10 1
            clear HGz10 hgz10
            have p4 : 0 ≤ (s0_1 : Int) := of_decide_eq_true (by first | (with_reducible assumption) | assumption)
            have q4 : s0_1 < (s0_0.size : Int) := of_decide_eq_true (by first | (with_reducible assumption) | assumption)
            have hx4 := bt_at s0_0 s0_1
            replace p4 := eq_true p4
            replace q4 := eq_true q4
            go_enter Tryd.func38, Tryd.ntmps38
            go_wp2_with (first | (go_at_call 37; (with_reducible refine (strings_IndexByte.calls (s0_0.extract ((ji5) : Int).toNat s0_0.size) (bt s0_0 s0_1) t124 _ A8.out).mono ?_); rintro e w' ⟨rfl, ⟨nd, rfl⟩⟩; (try first | exact ⟨rfl, _, World.drewN_drewN _ _ _⟩ | exact ⟨rfl, _, Eq.trans (World.drewN_drewN _ _ _) (congrArg (World.drewN _) (Nat.add_assoc _ _ _))⟩)))
            repeat (go_quiet (first | (go_at_call 37; (with_reducible refine (strings_IndexByte.calls (s0_0.extract ((ji5) : Int).toNat s0_0.size) (bt s0_0 s0_1) t124 _ A8.out).mono ?_); rintro e w' ⟨rfl, ⟨nd, rfl⟩⟩; (try first | exact ⟨rfl, _, World.drewN_drewN _ _ _⟩ | exact ⟨rfl, _, Eq.trans (World.drewN_drewN _ _ _) (congrArg (World.drewN _) (Nat.add_assoc _ _ _))⟩))); try go_wp2_with (first | (go_at_call 37; (with_reducible refine (strings_IndexByte.calls (s0_0.extract ((ji5) : Int).toNat s0_0.size) (bt s0_0 s0_1) t124 _ A8.out).mono ?_); rintro e w' ⟨rfl, ⟨nd, rfl⟩⟩; (try first | exact ⟨rfl, _, World.drewN_drewN _ _ _⟩ | exact ⟨rfl, _, Eq.trans (World.drewN_drewN _ _ _) (congrArg (World.drewN _) (Nat.add_assoc _ _ _))⟩))))
            go_ret2
            exact ⟨by first | rfl | (simp [errW_none, errW_some] <;> rfl) | (simp only [← hji5]; first | rfl | (simp [errW_none, errW_some] <;> rfl)) | (simp [*, errW_none, errW_some] <;> rfl), by repeat (first | (with_reducible first | exact HI0.out | apply IsS50.alloc | apply IsS50.drewN | apply IsS50.drew | apply IsS50.set_0 | apply IsS50.set_1) | exact HI0.out), by repeat (first | (with_reducible first | exact HB.out | apply below_alloc | apply pw_below_drewN | apply below_drew1 | refine below_set ?_ (IsS50.ge HI0.out)) | exact HB.out), by repeat (first | (with_reducible first | exact HK.out | apply KeepBut.set_ | apply keep_drewN | apply keep_drew | apply keep_alloc) | exact HK.out)⟩
          · rw [if_neg c9] at H
            have c9b0 : decide (t124 < 0) = false := decide_eq_false c9
            clear c9
            have c11b0 := eq_true (of_decide_eq_true (by first | (with_reducible assumption) | assumption) : 0 ≤ (ji5))
            by_cases c12 : (ji5) ≤ (wrap64 ((ji5) + t124))
            · rw [if_pos c12] at H
              have c12b0 := eq_true c12
              have c12b1 : decide ((ji5) ≤ (wrap64 ((ji5) + t124))) = true := decide_eq_true c12
              by_cases c13 : (wrap64 ((ji5) + t124)) ≤ (s0_0.size : Int)
              · rw [if_pos c13] at H
                have c13b0 := eq_true c13
                have c13b1 : decide ((wrap64 ((ji5) + t124)) ≤ (s0_0.size : Int)) = true := decide_eq_true c13
                simp only [Option.some.injEq, Prod.mk.injEq] at H
                obtain ⟨rfl, rfl, rfl, rfl⟩ := H
                obtain ⟨HGz14, hgz14⟩ := HI0.out
                have hcz14_0 := cellS50_0 HGz14
                have hcz14_1 := cellS50_1 HGz14
                have hfz14_0 := blk_frozen HGz14 0
                have hfz14_1 := blk_frozen HGz14 1
                clear HGz14 hgz14
                have p4 : 0 ≤ (s0_1 : Int) := of_decide_eq_true (by first | (with_reducible assumption) | assumption)
                have q4 : s0_1 < (s0_0.size : Int) := of_decide_eq_true (by first | (with_reducible assumption) | assumption)
                have hx4 := bt_at s0_0 s0_1
                replace p4 := eq_true p4
                replace q4 := eq_true q4
                go_enter Tryd.func38, Tryd.ntmps38
                go_wp2_with (first | (go_at_call 37; (with_reducible refine (strings_IndexByte.calls (s0_0.extract ((ji5) : Int).toNat s0_0.size) (bt s0_0 s0_1) t124 _ A8.out).mono ?_); rintro e w' ⟨rfl, ⟨nd, rfl⟩⟩; (try first | exact ⟨rfl, _, World.drewN_drewN _ _ _⟩ | exact ⟨rfl, _, Eq.trans (World.drewN_drewN _ _ _) (congrArg (World.drewN _) (Nat.add_assoc _ _ _))⟩)))
                repeat (go_quiet (first | (go_at_call 37; (with_reducible refine (strings_IndexByte.calls (s0_0.extract ((ji5) : Int).toNat s0_0.size) (bt s0_0 s0_1) t124 _ A8.out).mono ?_); rintro e w' ⟨rfl, ⟨nd, rfl⟩⟩; (try first | exact ⟨rfl, _, World.drewN_drewN _ _ _⟩ | exact ⟨rfl, _, Eq.trans (World.drewN_drewN _ _ _) (congrArg (World.drewN _) (Nat.add_assoc _ _ _))⟩))); try go_wp2_with (first | (go_at_call 37; (with_reducible refine (strings_IndexByte.calls (s0_0.extract ((ji5) : Int).toNat s0_0.size) (bt s0_0 s0_1) t124 _ A8.out).mono ?_); rintro e w' ⟨rfl, ⟨nd, rfl⟩⟩; (try first | exact ⟨rfl, _, World.drewN_drewN _ _ _⟩ | exact ⟨rfl, _, Eq.trans (World.drewN_drewN _ _ _) (congrArg (World.drewN _) (Nat.add_assoc _ _ _))⟩))))
                go_ret2
                exact ⟨by first | rfl | (simp [errW_none, errW_some] <;> rfl) | (simp only [← hji5]; first | rfl | (simp [errW_none, errW_some] <;> rfl)) | (simp [*, errW_none, errW_some] <;> rfl), by repeat (first | (with_reducible first | exact HI0.out | apply IsS50.alloc | apply IsS50.drewN | apply IsS50.drew | apply IsS50.set_0 | apply IsS50.set_1) | exact HI0.out), by repeat (first | (with_reducible first | exact HB.out | apply below_alloc | apply pw_below_drewN | apply below_drew1 | refine below_set ?_ (IsS50.ge HI0.out)) | exact HB.out), by repeat (first | (with_reducible first | exact HK.out | apply KeepBut.set_ | apply keep_drewN | apply keep_drew | apply keep_alloc) | exact HK.out)⟩
              · rw [if_neg c13] at H
                exact absurd H (by simp)
            · rw [if_neg c12] at H
              exact absurd H (by simp)
        · rw [if_neg c7] at H
          exact absurd H (by simp)
      · rw [if_neg c6] at H
        exact absurd H (by simp)
    · rw [if_neg c3] at H
      exact absurd H (by simp)
  · rw [if_neg c2] at H
    exact absurd H (by simp)

end Go.Proofs.YtfhjfidkcdcjnaaDoor.Q

namespace Go.Proofs.YtfhjfidkcdcjnaaDoor.Q
open Go.RowKit Go.Proofs.YtfhjfidkcdcjnaaDoorW.PrintWords Go.Proofs.YtfhjfidkcdcjnaaDoorW.PrintLast Go.Proofs.YtfhjfidkcdcjnaaDoorW.PrintMore
attribute [local go_sem] max2_int min2_int max_two min_two max_three min_three max_four min_four   -- for this text's walks alone
set_option linter.unusedVariables false
set_option linter.unusedSimpArgs false

/-! ### attrs_reader_value: function 27 -/
noncomputable def attrs_reader_value.j0 : Nat → Bool → ByteArray → Int → Option (ByteArray × Bool × ByteArray × Int)
  | 0, _, _, _ => none
  | k + 1, x18, x1000, x1001 => if x18 = true then ((attrs_reader_quoted.f x1000 x1001).bind fun bt138 => (some (bt138.1, bt138.2.1, bt138.2.2.1, bt138.2.2.2))) else ((attrs_reader_is.f x1000 x1001 62).bind fun bt142 => (if bt142.1 = true then (some ((⟨#[]⟩ : ByteArray), true, bt142.2.1, bt142.2.2)) else (if bt142.2.2 = (bt142.2.1.size : Int) then (some ((⟨#[]⟩ : ByteArray), true, bt142.2.1, bt142.2.2)) else ((attrs_reader_upTo.f k bt142.2.1 bt142.2.2 (⟨#[62]⟩ : ByteArray)).bind fun bt145 => (some (bt145.1, true, bt145.2.1, bt145.2.2))))))
noncomputable def attrs_reader_value.f (k : Nat) (s0_0 : ByteArray) (s0_1 : Int) : Option (ByteArray × Bool × ByteArray × Int) := (attrs_reader_spaces.f k s0_0 s0_1).bind fun bt125 => ((attrs_reader_is.f bt125.1 bt125.2 61).bind fun bt127 => (if bt127.1 = true then ((attrs_reader_spaces.f k bt127.2.1 (wrap64 (bt127.2.2 + 1))).bind fun bt130 => ((attrs_reader_is.f bt130.1 bt130.2 34).bind fun bt132 => (if bt132.1 = true then (attrs_reader_value.j0 k bt132.1 bt132.2.1 bt132.2.2) else ((attrs_reader_is.f bt132.2.1 bt132.2.2 39).bind fun bt135 => (attrs_reader_value.j0 k bt135.1 bt135.2.1 bt135.2.2))))) else (some ((⟨#[]⟩ : ByteArray), true, bt127.2.1, bt127.2.2))))
theorem attrs_reader_value.mono_l : ∀ k, (∀ y0 y1 y2, LeO (attrs_reader_value.j0 k y0 y1 y2) (attrs_reader_value.j0 (k + 1) y0 y1 y2))
  | 0 => fun _ _ _ r h => by simp [attrs_reader_value.j0] at h
  | k + 1 => by
    have ih0 := attrs_reader_value.mono_l k
    · intro y0 y1 y2
      unfold attrs_reader_value.j0
      repeat' first
      | (with_reducible exact ih0 _ _ _)
      | (with_reducible exact attrs_reader_spaces.mono _ _ _)
      | (with_reducible exact attrs_reader_upTo.mono _ _ _ _)
      | (with_reducible exact LeO.refl _)
      | (with_reducible exact LeO.none _)
      | (with_reducible refine LeO.ite ?_ ?_)
      | (with_reducible refine LeO.bind ?_ (fun _ => ?_))
      | exact ih0 _ _ _
      | exact attrs_reader_spaces.mono _ _ _
      | exact attrs_reader_upTo.mono _ _ _ _
      | exact LeO.none _
      | refine LeO.ite ?_ ?_
      | refine LeO.bind ?_ (fun _ => ?_)
theorem attrs_reader_value.mono : ∀ a0 a1 k, LeO (attrs_reader_value.f k a0 a1) (attrs_reader_value.f (k + 1) a0 a1) := by
  intro a0 a1 k
  have ih0 := attrs_reader_value.mono_l k
  unfold attrs_reader_value.f
  repeat' first
      | (with_reducible exact ih0 _ _ _)
      | (with_reducible exact attrs_reader_spaces.mono _ _ _)
      | (with_reducible exact attrs_reader_upTo.mono _ _ _ _)
      | (with_reducible exact LeO.refl _)
      | (with_reducible exact LeO.none _)
      | (with_reducible refine LeO.ite ?_ ?_)
      | (with_reducible refine LeO.bind ?_ (fun _ => ?_))
      | exact ih0 _ _ _
      | exact attrs_reader_spaces.mono _ _ _
      | exact attrs_reader_upTo.mono _ _ _ _
      | exact LeO.none _
      | refine LeO.ite ?_ ?_
      | refine LeO.bind ?_ (fun _ => ?_)
set_option maxHeartbeats 8000000 in
set_option maxRecDepth 100000 in
theorem attrs_reader_value.calls (k : Nat) (g : Nat) (s0_0 : ByteArray) (s0_1 : Int) (r1 : ByteArray) (r2 : Bool) (r3 : ByteArray) (r4 : Int) (w0 w : World) (hI : IsS50 w0 w g s0_0 s0_1) (hB : Below w0.heap.size w0 w) (h : attrs_reader_value.f k s0_0 s0_1 = some (r1, r2, r3, r4)) :
    Calls Tryd.prog 27 #[.pointer (some ⟨g, 0, none⟩)] w fun e w' => e = .returned (.tuple #[.string r1, .bool r2]) ∧ IsS50 w0 w' g r3 r4 ∧ Below w0.heap.size w0 w' ∧ KeepBut w w' g none := by
  have HI0 := Aside0.mk hI
  have HK := Aside0.mk (KeepBut.refl w g none)
  have HL := Aside0.mk hB.size
  clear hI
  have HW0 := Aside0.mk hB.size
  have HB := Aside0.mk hB
  clear hB
  have H : ((attrs_reader_spaces.f k s0_0 s0_1).bind fun bt125 => ((attrs_reader_is.f bt125.1 bt125.2 61).bind fun bt127 => (if bt127.1 = true then ((attrs_reader_spaces.f k bt127.2.1 (wrap64 (bt127.2.2 + 1))).bind fun bt130 => ((attrs_reader_is.f bt130.1 bt130.2 34).bind fun bt132 => (if bt132.1 = true then (attrs_reader_value.j0 k bt132.1 bt132.2.1 bt132.2.2) else ((attrs_reader_is.f bt132.2.1 bt132.2.2 39).bind fun bt135 => (attrs_reader_value.j0 k bt135.1 bt135.2.1 bt135.2.2))))) else (some ((⟨#[]⟩ : ByteArray), true, bt127.2.1, bt127.2.2))))) = some (r1, r2, r3, r4) := h
  clear h
  replace H := Option.bind_eq_some_iff.mp H
  obtain ⟨⟨t125, t126⟩, A20, H⟩ := H
  replace H : ((attrs_reader_is.f t125 t126 61).bind fun bt127 => (if bt127.1 = true then ((attrs_reader_spaces.f k bt127.2.1 (wrap64 (bt127.2.2 + 1))).bind fun bt130 => ((attrs_reader_is.f bt130.1 bt130.2 34).bind fun bt132 => (if bt132.1 = true then (attrs_reader_value.j0 k bt132.1 bt132.2.1 bt132.2.2) else ((attrs_reader_is.f bt132.2.1 bt132.2.2 39).bind fun bt135 => (attrs_reader_value.j0 k bt135.1 bt135.2.1 bt135.2.2))))) else (some ((⟨#[]⟩ : ByteArray), true, bt127.2.1, bt127.2.2)))) = some (r1, r2, r3, r4) := H
  have A2 := Aside0.mk A20
  clear A20
  replace H := Option.bind_eq_some_iff.mp H
  obtain ⟨⟨t127, t128, t129⟩, A30, H⟩ := H
  replace H : (if t127 = true then ((attrs_reader_spaces.f k t128 (wrap64 (t129 + 1))).bind fun bt130 => ((attrs_reader_is.f bt130.1 bt130.2 34).bind fun bt132 => (if bt132.1 = true then (attrs_reader_value.j0 k bt132.1 bt132.2.1 bt132.2.2) else ((attrs_reader_is.f bt132.2.1 bt132.2.2 39).bind fun bt135 => (attrs_reader_value.j0 k bt135.1 bt135.2.1 bt135.2.2))))) else (some ((⟨#[]⟩ : ByteArray), true, t128, t129))) = some (r1, r2, r3, r4) := H
  have A3 := Aside0.mk A30
  clear A30
  by_cases c4 : t127 = true
  · subst c4
    have H1 : ((attrs_reader_spaces.f k t128 (wrap64 (t129 + 1))).bind fun bt130 => ((attrs_reader_is.f bt130.1 bt130.2 34).bind fun bt132 => (if bt132.1 = true then (attrs_reader_value.j0 k bt132.1 bt132.2.1 bt132.2.2) else ((attrs_reader_is.f bt132.2.1 bt132.2.2 39).bind fun bt135 => (attrs_reader_value.j0 k bt135.1 bt135.2.1 bt135.2.2))))) = some (r1, r2, r3, r4) := by rw [if_pos rfl] at H; exact H
    clear H
    have H := H1
    clear H1
    replace H := Option.bind_eq_some_iff.mp H
    obtain ⟨⟨t130, t131⟩, A50, H⟩ := H
    replace H : ((attrs_reader_is.f t130 t131 34).bind fun bt132 => (if bt132.1 = true then (attrs_reader_value.j0 k bt132.1 bt132.2.1 bt132.2.2) else ((attrs_reader_is.f bt132.2.1 bt132.2.2 39).bind fun bt135 => (attrs_reader_value.j0 k bt135.1 bt135.2.1 bt135.2.2)))) = some (r1, r2, r3, r4) := H
    have A5 := Aside0.mk A50
    clear A50
    replace H := Option.bind_eq_some_iff.mp H
    obtain ⟨⟨t132, t133, t134⟩, A60, H⟩ := H
    replace H : (if t132 = true then (attrs_reader_value.j0 k t132 t133 t134) else ((attrs_reader_is.f t133 t134 39).bind fun bt135 => (attrs_reader_value.j0 k bt135.1 bt135.2.1 bt135.2.2))) = some (r1, r2, r3, r4) := H
    have A6 := Aside0.mk A60
    clear A60
    have HC7 := Aside0.mk H
    clear H
    go_enter Tryd.func27, Tryd.ntmps27
    go_upto_if 18 with (first | (go_at_call 22; (with_reducible refine (attrs_reader_spaces.calls k g s0_0 s0_1 t125 t126 w0 _ ?side1 ?side2 A2.out).mono ?_); (case side1 => repeat (first | (with_reducible first | exact HI0.out | apply IsS50.alloc | apply IsS50.drewN | apply IsS50.drew | apply IsS50.set_0 | apply IsS50.set_1) | exact HI0.out)); (case side2 => repeat (first | (with_reducible first | exact HB.out | apply below_alloc | apply pw_below_drewN | apply below_drew1 | refine below_set ?_ (IsS50.ge HI0.out)) | exact HB.out)); rintro e w8 ⟨rfl, hi, hb, hk⟩; have n0_ := Aside0.mk (KeepBut.trans (by repeat (first | (with_reducible first | exact HK.out | apply KeepBut.set_ | apply keep_drewN | apply keep_drew | apply keep_alloc) | exact HK.out)) hk (.inl rfl)); have n1_ := Aside0.mk (hb); have n2_ := Aside0.mk (hi); clear HK; clear HB; clear HI0; have HK := n0_; have HB := n1_; have HI0 := n2_; clear n0_ n1_ n2_; (try clear hb); (try clear hb2); (try clear hk); (try clear hi)) | (go_at_call 23; (with_reducible refine (attrs_reader_is.calls g t125 t126 61 true t128 t129 w0 _ ?side1 ?side2 A3.out).mono ?_); (case side1 => repeat (first | (with_reducible first | exact HI0.out | apply IsS50.alloc | apply IsS50.drewN | apply IsS50.drew | apply IsS50.set_0 | apply IsS50.set_1) | exact HI0.out)); (case side2 => repeat (first | (with_reducible first | exact HB.out | apply below_alloc | apply pw_below_drewN | apply below_drew1 | refine below_set ?_ (IsS50.ge HI0.out)) | exact HB.out)); rintro e w9 ⟨rfl, hi, hb, hk⟩; have n0_ := Aside0.mk (KeepBut.trans (by repeat (first | (with_reducible first | exact HK.out | apply KeepBut.set_ | apply keep_drewN | apply keep_drew | apply keep_alloc) | exact HK.out)) hk (.inl rfl)); have n1_ := Aside0.mk (hb); have n2_ := Aside0.mk (hi); clear HK; clear HB; clear HI0; have HK := n0_; have HB := n1_; have HI0 := n2_; clear n0_ n1_ n2_; (try clear hb); (try clear hb2); (try clear hk); (try clear hi); obtain ⟨HGz10, hgz10⟩ := HI0.out; have hcz10_0 := cellS50_0 HGz10; have hcz10_1 := cellS50_1 HGz10; have hfz10_0 := blk_frozen HGz10 0; have hfz10_1 := blk_frozen HGz10 1; clear HGz10 hgz10) | (go_at_call 22; (with_reducible refine (attrs_reader_spaces.calls k g t128 (wrap64 (t129 + 1)) t130 t131 w0 _ ?side1 ?side2 A5.out).mono ?_); (case side1 => repeat (first | (with_reducible first | exact HI0.out | apply IsS50.alloc | apply IsS50.drewN | apply IsS50.drew | apply IsS50.set_0 | apply IsS50.set_1) | exact HI0.out)); (case side2 => repeat (first | (with_reducible first | exact HB.out | apply below_alloc | apply pw_below_drewN | apply below_drew1 | refine below_set ?_ (IsS50.ge HI0.out)) | exact HB.out)); rintro e w11 ⟨rfl, hi, hb, hk⟩; have n0_ := Aside0.mk (KeepBut.trans (by repeat (first | (with_reducible first | exact HK.out | apply KeepBut.set_ | apply keep_drewN | apply keep_drew | apply keep_alloc) | exact HK.out)) hk (.inl rfl)); have n1_ := Aside0.mk (hb); have n2_ := Aside0.mk (hi); clear HK; clear HB; clear HI0; have HK := n0_; have HB := n1_; have HI0 := n2_; clear n0_ n1_ n2_; (try clear hb); (try clear hb2); (try clear hk); (try clear hi)) | (go_at_call 23; (with_reducible refine (attrs_reader_is.calls g t130 t131 34 t132 t133 t134 w0 _ ?side1 ?side2 A6.out).mono ?_); (case side1 => repeat (first | (with_reducible first | exact HI0.out | apply IsS50.alloc | apply IsS50.drewN | apply IsS50.drew | apply IsS50.set_0 | apply IsS50.set_1) | exact HI0.out)); (case side2 => repeat (first | (with_reducible first | exact HB.out | apply below_alloc | apply pw_below_drewN | apply below_drew1 | refine below_set ?_ (IsS50.ge HI0.out)) | exact HB.out)); rintro e w12 ⟨rfl, hi, hb, hk⟩; have n0_ := Aside0.mk (KeepBut.trans (by repeat (first | (with_reducible first | exact HK.out | apply KeepBut.set_ | apply keep_drewN | apply keep_drew | apply keep_alloc) | exact HK.out)) hk (.inl rfl)); have n1_ := Aside0.mk (hb); have n2_ := Aside0.mk (hi); clear HK; clear HB; clear HI0; have HK := n0_; have HB := n1_; have HI0 := n2_; clear n0_ n1_ n2_; (try clear hb); (try clear hb2); (try clear hk); (try clear hi)))
    repeat (go_quiet (first | (go_at_call 22; (with_reducible refine (attrs_reader_spaces.calls k g s0_0 s0_1 t125 t126 w0 _ ?side1 ?side2 A2.out).mono ?_); (case side1 => repeat (first | (with_reducible first | exact HI0.out | apply IsS50.alloc | apply IsS50.drewN | apply IsS50.drew | apply IsS50.set_0 | apply IsS50.set_1) | exact HI0.out)); (case side2 => repeat (first | (with_reducible first | exact HB.out | apply below_alloc | apply pw_below_drewN | apply below_drew1 | refine below_set ?_ (IsS50.ge HI0.out)) | exact HB.out)); rintro e w8 ⟨rfl, hi, hb, hk⟩; have n0_ := Aside0.mk (KeepBut.trans (by repeat (first | (with_reducible first | exact HK.out | apply KeepBut.set_ | apply keep_drewN | apply keep_drew | apply keep_alloc) | exact HK.out)) hk (.inl rfl)); have n1_ := Aside0.mk (hb); have n2_ := Aside0.mk (hi); clear HK; clear HB; clear HI0; have HK := n0_; have HB := n1_; have HI0 := n2_; clear n0_ n1_ n2_; (try clear hb); (try clear hb2); (try clear hk); (try clear hi)) | (go_at_call 23; (with_reducible refine (attrs_reader_is.calls g t125 t126 61 true t128 t129 w0 _ ?side1 ?side2 A3.out).mono ?_); (case side1 => repeat (first | (with_reducible first | exact HI0.out | apply IsS50.alloc | apply IsS50.drewN | apply IsS50.drew | apply IsS50.set_0 | apply IsS50.set_1) | exact HI0.out)); (case side2 => repeat (first | (with_reducible first | exact HB.out | apply below_alloc | apply pw_below_drewN | apply below_drew1 | refine below_set ?_ (IsS50.ge HI0.out)) | exact HB.out)); rintro e w9 ⟨rfl, hi, hb, hk⟩; have n0_ := Aside0.mk (KeepBut.trans (by repeat (first | (with_reducible first | exact HK.out | apply KeepBut.set_ | apply keep_drewN | apply keep_drew | apply keep_alloc) | exact HK.out)) hk (.inl rfl)); have n1_ := Aside0.mk (hb); have n2_ := Aside0.mk (hi); clear HK; clear HB; clear HI0; have HK := n0_; have HB := n1_; have HI0 := n2_; clear n0_ n1_ n2_; (try clear hb); (try clear hb2); (try clear hk); (try clear hi); obtain ⟨HGz10, hgz10⟩ := HI0.out; have hcz10_0 := cellS50_0 HGz10; have hcz10_1 := cellS50_1 HGz10; have hfz10_0 := blk_frozen HGz10 0; have hfz10_1 := blk_frozen HGz10 1; clear HGz10 hgz10) | (go_at_call 22; (with_reducible refine (attrs_reader_spaces.calls k g t128 (wrap64 (t129 + 1)) t130 t131 w0 _ ?side1 ?side2 A5.out).mono ?_); (case side1 => repeat (first | (with_reducible first | exact HI0.out | apply IsS50.alloc | apply IsS50.drewN | apply IsS50.drew | apply IsS50.set_0 | apply IsS50.set_1) | exact HI0.out)); (case side2 => repeat (first | (with_reducible first | exact HB.out | apply below_alloc | apply pw_below_drewN | apply below_drew1 | refine below_set ?_ (IsS50.ge HI0.out)) | exact HB.out)); rintro e w11 ⟨rfl, hi, hb, hk⟩; have n0_ := Aside0.mk (KeepBut.trans (by repeat (first | (with_reducible first | exact HK.out | apply KeepBut.set_ | apply keep_drewN | apply keep_drew | apply keep_alloc) | exact HK.out)) hk (.inl rfl)); have n1_ := Aside0.mk (hb); have n2_ := Aside0.mk (hi); clear HK; clear HB; clear HI0; have HK := n0_; have HB := n1_; have HI0 := n2_; clear n0_ n1_ n2_; (try clear hb); (try clear hb2); (try clear hk); (try clear hi)) | (go_at_call 23; (with_reducible refine (attrs_reader_is.calls g t130 t131 34 t132 t133 t134 w0 _ ?side1 ?side2 A6.out).mono ?_); (case side1 => repeat (first | (with_reducible first | exact HI0.out | apply IsS50.alloc | apply IsS50.drewN | apply IsS50.drew | apply IsS50.set_0 | apply IsS50.set_1) | exact HI0.out)); (case side2 => repeat (first | (with_reducible first | exact HB.out | apply below_alloc | apply pw_below_drewN | apply below_drew1 | refine below_set ?_ (IsS50.ge HI0.out)) | exact HB.out)); rintro e w12 ⟨rfl, hi, hb, hk⟩; have n0_ := Aside0.mk (KeepBut.trans (by repeat (first | (with_reducible first | exact HK.out | apply KeepBut.set_ | apply keep_drewN | apply keep_drew | apply keep_alloc) | exact HK.out)) hk (.inl rfl)); have n1_ := Aside0.mk (hb); have n2_ := Aside0.mk (hi); clear HK; clear HB; clear HI0; have HK := n0_; have HB := n1_; have HI0 := n2_; clear n0_ n1_ n2_; (try clear hb); (try clear hb2); (try clear hk); (try clear hi))); go_upto_if 18 with (first | (go_at_call 22; (with_reducible refine (attrs_reader_spaces.calls k g s0_0 s0_1 t125 t126 w0 _ ?side1 ?side2 A2.out).mono ?_); (case side1 => repeat (first | (with_reducible first | exact HI0.out | apply IsS50.alloc | apply IsS50.drewN | apply IsS50.drew | apply IsS50.set_0 | apply IsS50.set_1) | exact HI0.out)); (case side2 => repeat (first | (with_reducible first | exact HB.out | apply below_alloc | apply pw_below_drewN | apply below_drew1 | refine below_set ?_ (IsS50.ge HI0.out)) | exact HB.out)); rintro e w8 ⟨rfl, hi, hb, hk⟩; have n0_ := Aside0.mk (KeepBut.trans (by repeat (first | (with_reducible first | exact HK.out | apply KeepBut.set_ | apply keep_drewN | apply keep_drew | apply keep_alloc) | exact HK.out)) hk (.inl rfl)); have n1_ := Aside0.mk (hb); have n2_ := Aside0.mk (hi); clear HK; clear HB; clear HI0; have HK := n0_; have HB := n1_; have HI0 := n2_; clear n0_ n1_ n2_; (try clear hb); (try clear hb2); (try clear hk); (try clear hi)) | (go_at_call 23; (with_reducible refine (attrs_reader_is.calls g t125 t126 61 true t128 t129 w0 _ ?side1 ?side2 A3.out).mono ?_); (case side1 => repeat (first | (with_reducible first | exact HI0.out | apply IsS50.alloc | apply IsS50.drewN | apply IsS50.drew | apply IsS50.set_0 | apply IsS50.set_1) | exact HI0.out)); (case side2 => repeat (first | (with_reducible first | exact HB.out | apply below_alloc | apply pw_below_drewN | apply below_drew1 | refine below_set ?_ (IsS50.ge HI0.out)) | exact HB.out)); rintro e w9 ⟨rfl, hi, hb, hk⟩; have n0_ := Aside0.mk (KeepBut.trans (by repeat (first | (with_reducible first | exact HK.out | apply KeepBut.set_ | apply keep_drewN | apply keep_drew | apply keep_alloc) | exact HK.out)) hk (.inl rfl)); have n1_ := Aside0.mk (hb); have n2_ := Aside0.mk (hi); clear HK; clear HB; clear HI0; have HK := n0_; have HB := n1_; have HI0 := n2_; clear n0_ n1_ n2_; (try clear hb); (try clear hb2); (try clear hk); (try clear hi); obtain ⟨HGz10, hgz10⟩ := HI0.out; have hcz10_0 := cellS50_0 HGz10; have hcz10_1 := cellS50_1 HGz10; have hfz10_0 := blk_frozen HGz10 0; have hfz10_1 := blk_frozen HGz10 1; clear HGz10 hgz10) | (go_at_call 22; (with_reducible refine (attrs_reader_spaces.calls k g t128 (wrap64 (t129 + 1)) t130 t131 w0 _ ?side1 ?side2 A5.out).mono ?_); (case side1 => repeat (first | (with_reducible first | exact HI0.out | apply IsS50.alloc | apply IsS50.drewN | apply IsS50.drew | apply IsS50.set_0 | apply IsS50.set_1) | exact HI0.out)); (case side2 => repeat (first | (with_reducible first | exact HB.out | apply below_alloc | apply pw_below_drewN | apply below_drew1 | refine below_set ?_ (IsS50.ge HI0.out)) | exact HB.out)); rintro e w11 ⟨rfl, hi, hb, hk⟩; have n0_ := Aside0.mk (KeepBut.trans (by repeat (first | (with_reducible first | exact HK.out | apply KeepBut.set_ | apply keep_drewN | apply keep_drew | apply keep_alloc) | exact HK.out)) hk (.inl rfl)); have n1_ := Aside0.mk (hb); have n2_ := Aside0.mk (hi); clear HK; clear HB; clear HI0; have HK := n0_; have HB := n1_; have HI0 := n2_; clear n0_ n1_ n2_; (try clear hb); (try clear hb2); (try clear hk); (try clear hi)) | (go_at_call 23; (with_reducible refine (attrs_reader_is.calls g t130 t131 34 t132 t133 t134 w0 _ ?side1 ?side2 A6.out).mono ?_); (case side1 => repeat (first | (with_reducible first | exact HI0.out | apply IsS50.alloc | apply IsS50.drewN | apply IsS50.drew | apply IsS50.set_0 | apply IsS50.set_1) | exact HI0.out)); (case side2 => repeat (first | (with_reducible first | exact HB.out | apply below_alloc | apply pw_below_drewN | apply below_drew1 | refine below_set ?_ (IsS50.ge HI0.out)) | exact HB.out)); rintro e w12 ⟨rfl, hi, hb, hk⟩; have n0_ := Aside0.mk (KeepBut.trans (by repeat (first | (with_reducible first | exact HK.out | apply KeepBut.set_ | apply keep_drewN | apply keep_drew | apply keep_alloc) | exact HK.out)) hk (.inl rfl)); have n1_ := Aside0.mk (hb); have n2_ := Aside0.mk (hi); clear HK; clear HB; clear HI0; have HK := n0_; have HB := n1_; have HI0 := n2_; clear n0_ n1_ n2_; (try clear hb); (try clear hb2); (try clear hk); (try clear hi))))
    (try simp only [Act.put, List.setIfInBounds_toArray, List.set_cons_zero, List.set_cons_succ])
    go_cut [18] (fun v18 wc => ∃ (kq : Nat) (x18_6 : Bool) (x1000_6 : ByteArray) (x1001_6 : Int), v18 = .bool x18_6 ∧ Aside0 (attrs_reader_value.j0 kq x18_6 x1000_6 x1001_6 = some (r1, r2, r3, r4)) ∧ Aside0 (kq ≤ k) ∧ Aside0 (IsS50 w0 wc g x1000_6 x1001_6) ∧ Aside0 (KeepBut w wc g none) ∧ Aside0 (Below w0.heap.size w0 wc))
    case first =>
      have H := HC7.out
      clear HC7
      by_cases c13 : t132 = true
      · subst c13
        have H1 : (attrs_reader_value.j0 k true t133 t134) = some (r1, r2, r3, r4) := by rw [if_pos rfl] at H; exact H
        clear H
        have H := H1
        clear H1
        have H' := Aside0.mk H
        clear H
        go_wp2
        repeat (go_quiet (fail); try go_wp2)
        go_meet
        case rel => exact ⟨_, (true), (t133), (t134), (by first | rfl | (simp; done) | (simp [*]; done)), H', ⟨by first | omega | exact Nat.le_refl _⟩, ⟨by repeat (first | (with_reducible first | exact HI0.out | apply IsS50.alloc | apply IsS50.drewN | apply IsS50.drew | apply IsS50.set_0 | apply IsS50.set_1) | exact HI0.out)⟩, ⟨by repeat (first | (with_reducible first | exact HK.out | apply KeepBut.set_ | apply keep_drewN | apply keep_drew | apply keep_alloc) | exact HK.out)⟩, ⟨by repeat (first | (with_reducible first | exact HB.out | apply below_alloc | apply pw_below_drewN | apply below_drew1 | refine below_set ?_ (IsS50.ge HI0.out)) | exact HB.out)⟩⟩
      · replace c13 := Bool.eq_false_iff.mpr c13
        subst c13
        have H1 : ((attrs_reader_is.f t133 t134 39).bind fun bt135 => (attrs_reader_value.j0 k bt135.1 bt135.2.1 bt135.2.2)) = some (r1, r2, r3, r4) := by rw [if_neg (show ¬ (false = true) by decide)] at H; exact H
        clear H
        have H := H1
        clear H1
        replace H := Option.bind_eq_some_iff.mp H
        obtain ⟨⟨t135, t136, t137⟩, A140, H⟩ := H
        replace H : (attrs_reader_value.j0 k t135 t136 t137) = some (r1, r2, r3, r4) := H
        have A14 := Aside0.mk A140
        clear A140
        have H' := Aside0.mk H
        clear H
        go_wp2_with (first | (go_at_call 23; (with_reducible refine (attrs_reader_is.calls g t133 t134 39 t135 t136 t137 w0 _ ?side1 ?side2 A14.out).mono ?_); (case side1 => repeat (first | (with_reducible first | exact HI0.out | apply IsS50.alloc | apply IsS50.drewN | apply IsS50.drew | apply IsS50.set_0 | apply IsS50.set_1) | exact HI0.out)); (case side2 => repeat (first | (with_reducible first | exact HB.out | apply below_alloc | apply pw_below_drewN | apply below_drew1 | refine below_set ?_ (IsS50.ge HI0.out)) | exact HB.out)); rintro e w15 ⟨rfl, hi, hb, hk⟩; have n0_ := Aside0.mk (KeepBut.trans (by repeat (first | (with_reducible first | exact HK.out | apply KeepBut.set_ | apply keep_drewN | apply keep_drew | apply keep_alloc) | exact HK.out)) hk (.inl rfl)); have n1_ := Aside0.mk (hb); have n2_ := Aside0.mk (hi); clear HK; clear HB; clear HI0; have HK := n0_; have HB := n1_; have HI0 := n2_; clear n0_ n1_ n2_; (try clear hb); (try clear hb2); (try clear hk); (try clear hi)))
        repeat (go_quiet (first | (go_at_call 23; (with_reducible refine (attrs_reader_is.calls g t133 t134 39 t135 t136 t137 w0 _ ?side1 ?side2 A14.out).mono ?_); (case side1 => repeat (first | (with_reducible first | exact HI0.out | apply IsS50.alloc | apply IsS50.drewN | apply IsS50.drew | apply IsS50.set_0 | apply IsS50.set_1) | exact HI0.out)); (case side2 => repeat (first | (with_reducible first | exact HB.out | apply below_alloc | apply pw_below_drewN | apply below_drew1 | refine below_set ?_ (IsS50.ge HI0.out)) | exact HB.out)); rintro e w15 ⟨rfl, hi, hb, hk⟩; have n0_ := Aside0.mk (KeepBut.trans (by repeat (first | (with_reducible first | exact HK.out | apply KeepBut.set_ | apply keep_drewN | apply keep_drew | apply keep_alloc) | exact HK.out)) hk (.inl rfl)); have n1_ := Aside0.mk (hb); have n2_ := Aside0.mk (hi); clear HK; clear HB; clear HI0; have HK := n0_; have HB := n1_; have HI0 := n2_; clear n0_ n1_ n2_; (try clear hb); (try clear hb2); (try clear hk); (try clear hi))); try go_wp2_with (first | (go_at_call 23; (with_reducible refine (attrs_reader_is.calls g t133 t134 39 t135 t136 t137 w0 _ ?side1 ?side2 A14.out).mono ?_); (case side1 => repeat (first | (with_reducible first | exact HI0.out | apply IsS50.alloc | apply IsS50.drewN | apply IsS50.drew | apply IsS50.set_0 | apply IsS50.set_1) | exact HI0.out)); (case side2 => repeat (first | (with_reducible first | exact HB.out | apply below_alloc | apply pw_below_drewN | apply below_drew1 | refine below_set ?_ (IsS50.ge HI0.out)) | exact HB.out)); rintro e w15 ⟨rfl, hi, hb, hk⟩; have n0_ := Aside0.mk (KeepBut.trans (by repeat (first | (with_reducible first | exact HK.out | apply KeepBut.set_ | apply keep_drewN | apply keep_drew | apply keep_alloc) | exact HK.out)) hk (.inl rfl)); have n1_ := Aside0.mk (hb); have n2_ := Aside0.mk (hi); clear HK; clear HB; clear HI0; have HK := n0_; have HB := n1_; have HI0 := n2_; clear n0_ n1_ n2_; (try clear hb); (try clear hb2); (try clear hk); (try clear hi))))
        go_meet
        case rel => exact ⟨_, (t135), (t136), (t137), (by first | rfl | (simp; done) | (simp [*]; done)), H', ⟨by first | omega | exact Nat.le_refl _⟩, ⟨by repeat (first | (with_reducible first | exact HI0.out | apply IsS50.alloc | apply IsS50.drewN | apply IsS50.drew | apply IsS50.set_0 | apply IsS50.set_1) | exact HI0.out)⟩, ⟨by repeat (first | (with_reducible first | exact HK.out | apply KeepBut.set_ | apply keep_drewN | apply keep_drew | apply keep_alloc) | exact HK.out)⟩, ⟨by repeat (first | (with_reducible first | exact HB.out | apply below_alloc | apply pw_below_drewN | apply below_drew1 | refine below_set ?_ (IsS50.ge HI0.out)) | exact HB.out)⟩⟩
    case rest =>
      clear HC7
      try clear c1
      try clear c2
      try clear p2
      try clear c4
      try clear p6
      try clear c13
      try clear hcz10_0
      try clear hcz10_1
      try clear hfz10_0
      try clear hfz10_1
      obtain ⟨kq, x18_6, x1000_6, x1001_6, rfl, HA, HJ6, HI0, HK, HB⟩ := hcut
      cases kq with
      | zero => exact absurd HA.out (by simp [attrs_reader_value.j0])
      | succ kj6 =>
        have H := HA.out
        clear HA
        simp only [attrs_reader_value.j0] at H
        by_cases c16 : x18_6 = true
        · subst c16
          have H1 : ((attrs_reader_quoted.f x1000_6 x1001_6).bind fun bt138 => (some (bt138.1, bt138.2.1, bt138.2.2.1, bt138.2.2.2))) = some (r1, r2, r3, r4) := by rw [if_pos rfl] at H; exact H
          clear H
          have H := H1
          clear H1
          replace H := Option.bind_eq_some_iff.mp H
          obtain ⟨⟨t138, t139, t140, t141⟩, A170, H⟩ := H
          replace H : (some (t138, t139, t140, t141)) = some (r1, r2, r3, r4) := H
          have A17 := Aside0.mk A170
          clear A170
          simp only [Option.some.injEq, Prod.mk.injEq] at H
          obtain ⟨rfl, rfl, rfl, rfl⟩ := H
          go_wp2_with (first | (go_at_call 38; (with_reducible refine (attrs_reader_quoted.calls g x1000_6 x1001_6 t138 t139 t140 t141 w0 _ ?side1 ?side2 A17.out).mono ?_); (case side1 => repeat (first | (with_reducible first | exact HI0.out | apply IsS50.alloc | apply IsS50.drewN | apply IsS50.drew | apply IsS50.set_0 | apply IsS50.set_1) | exact HI0.out)); (case side2 => repeat (first | (with_reducible first | exact HB.out | apply below_alloc | apply pw_below_drewN | apply below_drew1 | refine below_set ?_ (IsS50.ge HI0.out)) | exact HB.out)); rintro e w18 ⟨rfl, hi, hb, hk⟩; have n0_ := Aside0.mk (KeepBut.trans (by repeat (first | (with_reducible first | exact HK.out | apply KeepBut.set_ | apply keep_drewN | apply keep_drew | apply keep_alloc) | exact HK.out)) hk (.inl rfl)); have n1_ := Aside0.mk (hb); have n2_ := Aside0.mk (hi); clear HK; clear HB; clear HI0; have HK := n0_; have HB := n1_; have HI0 := n2_; clear n0_ n1_ n2_; (try clear hb); (try clear hb2); (try clear hk); (try clear hi)))
          repeat (go_quiet (first | (go_at_call 38; (with_reducible refine (attrs_reader_quoted.calls g x1000_6 x1001_6 t138 t139 t140 t141 w0 _ ?side1 ?side2 A17.out).mono ?_); (case side1 => repeat (first | (with_reducible first | exact HI0.out | apply IsS50.alloc | apply IsS50.drewN | apply IsS50.drew | apply IsS50.set_0 | apply IsS50.set_1) | exact HI0.out)); (case side2 => repeat (first | (with_reducible first | exact HB.out | apply below_alloc | apply pw_below_drewN | apply below_drew1 | refine below_set ?_ (IsS50.ge HI0.out)) | exact HB.out)); rintro e w18 ⟨rfl, hi, hb, hk⟩; have n0_ := Aside0.mk (KeepBut.trans (by repeat (first | (with_reducible first | exact HK.out | apply KeepBut.set_ | apply keep_drewN | apply keep_drew | apply keep_alloc) | exact HK.out)) hk (.inl rfl)); have n1_ := Aside0.mk (hb); have n2_ := Aside0.mk (hi); clear HK; clear HB; clear HI0; have HK := n0_; have HB := n1_; have HI0 := n2_; clear n0_ n1_ n2_; (try clear hb); (try clear hb2); (try clear hk); (try clear hi))); try go_wp2_with (first | (go_at_call 38; (with_reducible refine (attrs_reader_quoted.calls g x1000_6 x1001_6 t138 t139 t140 t141 w0 _ ?side1 ?side2 A17.out).mono ?_); (case side1 => repeat (first | (with_reducible first | exact HI0.out | apply IsS50.alloc | apply IsS50.drewN | apply IsS50.drew | apply IsS50.set_0 | apply IsS50.set_1) | exact HI0.out)); (case side2 => repeat (first | (with_reducible first | exact HB.out | apply below_alloc | apply pw_below_drewN | apply below_drew1 | refine below_set ?_ (IsS50.ge HI0.out)) | exact HB.out)); rintro e w18 ⟨rfl, hi, hb, hk⟩; have n0_ := Aside0.mk (KeepBut.trans (by repeat (first | (with_reducible first | exact HK.out | apply KeepBut.set_ | apply keep_drewN | apply keep_drew | apply keep_alloc) | exact HK.out)) hk (.inl rfl)); have n1_ := Aside0.mk (hb); have n2_ := Aside0.mk (hi); clear HK; clear HB; clear HI0; have HK := n0_; have HB := n1_; have HI0 := n2_; clear n0_ n1_ n2_; (try clear hb); (try clear hb2); (try clear hk); (try clear hi))))
          go_ret2
          exact ⟨by first | rfl | (simp [errW_none, errW_some] <;> rfl) | (simp [*, errW_none, errW_some] <;> rfl), by repeat (first | (with_reducible first | exact HI0.out | apply IsS50.alloc | apply IsS50.drewN | apply IsS50.drew | apply IsS50.set_0 | apply IsS50.set_1) | exact HI0.out), by repeat (first | (with_reducible first | exact HB.out | apply below_alloc | apply pw_below_drewN | apply below_drew1 | refine below_set ?_ (IsS50.ge HI0.out)) | exact HB.out), by repeat (first | (with_reducible first | exact HK.out | apply KeepBut.set_ | apply keep_drewN | apply keep_drew | apply keep_alloc) | exact HK.out)⟩
        · replace c16 := Bool.eq_false_iff.mpr c16
          subst c16
          have H1 : ((attrs_reader_is.f x1000_6 x1001_6 62).bind fun bt142 => (if bt142.1 = true then (some ((⟨#[]⟩ : ByteArray), true, bt142.2.1, bt142.2.2)) else (if bt142.2.2 = (bt142.2.1.size : Int) then (some ((⟨#[]⟩ : ByteArray), true, bt142.2.1, bt142.2.2)) else ((attrs_reader_upTo.f kj6 bt142.2.1 bt142.2.2 (⟨#[62]⟩ : ByteArray)).bind fun bt145 => (some (bt145.1, true, bt145.2.1, bt145.2.2)))))) = some (r1, r2, r3, r4) := by rw [if_neg (show ¬ (false = true) by decide)] at H; exact H
          clear H
          have H := H1
          clear H1
          replace H := Option.bind_eq_some_iff.mp H
          obtain ⟨⟨t142, t143, t144⟩, A190, H⟩ := H
          replace H : (if t142 = true then (some ((⟨#[]⟩ : ByteArray), true, t143, t144)) else (if t144 = (t143.size : Int) then (some ((⟨#[]⟩ : ByteArray), true, t143, t144)) else ((attrs_reader_upTo.f kj6 t143 t144 (⟨#[62]⟩ : ByteArray)).bind fun bt145 => (some (bt145.1, true, bt145.2.1, bt145.2.2))))) = some (r1, r2, r3, r4) := H
          have A19 := Aside0.mk A190
          clear A190
          by_cases c20 : t142 = true
          · subst c20
            have H1 : (some ((⟨#[]⟩ : ByteArray), true, t143, t144)) = some (r1, r2, r3, r4) := by rw [if_pos rfl] at H; exact H
            clear H
            have H := H1
            clear H1
            simp only [Option.some.injEq, Prod.mk.injEq] at H
            obtain ⟨rfl, rfl, rfl, rfl⟩ := H
            go_wp2_with (first | (go_at_call 23; (with_reducible refine (attrs_reader_is.calls g x1000_6 x1001_6 62 true t143 t144 w0 _ ?side1 ?side2 A19.out).mono ?_); (case side1 => repeat (first | (with_reducible first | exact HI0.out | apply IsS50.alloc | apply IsS50.drewN | apply IsS50.drew | apply IsS50.set_0 | apply IsS50.set_1) | exact HI0.out)); (case side2 => repeat (first | (with_reducible first | exact HB.out | apply below_alloc | apply pw_below_drewN | apply below_drew1 | refine below_set ?_ (IsS50.ge HI0.out)) | exact HB.out)); rintro e w21 ⟨rfl, hi, hb, hk⟩; have n0_ := Aside0.mk (KeepBut.trans (by repeat (first | (with_reducible first | exact HK.out | apply KeepBut.set_ | apply keep_drewN | apply keep_drew | apply keep_alloc) | exact HK.out)) hk (.inl rfl)); have n1_ := Aside0.mk (hb); have n2_ := Aside0.mk (hi); clear HK; clear HB; clear HI0; have HK := n0_; have HB := n1_; have HI0 := n2_; clear n0_ n1_ n2_; (try clear hb); (try clear hb2); (try clear hk); (try clear hi)))
            repeat (go_quiet (first | (go_at_call 23; (with_reducible refine (attrs_reader_is.calls g x1000_6 x1001_6 62 true t143 t144 w0 _ ?side1 ?side2 A19.out).mono ?_); (case side1 => repeat (first | (with_reducible first | exact HI0.out | apply IsS50.alloc | apply IsS50.drewN | apply IsS50.drew | apply IsS50.set_0 | apply IsS50.set_1) | exact HI0.out)); (case side2 => repeat (first | (with_reducible first | exact HB.out | apply below_alloc | apply pw_below_drewN | apply below_drew1 | refine below_set ?_ (IsS50.ge HI0.out)) | exact HB.out)); rintro e w21 ⟨rfl, hi, hb, hk⟩; have n0_ := Aside0.mk (KeepBut.trans (by repeat (first | (with_reducible first | exact HK.out | apply KeepBut.set_ | apply keep_drewN | apply keep_drew | apply keep_alloc) | exact HK.out)) hk (.inl rfl)); have n1_ := Aside0.mk (hb); have n2_ := Aside0.mk (hi); clear HK; clear HB; clear HI0; have HK := n0_; have HB := n1_; have HI0 := n2_; clear n0_ n1_ n2_; (try clear hb); (try clear hb2); (try clear hk); (try clear hi))); try go_wp2_with (first | (go_at_call 23; (with_reducible refine (attrs_reader_is.calls g x1000_6 x1001_6 62 true t143 t144 w0 _ ?side1 ?side2 A19.out).mono ?_); (case side1 => repeat (first | (with_reducible first | exact HI0.out | apply IsS50.alloc | apply IsS50.drewN | apply IsS50.drew | apply IsS50.set_0 | apply IsS50.set_1) | exact HI0.out)); (case side2 => repeat (first | (with_reducible first | exact HB.out | apply below_alloc | apply pw_below_drewN | apply below_drew1 | refine below_set ?_ (IsS50.ge HI0.out)) | exact HB.out)); rintro e w21 ⟨rfl, hi, hb, hk⟩; have n0_ := Aside0.mk (KeepBut.trans (by repeat (first | (with_reducible first | exact HK.out | apply KeepBut.set_ | apply keep_drewN | apply keep_drew | apply keep_alloc) | exact HK.out)) hk (.inl rfl)); have n1_ := Aside0.mk (hb); have n2_ := Aside0.mk (hi); clear HK; clear HB; clear HI0; have HK := n0_; have HB := n1_; have HI0 := n2_; clear n0_ n1_ n2_; (try clear hb); (try clear hb2); (try clear hk); (try clear hi))))
            go_ret2
            exact ⟨by first | rfl | (simp [errW_none, errW_some] <;> rfl) | (simp [*, errW_none, errW_some] <;> rfl), by repeat (first | (with_reducible first | exact HI0.out | apply IsS50.alloc | apply IsS50.drewN | apply IsS50.drew | apply IsS50.set_0 | apply IsS50.set_1) | exact HI0.out), by repeat (first | (with_reducible first | exact HB.out | apply below_alloc | apply pw_below_drewN | apply below_drew1 | refine below_set ?_ (IsS50.ge HI0.out)) | exact HB.out), by repeat (first | (with_reducible first | exact HK.out | apply KeepBut.set_ | apply keep_drewN | apply keep_drew | apply keep_alloc) | exact HK.out)⟩
          · replace c20 := Bool.eq_false_iff.mpr c20
            subst c20
            have H1 : (if t144 = (t143.size : Int) then (some ((⟨#[]⟩ : ByteArray), true, t143, t144)) else ((attrs_reader_upTo.f kj6 t143 t144 (⟨#[62]⟩ : ByteArray)).bind fun bt145 => (some (bt145.1, true, bt145.2.1, bt145.2.2)))) = some (r1, r2, r3, r4) := by rw [if_neg (show ¬ (false = true) by decide)] at H; exact H
            clear H
            have H := H1
            clear H1
            by_cases c22 : t144 = (t143.size : Int)
            · rw [if_pos c22] at H
              have c22b0 : (t144 == (t143.size : Int)) = true := beq_iff_eq.mpr c22
              have c22b1 : (t144 != (t143.size : Int)) = false := bne_eq_false_iff_eq.mpr c22
              clear c22
              simp only [Option.some.injEq, Prod.mk.injEq] at H
              obtain ⟨rfl, rfl, rfl, rfl⟩ := H
              go_wp2_with (first | (go_at_call 23; (with_reducible refine (attrs_reader_is.calls g x1000_6 x1001_6 62 false t143 t144 w0 _ ?side1 ?side2 A19.out).mono ?_); (case side1 => repeat (first | (with_reducible first | exact HI0.out | apply IsS50.alloc | apply IsS50.drewN | apply IsS50.drew | apply IsS50.set_0 | apply IsS50.set_1) | exact HI0.out)); (case side2 => repeat (first | (with_reducible first | exact HB.out | apply below_alloc | apply pw_below_drewN | apply below_drew1 | refine below_set ?_ (IsS50.ge HI0.out)) | exact HB.out)); rintro e w23 ⟨rfl, hi, hb, hk⟩; have n0_ := Aside0.mk (KeepBut.trans (by repeat (first | (with_reducible first | exact HK.out | apply KeepBut.set_ | apply keep_drewN | apply keep_drew | apply keep_alloc) | exact HK.out)) hk (.inl rfl)); have n1_ := Aside0.mk (hb); have n2_ := Aside0.mk (hi); clear HK; clear HB; clear HI0; have HK := n0_; have HB := n1_; have HI0 := n2_; clear n0_ n1_ n2_; (try clear hb); (try clear hb2); (try clear hk); (try clear hi); obtain ⟨HGz24, hgz24⟩ := HI0.out; have hcz24_0 := cellS50_0 HGz24; have hcz24_1 := cellS50_1 HGz24; have hfz24_0 := blk_frozen HGz24 0; have hfz24_1 := blk_frozen HGz24 1; clear HGz24 hgz24))
              repeat (go_quiet (first | (go_at_call 23; (with_reducible refine (attrs_reader_is.calls g x1000_6 x1001_6 62 false t143 t144 w0 _ ?side1 ?side2 A19.out).mono ?_); (case side1 => repeat (first | (with_reducible first | exact HI0.out | apply IsS50.alloc | apply IsS50.drewN | apply IsS50.drew | apply IsS50.set_0 | apply IsS50.set_1) | exact HI0.out)); (case side2 => repeat (first | (with_reducible first | exact HB.out | apply below_alloc | apply pw_below_drewN | apply below_drew1 | refine below_set ?_ (IsS50.ge HI0.out)) | exact HB.out)); rintro e w23 ⟨rfl, hi, hb, hk⟩; have n0_ := Aside0.mk (KeepBut.trans (by repeat (first | (with_reducible first | exact HK.out | apply KeepBut.set_ | apply keep_drewN | apply keep_drew | apply keep_alloc) | exact HK.out)) hk (.inl rfl)); have n1_ := Aside0.mk (hb); have n2_ := Aside0.mk (hi); clear HK; clear HB; clear HI0; have HK := n0_; have HB := n1_; have HI0 := n2_; clear n0_ n1_ n2_; (try clear hb); (try clear hb2); (try clear hk); (try clear hi); obtain ⟨HGz24, hgz24⟩ := HI0.out; have hcz24_0 := cellS50_0 HGz24; have hcz24_1 := cellS50_1 HGz24; have hfz24_0 := blk_frozen HGz24 0; have hfz24_1 := blk_frozen HGz24 1; clear HGz24 hgz24)); try go_wp2_with (first | (go_at_call 23; (with_reducible refine (attrs_reader_is.calls g x1000_6 x1001_6 62 false t143 t144 w0 _ ?side1 ?side2 A19.out).mono ?_); (case side1 => repeat (first | (with_reducible first | exact HI0.out | apply IsS50.alloc | apply IsS50.drewN | apply IsS50.drew | apply IsS50.set_0 | apply IsS50.set_1) | exact HI0.out)); (case side2 => repeat (first | (with_reducible first | exact HB.out | apply below_alloc | apply pw_below_drewN | apply below_drew1 | refine below_set ?_ (IsS50.ge HI0.out)) | exact HB.out)); rintro e w23 ⟨rfl, hi, hb, hk⟩; have n0_ := Aside0.mk (KeepBut.trans (by repeat (first | (with_reducible first | exact HK.out | apply KeepBut.set_ | apply keep_drewN | apply keep_drew | apply keep_alloc) | exact HK.out)) hk (.inl rfl)); have n1_ := Aside0.mk (hb); have n2_ := Aside0.mk (hi); clear HK; clear HB; clear HI0; have HK := n0_; have HB := n1_; have HI0 := n2_; clear n0_ n1_ n2_; (try clear hb); (try clear hb2); (try clear hk); (try clear hi); obtain ⟨HGz24, hgz24⟩ := HI0.out; have hcz24_0 := cellS50_0 HGz24; have hcz24_1 := cellS50_1 HGz24; have hfz24_0 := blk_frozen HGz24 0; have hfz24_1 := blk_frozen HGz24 1; clear HGz24 hgz24)))
              go_ret2
              exact ⟨by first | rfl | (simp [errW_none, errW_some] <;> rfl) | (simp [*, errW_none, errW_some] <;> rfl), by repeat (first | (with_reducible first | exact HI0.out | apply IsS50.alloc | apply IsS50.drewN | apply IsS50.drew | apply IsS50.set_0 | apply IsS50.set_1) | exact HI0.out), by repeat (first | (with_reducible first | exact HB.out | apply below_alloc | apply pw_below_drewN | apply below_drew1 | refine below_set ?_ (IsS50.ge HI0.out)) | exact HB.out), by repeat (first | (with_reducible first | exact HK.out | apply KeepBut.set_ | apply keep_drewN | apply keep_drew | apply keep_alloc) | exact HK.out)⟩
            · rw [if_neg c22] at H
              have c22b0 : (t144 == (t143.size : Int)) = false := beq_eq_false_iff_ne.mpr c22
              have c22b1 : (t144 != (t143.size : Int)) = true := bne_iff_ne.mpr c22
              replace H := Option.bind_eq_some_iff.mp H
              obtain ⟨⟨t145, t146, t147⟩, A250, H⟩ := H
              replace H : (some (t145, true, t146, t147)) = some (r1, r2, r3, r4) := H
              have A25 := Aside0.mk A250
              clear A250
              simp only [Option.some.injEq, Prod.mk.injEq] at H
              obtain ⟨rfl, rfl, rfl, rfl⟩ := H
              go_wp2_with (first | (go_at_call 23; (with_reducible refine (attrs_reader_is.calls g x1000_6 x1001_6 62 false t143 t144 w0 _ ?side1 ?side2 A19.out).mono ?_); (case side1 => repeat (first | (with_reducible first | exact HI0.out | apply IsS50.alloc | apply IsS50.drewN | apply IsS50.drew | apply IsS50.set_0 | apply IsS50.set_1) | exact HI0.out)); (case side2 => repeat (first | (with_reducible first | exact HB.out | apply below_alloc | apply pw_below_drewN | apply below_drew1 | refine below_set ?_ (IsS50.ge HI0.out)) | exact HB.out)); rintro e w26 ⟨rfl, hi, hb, hk⟩; have n0_ := Aside0.mk (KeepBut.trans (by repeat (first | (with_reducible first | exact HK.out | apply KeepBut.set_ | apply keep_drewN | apply keep_drew | apply keep_alloc) | exact HK.out)) hk (.inl rfl)); have n1_ := Aside0.mk (hb); have n2_ := Aside0.mk (hi); clear HK; clear HB; clear HI0; have HK := n0_; have HB := n1_; have HI0 := n2_; clear n0_ n1_ n2_; (try clear hb); (try clear hb2); (try clear hk); (try clear hi); obtain ⟨HGz27, hgz27⟩ := HI0.out; have hcz27_0 := cellS50_0 HGz27; have hcz27_1 := cellS50_1 HGz27; have hfz27_0 := blk_frozen HGz27 0; have hfz27_1 := blk_frozen HGz27 1; clear HGz27 hgz27) | (go_at_call 26; (with_reducible refine (attrs_reader_upTo.calls kj6 g t143 t144 (⟨#[62]⟩ : ByteArray) t145 t146 t147 w0 _ ?side1 ?side2 A25.out).mono ?_); (case side1 => repeat (first | (with_reducible first | exact HI0.out | apply IsS50.alloc | apply IsS50.drewN | apply IsS50.drew | apply IsS50.set_0 | apply IsS50.set_1) | exact HI0.out)); (case side2 => repeat (first | (with_reducible first | exact HB.out | apply below_alloc | apply pw_below_drewN | apply below_drew1 | refine below_set ?_ (IsS50.ge HI0.out)) | exact HB.out)); rintro e w28 ⟨rfl, hi, hb, hk⟩; have n0_ := Aside0.mk (KeepBut.trans (by repeat (first | (with_reducible first | exact HK.out | apply KeepBut.set_ | apply keep_drewN | apply keep_drew | apply keep_alloc) | exact HK.out)) hk (.inl rfl)); have n1_ := Aside0.mk (hb); have n2_ := Aside0.mk (hi); clear HK; clear HB; clear HI0; have HK := n0_; have HB := n1_; have HI0 := n2_; clear n0_ n1_ n2_; (try clear hb); (try clear hb2); (try clear hk); (try clear hi)))
              repeat (go_quiet (first | (go_at_call 23; (with_reducible refine (attrs_reader_is.calls g x1000_6 x1001_6 62 false t143 t144 w0 _ ?side1 ?side2 A19.out).mono ?_); (case side1 => repeat (first | (with_reducible first | exact HI0.out | apply IsS50.alloc | apply IsS50.drewN | apply IsS50.drew | apply IsS50.set_0 | apply IsS50.set_1) | exact HI0.out)); (case side2 => repeat (first | (with_reducible first | exact HB.out | apply below_alloc | apply pw_below_drewN | apply below_drew1 | refine below_set ?_ (IsS50.ge HI0.out)) | exact HB.out)); rintro e w26 ⟨rfl, hi, hb, hk⟩; have n0_ := Aside0.mk (KeepBut.trans (by repeat (first | (with_reducible first | exact HK.out | apply KeepBut.set_ | apply keep_drewN | apply keep_drew | apply keep_alloc) | exact HK.out)) hk (.inl rfl)); have n1_ := Aside0.mk (hb); have n2_ := Aside0.mk (hi); clear HK; clear HB; clear HI0; have HK := n0_; have HB := n1_; have HI0 := n2_; clear n0_ n1_ n2_; (try clear hb); (try clear hb2); (try clear hk); (try clear hi); obtain ⟨HGz27, hgz27⟩ := HI0.out; have hcz27_0 := cellS50_0 HGz27; have hcz27_1 := cellS50_1 HGz27; have hfz27_0 := blk_frozen HGz27 0; have hfz27_1 := blk_frozen HGz27 1; clear HGz27 hgz27) | (go_at_call 26; (with_reducible refine (attrs_reader_upTo.calls kj6 g t143 t144 (⟨#[62]⟩ : ByteArray) t145 t146 t147 w0 _ ?side1 ?side2 A25.out).mono ?_); (case side1 => repeat (first | (with_reducible first | exact HI0.out | apply IsS50.alloc | apply IsS50.drewN | apply IsS50.drew | apply IsS50.set_0 | apply IsS50.set_1) | exact HI0.out)); (case side2 => repeat (first | (with_reducible first | exact HB.out | apply below_alloc | apply pw_below_drewN | apply below_drew1 | refine below_set ?_ (IsS50.ge HI0.out)) | exact HB.out)); rintro e w28 ⟨rfl, hi, hb, hk⟩; have n0_ := Aside0.mk (KeepBut.trans (by repeat (first | (with_reducible first | exact HK.out | apply KeepBut.set_ | apply keep_drewN | apply keep_drew | apply keep_alloc) | exact HK.out)) hk (.inl rfl)); have n1_ := Aside0.mk (hb); have n2_ := Aside0.mk (hi); clear HK; clear HB; clear HI0; have HK := n0_; have HB := n1_; have HI0 := n2_; clear n0_ n1_ n2_; (try clear hb); (try clear hb2); (try clear hk); (try clear hi))); try go_wp2_with (first | (go_at_call 23; (with_reducible refine (attrs_reader_is.calls g x1000_6 x1001_6 62 false t143 t144 w0 _ ?side1 ?side2 A19.out).mono ?_); (case side1 => repeat (first | (with_reducible first | exact HI0.out | apply IsS50.alloc | apply IsS50.drewN | apply IsS50.drew | apply IsS50.set_0 | apply IsS50.set_1) | exact HI0.out)); (case side2 => repeat (first | (with_reducible first | exact HB.out | apply below_alloc | apply pw_below_drewN | apply below_drew1 | refine below_set ?_ (IsS50.ge HI0.out)) | exact HB.out)); rintro e w26 ⟨rfl, hi, hb, hk⟩; have n0_ := Aside0.mk (KeepBut.trans (by repeat (first | (with_reducible first | exact HK.out | apply KeepBut.set_ | apply keep_drewN | apply keep_drew | apply keep_alloc) | exact HK.out)) hk (.inl rfl)); have n1_ := Aside0.mk (hb); have n2_ := Aside0.mk (hi); clear HK; clear HB; clear HI0; have HK := n0_; have HB := n1_; have HI0 := n2_; clear n0_ n1_ n2_; (try clear hb); (try clear hb2); (try clear hk); (try clear hi); obtain ⟨HGz27, hgz27⟩ := HI0.out; have hcz27_0 := cellS50_0 HGz27; have hcz27_1 := cellS50_1 HGz27; have hfz27_0 := blk_frozen HGz27 0; have hfz27_1 := blk_frozen HGz27 1; clear HGz27 hgz27) | (go_at_call 26; (with_reducible refine (attrs_reader_upTo.calls kj6 g t143 t144 (⟨#[62]⟩ : ByteArray) t145 t146 t147 w0 _ ?side1 ?side2 A25.out).mono ?_); (case side1 => repeat (first | (with_reducible first | exact HI0.out | apply IsS50.alloc | apply IsS50.drewN | apply IsS50.drew | apply IsS50.set_0 | apply IsS50.set_1) | exact HI0.out)); (case side2 => repeat (first | (with_reducible first | exact HB.out | apply below_alloc | apply pw_below_drewN | apply below_drew1 | refine below_set ?_ (IsS50.ge HI0.out)) | exact HB.out)); rintro e w28 ⟨rfl, hi, hb, hk⟩; have n0_ := Aside0.mk (KeepBut.trans (by repeat (first | (with_reducible first | exact HK.out | apply KeepBut.set_ | apply keep_drewN | apply keep_drew | apply keep_alloc) | exact HK.out)) hk (.inl rfl)); have n1_ := Aside0.mk (hb); have n2_ := Aside0.mk (hi); clear HK; clear HB; clear HI0; have HK := n0_; have HB := n1_; have HI0 := n2_; clear n0_ n1_ n2_; (try clear hb); (try clear hb2); (try clear hk); (try clear hi))))
              go_ret2
              exact ⟨by first | rfl | (simp [errW_none, errW_some] <;> rfl) | (simp [*, errW_none, errW_some] <;> rfl), by repeat (first | (with_reducible first | exact HI0.out | apply IsS50.alloc | apply IsS50.drewN | apply IsS50.drew | apply IsS50.set_0 | apply IsS50.set_1) | exact HI0.out), by repeat (first | (with_reducible first | exact HB.out | apply below_alloc | apply pw_below_drewN | apply below_drew1 | refine below_set ?_ (IsS50.ge HI0.out)) | exact HB.out), by repeat (first | (with_reducible first | exact HK.out | apply KeepBut.set_ | apply keep_drewN | apply keep_drew | apply keep_alloc) | exact HK.out)⟩
  · replace c4 := Bool.eq_false_iff.mpr c4
    subst c4
    have H1 : (some ((⟨#[]⟩ : ByteArray), true, t128, t129)) = some (r1, r2, r3, r4) := by rw [if_neg (show ¬ (false = true) by decide)] at H; exact H
    clear H
    have H := H1
    clear H1
    simp only [Option.some.injEq, Prod.mk.injEq] at H
    obtain ⟨rfl, rfl, rfl, rfl⟩ := H
    go_enter Tryd.func27, Tryd.ntmps27
    go_wp2_with (first | (go_at_call 22; (with_reducible refine (attrs_reader_spaces.calls k g s0_0 s0_1 t125 t126 w0 _ ?side1 ?side2 A2.out).mono ?_); (case side1 => repeat (first | (with_reducible first | exact HI0.out | apply IsS50.alloc | apply IsS50.drewN | apply IsS50.drew | apply IsS50.set_0 | apply IsS50.set_1) | exact HI0.out)); (case side2 => repeat (first | (with_reducible first | exact HB.out | apply below_alloc | apply pw_below_drewN | apply below_drew1 | refine below_set ?_ (IsS50.ge HI0.out)) | exact HB.out)); rintro e w29 ⟨rfl, hi, hb, hk⟩; have n0_ := Aside0.mk (KeepBut.trans (by repeat (first | (with_reducible first | exact HK.out | apply KeepBut.set_ | apply keep_drewN | apply keep_drew | apply keep_alloc) | exact HK.out)) hk (.inl rfl)); have n1_ := Aside0.mk (hb); have n2_ := Aside0.mk (hi); clear HK; clear HB; clear HI0; have HK := n0_; have HB := n1_; have HI0 := n2_; clear n0_ n1_ n2_; (try clear hb); (try clear hb2); (try clear hk); (try clear hi)) | (go_at_call 23; (with_reducible refine (attrs_reader_is.calls g t125 t126 61 false t128 t129 w0 _ ?side1 ?side2 A3.out).mono ?_); (case side1 => repeat (first | (with_reducible first | exact HI0.out | apply IsS50.alloc | apply IsS50.drewN | apply IsS50.drew | apply IsS50.set_0 | apply IsS50.set_1) | exact HI0.out)); (case side2 => repeat (first | (with_reducible first | exact HB.out | apply below_alloc | apply pw_below_drewN | apply below_drew1 | refine below_set ?_ (IsS50.ge HI0.out)) | exact HB.out)); rintro e w30 ⟨rfl, hi, hb, hk⟩; have n0_ := Aside0.mk (KeepBut.trans (by repeat (first | (with_reducible first | exact HK.out | apply KeepBut.set_ | apply keep_drewN | apply keep_drew | apply keep_alloc) | exact HK.out)) hk (.inl rfl)); have n1_ := Aside0.mk (hb); have n2_ := Aside0.mk (hi); clear HK; clear HB; clear HI0; have HK := n0_; have HB := n1_; have HI0 := n2_; clear n0_ n1_ n2_; (try clear hb); (try clear hb2); (try clear hk); (try clear hi)))
    repeat (go_quiet (first | (go_at_call 22; (with_reducible refine (attrs_reader_spaces.calls k g s0_0 s0_1 t125 t126 w0 _ ?side1 ?side2 A2.out).mono ?_); (case side1 => repeat (first | (with_reducible first | exact HI0.out | apply IsS50.alloc | apply IsS50.drewN | apply IsS50.drew | apply IsS50.set_0 | apply IsS50.set_1) | exact HI0.out)); (case side2 => repeat (first | (with_reducible first | exact HB.out | apply below_alloc | apply pw_below_drewN | apply below_drew1 | refine below_set ?_ (IsS50.ge HI0.out)) | exact HB.out)); rintro e w29 ⟨rfl, hi, hb, hk⟩; have n0_ := Aside0.mk (KeepBut.trans (by repeat (first | (with_reducible first | exact HK.out | apply KeepBut.set_ | apply keep_drewN | apply keep_drew | apply keep_alloc) | exact HK.out)) hk (.inl rfl)); have n1_ := Aside0.mk (hb); have n2_ := Aside0.mk (hi); clear HK; clear HB; clear HI0; have HK := n0_; have HB := n1_; have HI0 := n2_; clear n0_ n1_ n2_; (try clear hb); (try clear hb2); (try clear hk); (try clear hi)) | (go_at_call 23; (with_reducible refine (attrs_reader_is.calls g t125 t126 61 false t128 t129 w0 _ ?side1 ?side2 A3.out).mono ?_); (case side1 => repeat (first | (with_reducible first | exact HI0.out | apply IsS50.alloc | apply IsS50.drewN | apply IsS50.drew | apply IsS50.set_0 | apply IsS50.set_1) | exact HI0.out)); (case side2 => repeat (first | (with_reducible first | exact HB.out | apply below_alloc | apply pw_below_drewN | apply below_drew1 | refine below_set ?_ (IsS50.ge HI0.out)) | exact HB.out)); rintro e w30 ⟨rfl, hi, hb, hk⟩; have n0_ := Aside0.mk (KeepBut.trans (by repeat (first | (with_reducible first | exact HK.out | apply KeepBut.set_ | apply keep_drewN | apply keep_drew | apply keep_alloc) | exact HK.out)) hk (.inl rfl)); have n1_ := Aside0.mk (hb); have n2_ := Aside0.mk (hi); clear HK; clear HB; clear HI0; have HK := n0_; have HB := n1_; have HI0 := n2_; clear n0_ n1_ n2_; (try clear hb); (try clear hb2); (try clear hk); (try clear hi))); try go_wp2_with (first | (go_at_call 22; (with_reducible refine (attrs_reader_spaces.calls k g s0_0 s0_1 t125 t126 w0 _ ?side1 ?side2 A2.out).mono ?_); (case side1 => repeat (first | (with_reducible first | exact HI0.out | apply IsS50.alloc | apply IsS50.drewN | apply IsS50.drew | apply IsS50.set_0 | apply IsS50.set_1) | exact HI0.out)); (case side2 => repeat (first | (with_reducible first | exact HB.out | apply below_alloc | apply pw_below_drewN | apply below_drew1 | refine below_set ?_ (IsS50.ge HI0.out)) | exact HB.out)); rintro e w29 ⟨rfl, hi, hb, hk⟩; have n0_ := Aside0.mk (KeepBut.trans (by repeat (first | (with_reducible first | exact HK.out | apply KeepBut.set_ | apply keep_drewN | apply keep_drew | apply keep_alloc) | exact HK.out)) hk (.inl rfl)); have n1_ := Aside0.mk (hb); have n2_ := Aside0.mk (hi); clear HK; clear HB; clear HI0; have HK := n0_; have HB := n1_; have HI0 := n2_; clear n0_ n1_ n2_; (try clear hb); (try clear hb2); (try clear hk); (try clear hi)) | (go_at_call 23; (with_reducible refine (attrs_reader_is.calls g t125 t126 61 false t128 t129 w0 _ ?side1 ?side2 A3.out).mono ?_); (case side1 => repeat (first | (with_reducible first | exact HI0.out | apply IsS50.alloc | apply IsS50.drewN | apply IsS50.drew | apply IsS50.set_0 | apply IsS50.set_1) | exact HI0.out)); (case side2 => repeat (first | (with_reducible first | exact HB.out | apply below_alloc | apply pw_below_drewN | apply below_drew1 | refine below_set ?_ (IsS50.ge HI0.out)) | exact HB.out)); rintro e w30 ⟨rfl, hi, hb, hk⟩; have n0_ := Aside0.mk (KeepBut.trans (by repeat (first | (with_reducible first | exact HK.out | apply KeepBut.set_ | apply keep_drewN | apply keep_drew | apply keep_alloc) | exact HK.out)) hk (.inl rfl)); have n1_ := Aside0.mk (hb); have n2_ := Aside0.mk (hi); clear HK; clear HB; clear HI0; have HK := n0_; have HB := n1_; have HI0 := n2_; clear n0_ n1_ n2_; (try clear hb); (try clear hb2); (try clear hk); (try clear hi))))
    go_ret2
    exact ⟨by first | rfl | (simp [errW_none, errW_some] <;> rfl) | (simp [*, errW_none, errW_some] <;> rfl), by repeat (first | (with_reducible first | exact HI0.out | apply IsS50.alloc | apply IsS50.drewN | apply IsS50.drew | apply IsS50.set_0 | apply IsS50.set_1) | exact HI0.out), by repeat (first | (with_reducible first | exact HB.out | apply below_alloc | apply pw_below_drewN | apply below_drew1 | refine below_set ?_ (IsS50.ge HI0.out)) | exact HB.out), by repeat (first | (with_reducible first | exact HK.out | apply KeepBut.set_ | apply keep_drewN | apply keep_drew | apply keep_alloc) | exact HK.out)⟩

end Go.Proofs.YtfhjfidkcdcjnaaDoor.Q

/- What stands in a tag, on lists of bytes, and that the reader's printed functions come to it. No program is walked here. -/
namespace Go.Proofs.YtfhjfidkcdcjnaaDoor.Fl
open Go Go.RowKit Go.Proofs.YtfhjfidkcdcjnaaDoorW.PrintWords
set_option linter.unusedVariables false
set_option linter.unusedSimpArgs false

/-- The place where l stands in s. -/
def At (s : ByteArray) (i : Nat) (l : Bs) : Prop := (toL s).drop i = l ∧ i + l.length = s.size
theorem At.cons {s : ByteArray} {i : Nat} {c : UInt8} {l : Bs} (h : At s i (c :: l)) : i < s.size ∧ bt s (i : Int) = (c.toNat : Int) ∧ At s (i + 1) l := by
  obtain ⟨h1, h2, h3⟩ := drop_cons h.1
  refine ⟨h1, h2, h3, ?_⟩
  have := h.2
  simp only [List.length_cons] at this
  omega
theorem At.nil {s : ByteArray} {i : Nat} (h : At s i []) : i = s.size := by have := h.2; simpa using this
theorem At.of_drop (s : ByteArray) (i : Nat) (hi : i ≤ s.size) : At s i ((toL s).drop i) := ⟨rfl, by rw [List.length_drop, toL_length]; omega⟩
theorem At.skip {s : ByteArray} {i : Nat} {a l : Bs} (h : At s i (a ++ l)) : At s (i + a.length) l := by
  refine ⟨?_, ?_⟩
  · rw [← List.drop_drop, h.1, List.drop_left]
  · have := h.2
    rw [List.length_append] at this; omega
theorem At.ext {s : ByteArray} {i : Nat} {a l : Bs} (h : At s i (a ++ l)) : s.extract i (i + a.length) = ofL a := by
  apply toL_inj
  rw [extract_toL, h.1, Nat.add_sub_cancel_left, List.take_left]; rfl
theorem At.le {s : ByteArray} {i : Nat} {l : Bs} (h : At s i l) : i ≤ s.size := by have := h.2; omega
theorem take_drop_while (p : UInt8 → Bool) (l : Bs) : l.takeWhile p ++ l.dropWhile p = l := List.takeWhile_append_dropWhile

/-! Spaces. -/
theorem spaces_f (s : ByteArray) (hs : s.size < 2147483648) : ∀ (l : Bs) (i k : Nat), At s i l → l.length < k →
    ∃ j, Q.attrs_reader_spaces.f k s (i : Int) = some (s, ((j : Nat) : Int)) ∧ At s j (l.dropWhile space) := by
  intro l
  unfold Q.attrs_reader_spaces.f
  induction l with
  | nil =>
    intro i k h hk
    obtain ⟨k, rfl⟩ : ∃ m, k = m + 1 := ⟨k - 1, by omega⟩
    have := h.nil
    refine ⟨i, ?_, h⟩
    simp only [Q.attrs_reader_spaces.l0]
    rw [if_neg (by omega)]
  | cons c l ih =>
    intro i k h hk
    obtain ⟨k, rfl⟩ : ∃ m, k = m + 1 := ⟨k - 1, by omega⟩
    obtain ⟨h1, h2, h3⟩ := h.cons
    simp only [Q.attrs_reader_spaces.l0]
    rw [if_pos (by omega), if_pos (by omega), h2, space_f]
    simp only [Option.bind_some]
    rw [wrap_in ((i : Int) + 1) (by omega) (by omega)]
    cases hc : space c
    · rw [if_neg (by simp)]
      exact ⟨i, rfl, by rw [List.dropWhile_cons, hc]; exact h⟩
    · rw [if_pos rfl]
      obtain ⟨j, hj, ha⟩ := ih (i + 1) k h3 (by simp at hk; omega)
      refine ⟨j, hj, ?_⟩
      rw [List.dropWhile_cons, hc]; exact ha
def headIs (c : UInt8) : Bs → Bool
  | d :: _ => d == c
  | [] => false
theorem is_f (s : ByteArray) (i : Nat) (l : Bs) (c : UInt8) (h : At s i l) : Q.attrs_reader_is.f s (i : Int) (c.toNat : Int) = some (headIs c l, s, (i : Int)) := by
  unfold Q.attrs_reader_is.f
  cases l with
  | nil =>
    have := h.nil
    rw [if_neg (by omega)]; rfl
  | cons d l =>
    obtain ⟨h1, h2, h3⟩ := h.cons
    rw [if_pos (by omega), if_pos (by omega), h2]
    simp only [headIs]
    congr 2
    rw [Bool.eq_iff_iff, beq_iff_eq, beq_iff_eq, ← UInt8.toNat_inj]
    omega

/-! Up to a blank, or one of some bytes. -/
def nend (ends : Bs) (c : UInt8) : Bool := !(space c || ends.contains c)
theorem indexByte_ge (l : Bs) (c : UInt8) : (Lib.indexByte l c ≥ 0) ↔ l.contains c = true := by
  constructor
  · intro h
    obtain ⟨j, hj⟩ : ∃ j : Nat, Lib.indexByte l c = j := ⟨(Lib.indexByte l c).toNat, by omega⟩
    have := indexByte_at l c j hj
    have hm := List.mem_of_getElem? this
    simpa using hm
  · intro h
    have hm : c ∈ l := by simpa using h
    obtain ⟨j, hj, _⟩ := indexByte_some (l := l) (c := c) (by
      have := List.count_pos_iff.2 hm; omega)
    omega
theorem upToL0_f (s ends : ByteArray) (i0 : Nat) (hs : s.size < 2147483648) : ∀ (l : Bs) (i k : Nat), At s i l → i0 ≤ i → l.length < k →
    ∃ j, Q.attrs_reader_upTo.l0 k ends (i0 : Int) s (i : Int) = some (s.extract i0 j, s, ((j : Nat) : Int)) ∧ j = i + (l.takeWhile (nend (toL ends))).length ∧ At s j (l.dropWhile (nend (toL ends))) := by
  intro l
  induction l with
  | nil =>
    intro i k h h0 hk
    obtain ⟨k, rfl⟩ : ∃ m, k = m + 1 := ⟨k - 1, by omega⟩
    have := h.nil
    refine ⟨i, ?_, by simp, h⟩
    simp only [Q.attrs_reader_upTo.l0]
    rw [if_neg (by omega), if_pos (by omega), if_pos (by omega), if_pos (by omega)]
    rfl
  | cons c l ih =>
    intro i k h h0 hk
    obtain ⟨k, rfl⟩ : ∃ m, k = m + 1 := ⟨k - 1, by omega⟩
    obtain ⟨h1, h2, h3⟩ := h.cons
    simp only [Q.attrs_reader_upTo.l0]
    rw [if_pos (by omega), if_pos (by omega), h2, space_f]
    simp only [Option.bind_some]
    cases hc : space c
    · rw [if_neg (by simp)]
      unfold Q.strings_IndexByte.f
      simp only [Option.bind_some]
      have e1 : ((c.toNat : Int).toNat).toUInt8 = c := by rw [Int.toNat_natCast]; exact UInt8.ofNat_toNat
      rw [e1]
      rw [show ends.data.toList = toL ends from rfl]
      by_cases hm : (toL ends).contains c = true
      · rw [if_pos ((indexByte_ge _ _).2 hm), if_pos (by omega), if_pos (by omega), if_pos (by omega)]
        have hn : nend (toL ends) c = false := by unfold nend; rw [hm]; simp
        refine ⟨i, rfl, by rw [List.takeWhile_cons, hn]; simp, by rw [List.dropWhile_cons, hn]; exact h⟩
      · rw [if_neg (fun h => hm ((indexByte_ge _ _).1 h)), wrap_in ((i : Int) + 1) (by omega) (by omega)]
        have hn : nend (toL ends) c = true := by unfold nend; rw [hc]; simpa using hm
        obtain ⟨j, hj, hj2, ha⟩ := ih (i + 1) k h3 (by omega) (by simp at hk; omega)
        refine ⟨j, hj, ?_, ?_⟩
        · rw [List.takeWhile_cons, hn]; simp; omega
        · rw [List.dropWhile_cons, hn]; exact ha
    · rw [if_pos rfl, if_pos (by omega), if_pos (by omega), if_pos (by omega)]
      have hn : nend (toL ends) c = false := by unfold nend; rw [hc]; simp
      refine ⟨i, rfl, by rw [List.takeWhile_cons, hn]; simp, by rw [List.dropWhile_cons, hn]; exact h⟩
theorem upTo_f (s ends : ByteArray) (c : UInt8) (l : Bs) (i k : Nat) (hs : s.size < 2147483648) (h : At s i (c :: l)) (hk : l.length < k) :
    ∃ j, Q.attrs_reader_upTo.f k s (i : Int) ends = some (ofL (c :: l.takeWhile (nend (toL ends))), s, ((j : Nat) : Int)) ∧ At s j (l.dropWhile (nend (toL ends))) := by
  unfold Q.attrs_reader_upTo.f
  obtain ⟨h1, h2, h3⟩ := h.cons
  rw [wrap_in ((i : Int) + 1) (by omega) (by omega)]
  obtain ⟨j, hj, hj2, ha⟩ := upToL0_f s ends i hs l (i + 1) k h3 (by omega) hk
  refine ⟨j, ?_, ha⟩
  rw [show ((i : Int) + 1) = ((i + 1 : Nat) : Int) from rfl, hj]
  have h4 : At s i ((c :: l.takeWhile (nend (toL ends))) ++ l.dropWhile (nend (toL ends))) := by
    rw [List.cons_append, take_drop_while]; exact h
  rw [← h4.ext, List.length_cons, hj2, show i + 1 + (l.takeWhile (nend (toL ends))).length = i + ((l.takeWhile (nend (toL ends))).length + 1) by omega]

/-! What stands between two quotes. -/
def nq (q c : UInt8) : Bool := !(c == q)
def quotedL (q : UInt8) (l : Bs) : Option (Bs × Bs) := match l.dropWhile (nq q) with
  | [] => none
  | _ :: r => some (l.takeWhile (nq q), r)
theorem while_split {q : UInt8} {a r : Bs} (h : a.count q = 0) : (a ++ q :: r).takeWhile (nq q) = a ∧ (a ++ q :: r).dropWhile (nq q) = q :: r := by
  induction a with
  | nil => simp [nq]
  | cons c a ih =>
    rw [List.count_cons] at h
    have hc : nq q c = true := by
      unfold nq
      cases e : c == q with
      | false => rfl
      | true => simp [e] at h
    obtain ⟨h1, h2⟩ := ih (by omega)
    rw [List.cons_append, List.takeWhile_cons, List.dropWhile_cons, hc]
    simp [h1, h2]
theorem while_none {q : UInt8} {a : Bs} (h : a.count q = 0) : a.dropWhile (nq q) = [] := by
  induction a with
  | nil => rfl
  | cons c a ih =>
    rw [List.count_cons] at h
    have hc : nq q c = true := by
      unfold nq
      cases e : c == q with
      | false => rfl
      | true => simp [e] at h
    rw [List.dropWhile_cons, hc]
    simpa using ih (by omega)
theorem quoted_f (s : ByteArray) (q : UInt8) (l : Bs) (i : Nat) (hs : s.size < 2147483648) (h : At s i (q :: l)) :
    (quotedL q l = none ∧ ∃ j, Q.attrs_reader_quoted.f s (i : Int) = some (⟨#[]⟩, false, s, j)) ∨
    ∃ v r, quotedL q l = some (v, r) ∧ ∃ j, Q.attrs_reader_quoted.f s (i : Int) = some (ofL v, true, s, ((j : Nat) : Int)) ∧ At s j r := by
  obtain ⟨h1, h2, h3⟩ := h.cons
  have h4 := h3.2
  unfold Q.attrs_reader_quoted.f
  rw [if_pos (by omega), if_pos (by omega), wrap_in ((i : Int) + 1) (by omega) (by omega), if_pos (by omega), if_pos (by omega), h2]
  unfold Q.strings_IndexByte.f
  simp only [Option.bind_some]
  have e1 : ((q.toNat : Int).toNat).toUInt8 = q := by rw [Int.toNat_natCast]; exact UInt8.ofNat_toNat
  have e2 : ((i : Int) + 1).toNat = i + 1 := by omega
  have e3 : (s.extract (i + 1) s.size).data.toList = l := by
    rw [show (s.extract (i + 1) s.size).data.toList = toL (s.extract (i + 1) s.size) from rfl, extract_toL, h3.1, List.take_of_length_le (by omega)]
  rw [e1, e2, e3]
  by_cases hc : l.count q = 0
  · left
    rw [indexByte_none hc, if_pos (by omega)]
    exact ⟨by unfold quotedL; rw [while_none hc], _, rfl⟩
  · right
    obtain ⟨j, hj, r, g1, g2, g3, g4⟩ := indexByte_some hc
    have hw := while_split (r := r) g2
    rw [← g1] at hw
    have hlt : (l.take j).length = j := by rw [List.length_take]; omega
    have hA : At s (i + 1) (l.take j ++ q :: r) := by rw [← g1]; exact h3
    have hB : At s (i + 1 + j + 1) r := by
      have := hA.skip.cons.2.2
      rw [hlt] at this; exact this
    rw [hj, if_neg (by omega), wrap_in ((i : Int) + 1 + (j : Int)) (by omega) (by omega), if_pos (by omega), if_pos (by omega)]
    refine ⟨l.take j, r, by unfold quotedL; rw [hw.2, hw.1], i + 1 + j + 1, ?_, hB⟩
    rw [wrap_in ((j : Int) + 1) (by omega) (by omega), wrap_in ((i : Int) + 1 + ((j : Int) + 1)) (by omega) (by omega)]
    have hx := hA.ext
    rw [hlt] at hx
    rw [show ((i : Int) + 1 + (j : Int)).toNat = i + 1 + j by omega, hx]
    rw [show (i : Int) + 1 + ((j : Int) + 1) = ((i + 1 + j + 1 : Nat) : Int) by omega]

/-! An attribute's value: the text, and what stands behind it; none: no quote ends it. -/
def valueTo (l : Bs) : Option (Bs × Bs) := match l with
  | [] => some ([], [])
  | c :: l => if c = 34 ∨ c = 39 then quotedL c l else if c = 62 then some ([], c :: l) else some (c :: l.takeWhile (nend [62]), l.dropWhile (nend [62]))
def valueL (l : Bs) : Option (Bs × Bs) := match l.dropWhile space with
  | [] => some ([], [])
  | c :: l => if c = 61 then valueTo (l.dropWhile space) else some ([], c :: l)
theorem beq_u8 (c d : UInt8) : (c == d) = true ↔ c = d := by simp
theorem valueTo_f (s : ByteArray) (hs : s.size < 2147483648) (l : Bs) (i k : Nat) (h : At s i l) (hk : l.length + 1 < k) :
    (valueTo l = none ∧ ∃ j, ((Q.attrs_reader_is.f s (i : Int) 34).bind fun bt132 => (if bt132.1 = true then (Q.attrs_reader_value.j0 k bt132.1 bt132.2.1 bt132.2.2) else ((Q.attrs_reader_is.f bt132.2.1 bt132.2.2 39).bind fun bt135 => (Q.attrs_reader_value.j0 k bt135.1 bt135.2.1 bt135.2.2)))) = some (⟨#[]⟩, false, s, j)) ∨
    ∃ v r, valueTo l = some (v, r) ∧ ∃ j, ((Q.attrs_reader_is.f s (i : Int) 34).bind fun bt132 => (if bt132.1 = true then (Q.attrs_reader_value.j0 k bt132.1 bt132.2.1 bt132.2.2) else ((Q.attrs_reader_is.f bt132.2.1 bt132.2.2 39).bind fun bt135 => (Q.attrs_reader_value.j0 k bt135.1 bt135.2.1 bt135.2.2)))) = some (ofL v, true, s, ((j : Nat) : Int)) ∧ At s j r := by
  obtain ⟨k, rfl⟩ : ∃ m, k = m + 1 := ⟨k - 1, by omega⟩
  have i34 := is_f s i l 34 h
  have i39 := is_f s i l 39 h
  have i62 := is_f s i l 62 h
  rw [show (((34 : UInt8).toNat : Nat) : Int) = 34 from rfl] at i34
  rw [show (((39 : UInt8).toNat : Nat) : Int) = 39 from rfl] at i39
  rw [show (((62 : UInt8).toNat : Nat) : Int) = 62 from rfl] at i62
  generalize h34 : headIs 34 l = b34 at i34
  generalize h39 : headIs 39 l = b39 at i39
  generalize h62 : headIs 62 l = b62 at i62
  rw [i34]
  simp only [Option.bind_some]
  cases l with
  | nil =>
    right
    have hn := h.nil
    obtain rfl : false = b34 := h34
    obtain rfl : false = b39 := h39
    obtain rfl : false = b62 := h62
    refine ⟨[], [], rfl, i, ?_, h⟩
    rw [if_neg (by simp), i39]
    simp only [Option.bind_some, Q.attrs_reader_value.j0]
    rw [if_neg (by simp), i62]
    simp only [Option.bind_some]
    rw [if_neg (by simp), if_pos (by omega)]
    rfl
  | cons c l =>
    have h34 : (c == 34) = b34 := h34
    have h39 : (c == 39) = b39 := h39
    have h62 : (c == 62) = b62 := h62
    by_cases hq : c = 34 ∨ c = 39
    · have hgo : (if b34 = true then (Q.attrs_reader_value.j0 (k + 1) b34 s (i : Int)) else ((Q.attrs_reader_is.f s (i : Int) 39).bind fun bt135 => (Q.attrs_reader_value.j0 (k + 1) bt135.1 bt135.2.1 bt135.2.2))) = Q.attrs_reader_value.j0 (k + 1) true s (i : Int) := by
        cases b34 with
        | true => rw [if_pos rfl]
        | false =>
          have : c = 39 := by
            rcases hq with hq | hq
            · subst hq; cases h34
            · exact hq
          obtain rfl : true = b39 := by rw [← h39, this]; rfl
          rw [if_neg (by simp), i39]
          rfl
      rw [hgo]
      simp only [Q.attrs_reader_value.j0]
      rw [if_pos trivial]
      have hv : valueTo (c :: l) = quotedL c l := by simp only [valueTo]; rw [if_pos hq]
      rw [hv]
      rcases quoted_f s c l i hs h with ⟨g1, j, g2⟩ | ⟨v, r, g1, j, g2, g3⟩
      · left
        refine ⟨g1, j, ?_⟩
        rw [g2]; rfl
      · right
        refine ⟨v, r, g1, j, ?_, g3⟩
        rw [g2]; rfl
    · right
      obtain rfl : false = b34 := by rw [← h34]; symm; simpa using (fun e => hq (Or.inl e))
      obtain rfl : false = b39 := by rw [← h39]; symm; simpa using (fun e => hq (Or.inr e))
      rw [if_neg (by simp), i39]
      simp only [Option.bind_some, Q.attrs_reader_value.j0]
      rw [if_neg (by simp), i62]
      simp only [Option.bind_some]
      by_cases hc : c = 62
      · have hv : valueTo (c :: l) = some ([], c :: l) := by simp only [valueTo]; rw [if_neg hq, if_pos hc]
        obtain rfl : true = b62 := by rw [← h62]; symm; simpa using hc
        rw [hv]
        refine ⟨[], c :: l, rfl, i, ?_, h⟩
        rw [if_pos rfl]
        rfl
      · have hv : valueTo (c :: l) = some (c :: l.takeWhile (nend [62]), l.dropWhile (nend [62])) := by simp only [valueTo]; rw [if_neg hq, if_neg hc]
        obtain rfl : false = b62 := by rw [← h62]; symm; simpa using hc
        rw [hv]
        obtain ⟨h1, h2, h3⟩ := h.cons
        obtain ⟨j, g1, g2⟩ := upTo_f s ⟨#[62]⟩ c l i k hs h (by simp at hk; omega)
        refine ⟨_, _, rfl, j, ?_, g2⟩
        rw [if_neg (by simp), if_neg (by omega), g1]
        rfl
theorem value_f (s : ByteArray) (hs : s.size < 2147483648) (l : Bs) (i k : Nat) (h : At s i l) (hk : l.length + 1 < k) :
    (valueL l = none ∧ ∃ j, Q.attrs_reader_value.f k s (i : Int) = some (⟨#[]⟩, false, s, j)) ∨
    ∃ v r, valueL l = some (v, r) ∧ ∃ j, Q.attrs_reader_value.f k s (i : Int) = some (ofL v, true, s, ((j : Nat) : Int)) ∧ At s j r := by
  unfold Q.attrs_reader_value.f
  obtain ⟨j, hj, ha⟩ := spaces_f s hs l i k h (by omega)
  rw [hj]
  simp only [Option.bind_some]
  have hlen : (l.dropWhile space).length ≤ l.length := (List.dropWhile_suffix _).length_le
  have i61 := is_f s j _ 61 ha
  rw [show (((61 : UInt8).toNat : Nat) : Int) = 61 from rfl] at i61
  generalize h61 : headIs 61 (l.dropWhile space) = b61 at i61
  rw [i61]
  simp only [Option.bind_some]
  unfold valueL
  cases hl : l.dropWhile space with
  | nil =>
    right
    rw [hl] at ha h61
    obtain rfl : false = b61 := h61
    refine ⟨[], [], rfl, j, ?_, ha⟩
    rw [if_neg (by simp)]; rfl
  | cons c l2 =>
    rw [hl] at ha hlen h61
    have h61 : (c == 61) = b61 := h61
    simp only
    by_cases hc : c = 61
    · obtain rfl : true = b61 := by rw [← h61]; symm; simpa using hc
      rw [if_pos rfl, if_pos hc]
      obtain ⟨h1, h2, h3⟩ := ha.cons
      rw [wrap_in ((j : Int) + 1) (by omega) (by omega)]
      obtain ⟨j2, hj2, ha2⟩ := spaces_f s hs l2 (j + 1) k h3 (by simp at hlen; omega)
      rw [show ((j : Int) + 1) = ((j + 1 : Nat) : Int) from rfl, hj2]
      simp only [Option.bind_some]
      have hlen2 : (l2.dropWhile space).length ≤ l2.length := (List.dropWhile_suffix _).length_le
      exact valueTo_f s hs _ j2 k ha2 (by simp at hlen; omega)
    · right
      obtain rfl : false = b61 := by rw [← h61]; symm; simpa using hc
      rw [if_neg hc, if_neg (by simp)]
      exact ⟨[], c :: l2, rfl, j, rfl, ha⟩
theorem quotedL_len {q : UInt8} {l v r : Bs} (h : quotedL q l = some (v, r)) : v.length + r.length < l.length := by
  unfold quotedL at h
  have := congrArg List.length (take_drop_while (nq q) l)
  rw [List.length_append] at this
  cases hd : l.dropWhile (nq q) with
  | nil => rw [hd] at h; cases h
  | cons c r' =>
    rw [hd] at h this
    injection h with h; injection h with h1 h2
    rw [← h1, ← h2]
    simp at this; omega
theorem valueTo_len {l v r : Bs} (h : valueTo l = some (v, r)) : v.length + r.length ≤ l.length := by
  unfold valueTo at h
  cases l with
  | nil => simp at h; obtain ⟨rfl, rfl⟩ := h; simp
  | cons c l =>
    simp only at h
    split at h
    · have := quotedL_len h; simp; omega
    · split at h
      · injection h with h; injection h with h1 h2; subst h1 h2; simp
      · injection h with h; injection h with h1 h2; subst h1 h2
        have := congrArg List.length (take_drop_while (nend [62]) l)
        rw [List.length_append] at this
        simp; omega
theorem valueL_len {l v r : Bs} (h : valueL l = some (v, r)) : v.length + r.length ≤ l.length := by
  unfold valueL at h
  have hlen : (l.dropWhile space).length ≤ l.length := (List.dropWhile_suffix _).length_le
  cases hl : l.dropWhile space with
  | nil => rw [hl] at h; simp at h; obtain ⟨rfl, rfl⟩ := h; simp
  | cons c l2 =>
    rw [hl] at h hlen
    simp only at h
    have hlen2 : (l2.dropWhile space).length ≤ l2.length := (List.dropWhile_suffix _).length_le
    split at h
    · have := valueTo_len h; simp at hlen; omega
    · injection h with h; injection h with h1 h2; subst h1 h2; simpa using hlen

/-! Attributes, to a tag's end: what they are, whether it closes itself, what stands behind it. -/
abbrev Att := Bs × Bs
def has (acc : List Att) (nm : Bs) : Bool := acc.any fun a => a.1 == nm
def add (acc : List Att) (nm v : Bs) : List Att := if has acc nm = true then acc else acc ++ [(nm, v)]
noncomputable def readN : Nat → Bs → List Att → Option (List Att × Bool × Bs)
  | 0, _, _ => none
  | n + 1, l, acc => match l.dropWhile space with
    | [] => none
    | c :: r =>
      if c = 62 then some (acc, false, r) else
      if c = 47 then (if headIs 62 r = true then some (acc, true, r.drop 1) else readN n r acc) else
      match valueL (r.dropWhile (nend [47, 62, 61])) with
      | none => none
      | some (v, r2) => readN n r2 (add acc (clean (lower (c :: r.takeWhile (nend [47, 62, 61])))) (clean (decode true v)))
noncomputable def readL (l : Bs) : Option (List Att × Bool × Bs) := readN (l.length + 1) l []
end Go.Proofs.YtfhjfidkcdcjnaaDoor.Fl

/- 'ref.Decode': all references of a text: the walk. -/
namespace Go.Proofs.YtfhjfidkcdcjnaaDoor.Q
open Go.RowKit Go.Proofs.YtfhjfidkcdcjnaaDoorW.PrintWords Go.Proofs.YtfhjfidkcdcjnaaDoorW.PrintLast Go.Proofs.YtfhjfidkcdcjnaaDoorW.PrintMore
set_option linter.unusedVariables false
set_option linter.unusedSimpArgs false

theorem isBuilder_below {T e : TypeId} {B b : Nat} {bs : List Value} {W W' : World} (h : Lib.IsBuilder T e B b bs W) (hb : Below W.heap.size W W') : Lib.IsBuilder T e B b bs W' := by
  have one : ∀ p, Lib.BuilderAt T e B b p bs W → Lib.BuilderAt T e B b p bs W' := by
    intro p h
    have hlt := h.lt
    obtain ⟨hB, v, hv, hown, hne⟩ := h
    exact ⟨hB, v, (hb.block b hlt).trans hv, hown.kept (row := none) ⟨hb.os, hb.tape, hb.output, hb.size, fun k hk _ => hb.block k hk⟩ (Classical.em _), hne⟩
  exact h.elim (fun x => .inl (one _ x)) (fun x => .inr (one _ x))

def DecJ (s : ByteArray) (attr : Bool) (w : World) (a' : Act) (w' : World) : Prop :=
  ∃ (i : Nat) (acc : List UInt8) (u7 u8 u9 u10 u11 u12 u13 u14 u15 u16 u17 u18 u19 u20 u21 u22 u23 u24 u25 u26 u27 u28 u29 u30 u31 u32 u33 u34 u35 u36 u37 : Value), a' = { tmps := #[.string s, .bool attr, undef, undef, .string ⟨#[]⟩, .pointer (some ⟨w.heap.size, 0, none⟩), .int .i64 i, u7, u8, u9, u10, u11, u12, u13, u14, u15, u16, u17, u18, u19, u20, u21, u22, u23, u24, u25, u26, u27, u28, u29, u30, u31, u32, u33, u34, u35, u36, u37], defers := [] } ∧ i ≤ s.size ∧
    Hid (Lib.IsBuilder 68 5 w.heap.size w.heap.size (Lib.byteCells acc) w') ∧ Hid (Below w.heap.size w w') ∧ Hid (acc ++ Fl.decode attr ((Fl.toL s).drop i) = Fl.decode attr (Fl.toL s)) ∧ acc.length ≤ 8 * i

set_option maxHeartbeats 16000000 in
set_option maxRecDepth 1000000 in
theorem decode_calls (s : ByteArray) (attr : Bool) (w : World) (hG : Gl w) (hs : s.size < 2147483648) :
    Calls Tryd.prog 28 #[.string s, .bool attr] w fun e w' => e = .returned (.string (Fl.ofL (Fl.decode attr (Fl.toL s)))) ∧ Below w.heap.size w w' := by
  have HG := Lib.hid hG
  clear hG
  have L := Tryd.lays154
  have X := Tryd.Builder_Extra_154
  have hlenL : (Fl.toL s).length = s.size := Fl.toL_length s
  go_enter Tryd.func28, Tryd.ntmps28
  go_wp2
  refine wp_scope_once 0 (DecJ s attr w) (fun a' _ => s.size - (intOf (a'.tmps.getD 6 undef)).toNat) rfl ?_ ?_
  · rintro a' w' ⟨i, acc, u7, u8, u9, u10, u11, u12, u13, u14, u15, u16, u17, u18, u19, u20, u21, u22, u23, u24, u25, u26, u27, u28, u29, u30, u31, u32, u33, u34, u35, u36, u37, rfl, hi, HB, HW, HR, hacc⟩
    have hBw : w.heap.size ≤ w'.heap.size := HW.out.size
    have c1 : (0 : Int) ≤ (i : Int) := by omega
    have c2 : (i : Int) ≤ (s.size : Int) := by omega
    have hsz : (s.extract i s.size).size = s.size - i := Fl.size_extract s i s.size (Nat.le_refl _)
    have hex : Fl.toL (s.extract i s.size) = (Fl.toL s).drop i := by
      rw [Fl.extract_toL, List.take_of_length_le (by rw [List.length_drop, hlenL]; omega)]
    have hI := fun j (h : Lib.indexByte ((Fl.toL s).drop i) 38 = j) W => strings_IndexByte.calls (s.extract i s.size) 38 j W (by
      unfold strings_IndexByte.f
      rw [← h, ← hex]; rfl)
    by_cases hc : ((Fl.toL s).drop i).count 38 = 0
    · have hI1 := hI (-1) (Fl.indexByte_none hc)
      have hfin : Lib.byteCells acc ++ Lib.strCells (s.extract i s.size) = Lib.byteCells (Fl.decode attr (Fl.toL s)) := by
        rw [← HR.out, Fl.decode_same attr _ hc, ← hex, Lib.strCells_eq, ← Lib.byteCells_append]; rfl
      have HF := Lib.hid hfin
      clear hfin hI hex hc
      go_wp2_with (first | (go_at_call 37; refine (hI1 _).mono ?_; rintro e w1 ⟨rfl, ⟨⟨n1, rfl⟩⟩⟩) | (go_at_call 39; fail))
      have hbw1 := Below.size HW.out
      have HBn : Lib.IsBuilder 68 5 w.heap.size w.heap.size (Lib.byteCells acc) (w'.drewN n1) := HB.out
      refine (Any.Builder_WriteString { L with } X w.heap.size w.heap.size _ _ (w'.drewN n1) HBn (by rw [Lib.byteCells_length, hsz]; omega) hBw).mono ?_
      rintro e w3 ⟨rfl, h3, hb3⟩
      rw [HF.out] at h3
      have H3 := Lib.hid (Or.inr h3 : Lib.IsBuilder 68 5 w.heap.size w.heap.size _ w3)
      have Hb3 := Lib.hid ((pw_below_drewN HW.out n1).trans hb3)
      have hBw3 : w.heap.size ≤ w3.heap.size := Hb3.out.size
      clear h3 hb3
      go_wp2_with fail
      refine (Any.Builder_String_any { L with } X w.heap.size w.heap.size _ w3 H3.out hBw3).mono ?_
      rintro e w5 ⟨rfl, hb5⟩
      have Hb5 := Lib.hid (Hb3.out.trans hb5)
      clear hb5
      go_wp2
      simp only [Exit.jump]
      go_ret
      exact ⟨rfl, Hb5.out⟩
    · obtain ⟨j, hj, r, h1, h3, h2, h4⟩ := Fl.indexByte_some (l := (Fl.toL s).drop i) (c := 38) hc
      have hI1 := hI j hj
      rw [List.length_drop, hlenL] at h4
      have hj2 : (Fl.toL s).drop (i + j) = 38 :: r := by
        rw [← List.drop_drop, h1]
        have : (((Fl.toL s).drop i).take j).length = j := by rw [List.length_take, List.length_drop, hlenL]; omega
        rw [List.drop_append_of_le_length (by omega)]
        simp [this]
      have hex2 : Fl.toL (s.extract i (i + j)) = ((Fl.toL s).drop i).take j := by rw [Fl.extract_toL, Nat.add_sub_cancel_left]
      have hsz2 : (s.extract i (i + j)).size = j := by rw [Fl.size_extract s i (i + j) (by omega)]; omega
      have hRd := fun W hW => read_calls s (i + j) attr r W hW hs hj2
      have hrl := Fl.refRead_len attr r
      have hrlen := Fl.drop_length (Fl.drop_cons hj2).2.2
      have hrest : (Fl.toL s).drop (i + j + 1 + (Fl.refRead attr r).2) = r.drop (Fl.refRead attr r).2 := by
        rw [← List.drop_drop, (Fl.drop_cons hj2).2.2]
      have hnext : (acc ++ ((Fl.toL s).drop i).take j ++ (Fl.refRead attr r).1) ++ Fl.decode attr ((Fl.toL s).drop (i + j + 1 + (Fl.refRead attr r).2)) = Fl.decode attr (Fl.toL s) := by
        rw [← HR.out, hrest]
        conv => rhs; rw [h1]
        rw [Fl.decode_append attr _ _ h3, Fl.decode_amp]
        simp only [List.append_assoc]
      have hcell : Lib.byteCells acc ++ Lib.strCells (s.extract i (i + j)) = Lib.byteCells (acc ++ ((Fl.toL s).drop i).take j) := by
        rw [← hex2, Lib.strCells_eq, ← Lib.byteCells_append]; rfl
      have htl : (((Fl.toL s).drop i).take j).length = j := by rw [List.length_take, List.length_drop, hlenL]; omega
      generalize ((Fl.toL s).drop i).take j = pre at *
      generalize hRR : Fl.refRead attr r = RR at *
      obtain ⟨tx, m⟩ := RR
      simp only at hrl hRd hnext hrest
      have hcell2 : Lib.byteCells (acc ++ pre) ++ Lib.strCells (Fl.ofL tx) = Lib.byteCells (acc ++ pre ++ tx) := by
        rw [Lib.strCells_eq, ← Lib.byteCells_append]; rfl
      have HN := Lib.hid hnext
      have HC := Lib.hid hcell
      have HC2 := Lib.hid hcell2
      have hal : (acc ++ pre).length ≤ 8 * (i + j) := by rw [List.length_append, htl]; omega
      have hal2 : (acc ++ pre ++ tx).length ≤ 8 * (i + j + 1 + m) := by rw [List.length_append]; omega
      have d3 : (i : Int) ≤ (i : Int) + (j : Int) := by omega
      have d4 : (i : Int) + (j : Int) ≤ (s.size : Int) := by omega
      have d7 : ((i : Int) + (j : Int)).toNat = i + j := by omega
      clear hnext hcell hcell2 HR hrest h1 h2 h3 hj hj2 hex hex2 hI hc hRR htl
      go_wp2_with (first | (go_at_call 37; refine (hI1 _).mono ?_; rintro e w1 ⟨rfl, ⟨⟨n1, rfl⟩⟩⟩) | (go_at_call 39; fail))
      have HBn : Lib.IsBuilder 68 5 w.heap.size w.heap.size (Lib.byteCells acc) (w'.drewN n1) := HB.out
      refine (Any.Builder_WriteString { L with } X w.heap.size w.heap.size _ (s.extract i (i + j)) (w'.drewN n1) HBn (by rw [Lib.byteCells_length, hsz2]; omega) hBw).mono ?_
      rintro e w3 ⟨rfl, h3, hb3⟩
      rw [HC.out] at h3
      have H3 := Lib.hid h3
      have Hb3 := Lib.hid ((pw_below_drewN HW.out n1).trans hb3)
      have hBw3 : w.heap.size ≤ w3.heap.size := Hb3.out.size
      clear h3 hb3 HBn
      go_wp2_with fail
      refine (hRd _ (Gl.below HG.out Hb3.out)).mono ?_
      rintro e w4 ⟨rfl, hb4⟩
      have H4 := Lib.hid (isBuilder_below (Or.inr H3.out) hb4)
      have Hb4 := Lib.hid (Hb3.out.trans (hb4.mono hBw3))
      have hBw4 : w.heap.size ≤ w4.heap.size := Hb4.out.size
      clear hb4
      go_wp2_with fail
      refine (Any.Builder_WriteString { L with } X w.heap.size w.heap.size _ (Fl.ofL tx) w4 H4.out (by rw [Lib.byteCells_length, Fl.ofL_size]; omega) hBw4).mono ?_
      rintro e w5 ⟨rfl, h5, hb5⟩
      rw [HC2.out] at h5
      have H5 := Lib.hid (Or.inr h5 : Lib.IsBuilder 68 5 w.heap.size w.heap.size _ w5)
      have Hb5 := Lib.hid (Hb4.out.trans hb5)
      clear h5 hb5
      go_wp2
      go_step3
      refine ⟨rfl, ⟨i + j + 1 + m, acc ++ pre ++ tx, _, _, _, _, _, _, _, _, _, _, _, _, _, _, _, _, _, _, _, _, _, _, _, _, _, _, _, _, _, _, _, rfl, by omega, H5, Hb5, HN, hal2⟩, ?_⟩
      simp [intOf]; omega
  · intro pass
    go_wp2
    go_step3
    rename_i hK
    exact hK _ _ (pass _ _ ⟨0, [], _, _, _, _, _, _, _, _, _, _, _, _, _, _, _, _, _, _, _, _, _, _, _, _, _, _, _, _, _, _, _, rfl, Nat.zero_le _, Lib.hid (Lib.fresh_isBuilder _ _ _), Lib.hid ((Below.refl w.heap.size w).alloc (Nat.le_refl _) _), Lib.hid rfl, by simp⟩)

end Go.Proofs.YtfhjfidkcdcjnaaDoor.Q

/- 'slices.ContainsFunc' with the one function that 'attrs.Read' hands it: the walk. -/
namespace Go.Proofs.YtfhjfidkcdcjnaaDoor.Q
open Go.RowKit Go.Proofs.YtfhjfidkcdcjnaaDoorW.PrintWords Go.Proofs.YtfhjfidkcdcjnaaDoorW.PrintLast Go.Proofs.YtfhjfidkcdcjnaaDoorW.PrintMore
set_option linter.unusedVariables false
set_option linter.unusedSimpArgs false

set_option maxHeartbeats 4000000 in
set_option maxRecDepth 100000 in
theorem same_calls (b0 b1 nm vl : ByteArray) (g : Nat) (w : World) (hc : w.heap[g]? = some (.cells #[.string nm, .string vl] 27 (0, 0))) :
    Calls Tryd.prog 30 #[.agg #[.string b0, .string b1], .pointer (some ⟨g, 0, none⟩)] w fun e w' => e = .returned (.bool (b0.toList == nm.toList)) ∧ Below w.heap.size w w' := by
  have hlt := blk_lt hc
  have hcell : (w.alloc (.cells #[.string b0, .string b1] 27)).cell? ⟨g, 0, none⟩ = some (.string nm) := by
    have hb := (Below.refl w.heap.size w).alloc (Nat.le_refl _) (.cells #[.string b0, .string b1] 27)
    rw [hb.cell hlt]
    exact (blk_cell hc 0).trans rfl
  go_enter Tryd.func30, Tryd.ntmps30
  go_wp2
  go_ret
  exact ⟨by first | rfl | trace_state, (Below.refl w.heap.size w).alloc (Nat.le_refl _) _⟩

/-- The name is there. -/
def hasN (nm : ByteArray) (xs : List S27) : Bool := xs.any fun x => x.f0.toList == nm.toList
set_option maxHeartbeats 4000000 in
set_option maxRecDepth 100000 in
theorem index_calls (A : Option Addr) (c : Nat) (xs : List S27) (nm vl : ByteArray) (g : Nat) (w : World) (hx : Kd.C k27 w A xs.length xs) (hl : xs.length < 4294967296) (hc : w.heap[g]? = some (.cells #[.string nm, .string vl] 27 (0, 0))) :
    Calls Tryd.prog 42 #[.slice A xs.length c, .func (.func 30) #[] #[.pointer (some ⟨g, 0, none⟩)]] w fun e w' => ∃ j : Int, e = .returned (.int .i64 j) ∧ ((0 ≤ j) ↔ hasN nm xs = true) ∧ Below w.heap.size w w' := by
  go_enter Tryd.func42, Tryd.ntmps42
  go_wp2
  go_loopg [8] xs.length (fun q s8 wx => ∃ (i : Nat), s8 = .int .i64 i ∧ i + q = xs.length ∧ Hid (Below w.heap.size w wx) ∧ Hid (hasN nm (xs.take i) = false))
  case atStart => exact ⟨0, rfl, by omega, Lib.hid (Below.refl _ _), Lib.hid rfl⟩
  case round =>
    obtain ⟨i, rfl, hi, HB, HT⟩ := hrel
    have hx2 := Kd.C_below hx HB.out
    have hc2 := (HB.out.block g (blk_lt hc)).trans hc
    cases gk with
    | zero =>
      have hxi : ¬ ((i : Int) < (xs.length : Int)) := by omega
      have hii : i = xs.length := by omega
      subst hii
      go_wp2
      go_ret
      refine ⟨_, rfl, ?_, HB.out⟩
      have := HT.out
      rw [List.take_length] at this
      rw [this]; decide
    | succ q =>
      have hxi : (i : Int) < (xs.length : Int) := by omega
      obtain ⟨ad, rfl, hx0, hx1⟩ := at_T27 hx2 (i : Int) (by omega) hxi
      rw [Int.toNat_natCast] at hx0 hx1
      have hcl := fun W h => same_calls (rd_T27 xs (i : Int)).f0 (rd_T27 xs (i : Int)).f1 nm vl g W h
      go_wp2_with fail
      refine (hcl wr hc2).mono ?_
      rintro e w1 ⟨rfl, hb⟩
      have hrd : rd_T27 xs (i : Int) = xs[i]'(by omega) := by
        unfold rd_T27; rw [Int.toNat_natCast, List.getD_eq_getElem?_getD, List.getElem?_eq_getElem (by omega)]; rfl
      have hone : ((rd_T27 xs (i : Int)).f0.toList == nm.toList) = true → hasN nm xs = true := by
        intro h
        unfold hasN
        rw [List.any_eq_true]
        exact ⟨xs[i]'(by omega), List.getElem_mem (by omega), by rw [← hrd]; exact h⟩
      have hnone : ((rd_T27 xs (i : Int)).f0.toList == nm.toList) = false → hasN nm (xs.take (i + 1)) = false := by
        intro h
        unfold hasN
        rw [List.take_add_one, List.getElem?_eq_getElem (by omega), List.any_append]
        have h0 := HT.out
        unfold hasN at h0
        rw [h0, ← hrd]
        simp only [Option.toList_some, List.any_cons, List.any_nil, h, Bool.or_false]
      have HB1 := Lib.hid (HB.out.trans (hb.mono HB.out.size))
      clear hb hcl hx0 hx1 hx2 hrd
      generalize ((rd_T27 xs (i : Int)).f0.toList == nm.toList) = b at *
      generalize (rd_T27 xs (i : Int)) = x at *
      cases b with
      | true =>
        have H1 := Lib.hid (hone rfl)
        clear hone hnone
        go_wp2
        go_ret
        exact ⟨_, rfl, by rw [H1.out]; simp, HB1.out⟩
      | false =>
        have H1 := Lib.hid (hnone rfl)
        clear hone hnone
        have hw : wrap64 ((i : Int) + 1) = ((i + 1 : Nat) : Int) := by unfold wrap64; omega
        have HW := Lib.hid hw
        clear hw
        go_wp2
        go_roundg q
        case measure => omega
        case rel => exact ⟨i + 1, by first | rfl | exact congrArg (Value.int .i64) (by first | exact HW.out | (unfold wrap64; omega)), by omega, HB1, H1⟩

set_option maxHeartbeats 4000000 in
set_option maxRecDepth 100000 in
theorem contains_calls (A : Option Addr) (c : Nat) (xs : List S27) (nm vl : ByteArray) (g : Nat) (w : World) (hx : Kd.C k27 w A xs.length xs) (hl : xs.length < 4294967296) (hc : w.heap[g]? = some (.cells #[.string nm, .string vl] 27 (0, 0))) :
    Calls Tryd.prog 29 #[.slice A xs.length c, .func (.func 30) #[] #[.pointer (some ⟨g, 0, none⟩)]] w fun e w' => e = .returned (.bool (hasN nm xs)) ∧ Below w.heap.size w w' := by
  have hi := index_calls A c xs nm vl g w hx hl hc
  generalize hasN nm xs = b at *
  clear hx hl hc
  go_enter Tryd.func29, Tryd.ntmps29
  go_wp2_with (first | (go_at_call 42; refine hi.mono ?_; rintro e w1 ⟨j, rfl, hj, hb⟩; have HB := Lib.hid hb; have HJ := Lib.hid hj; clear hb hj))
  go_ret
  refine ⟨?_, HB.out⟩
  have := HJ.out
  cases b
  · have hj : ¬ (0 ≤ j) := fun h => by have := this.1 h; cases this
    simp [hj]
  · have hj : 0 ≤ j := this.2 rfl
    simp [hj]
end Go.Proofs.YtfhjfidkcdcjnaaDoor.Q

/- 'attrs.Read': attributes, to a tag's end: the walk. -/
namespace Go.Proofs.YtfhjfidkcdcjnaaDoor.Fl
open Go
theorem readN_len : ∀ (n : Nat) (l : Bs) (acc as_ : List Att) (b : Bool) (r : Bs), readN n l acc = some (as_, b, r) → r.length < l.length := by
  intro n
  induction n with
  | zero => intro l acc as_ b r h; simp [readN] at h
  | succ n ih =>
    intro l acc as_ b r h
    have hlen : (l.dropWhile space).length ≤ l.length := (List.dropWhile_suffix _).length_le
    unfold readN at h
    cases hl : l.dropWhile space with
    | nil => rw [hl] at h; cases h
    | cons c l2 =>
      rw [hl] at h hlen
      simp only [List.length_cons] at hlen
      simp only at h
      split at h
      · injection h with h; injection h with h1 h2; injection h2 with h2 h3; subst h3; omega
      · split at h
        · split at h
          · injection h with h; injection h with h1 h2; injection h2 with h2 h3; subst h3
            rw [List.length_drop]; omega
          · have := ih _ _ _ _ _ h; omega
        · cases hv : valueL (l2.dropWhile (nend [47, 62, 61])) with
          | none => rw [hv] at h; cases h
          | some p =>
            obtain ⟨v, r2⟩ := p
            rw [hv] at h
            have h1 := ih _ _ _ _ _ h
            have h2 := valueL_len hv
            have h3 : (l2.dropWhile (nend [47, 62, 61])).length ≤ l2.length := (List.dropWhile_suffix _).length_le
            omega
theorem add_len (acc : List Att) (nm v : Bs) : (add acc nm v).length ≤ acc.length + 1 := by
  unfold add; split <;> simp
theorem slash_close (c : UInt8) (r : Bs) : (lower ((c :: r).take (⟨#[47, 62]⟩ : ByteArray).size) == toL (⟨#[47, 62]⟩ : ByteArray)) = (c == 47 && headIs 62 r) := by
  have h1 : ∀ c, (lw c == 47) = (c == 47) := fun c => by
    have := byteAll (fun x => (lw x == 47) == (x == 47)) (by decide +kernel) c
    simpa using this
  have h2 : ∀ c, (lw c == 62) = (c == 62) := fun c => by
    have := byteAll (fun x => (lw x == 62) == (x == 62)) (by decide +kernel) c
    simpa using this
  show (lower ((c :: r).take 2) == [47, 62]) = _
  cases r with
  | nil =>
    show ([lw c] == [47, 62]) = _
    simp [headIs]
  | cons d r =>
    show ([lw c, lw d] == [47, 62]) = _
    show ((lw c == 47) && ((lw d == 62) && true)) = ((c == 47) && (d == 62))
    rw [h1, h2, Bool.and_true]
end Go.Proofs.YtfhjfidkcdcjnaaDoor.Fl
namespace Go.Proofs.YtfhjfidkcdcjnaaDoor.Q
open Go.RowKit Go.Proofs.YtfhjfidkcdcjnaaDoorW.PrintWords Go.Proofs.YtfhjfidkcdcjnaaDoorW.PrintLast Go.Proofs.YtfhjfidkcdcjnaaDoorW.PrintMore
set_option linter.unusedVariables false
set_option linter.unusedSimpArgs false

theorem results_tmp4 {fn : Func} {t u v x : Tmp} (h : fn.results = #[.tmp t, .tmp u, .tmp v, .tmp x]) (tmps : Array Value) (P : Program) (w : World) :
    (results fn tmps).run P w = .ok (.tuple #[tmps.getD t undef, tmps.getD u undef, tmps.getD v undef, tmps.getD x undef]) w := by
  simp [results, h]

def toS (a : Fl.Att) : S27 := ⟨Fl.ofL a.1, Fl.ofL a.2⟩
theorem hasN_toS (nm : Fl.Bs) (acc : List Fl.Att) : hasN (Fl.ofL nm) (acc.map toS) = Fl.has acc nm := by
  unfold hasN Fl.has
  rw [List.any_map]
  congr 1
  funext a
  show ((Fl.ofL a.1).toList == (Fl.ofL nm).toList) = (a.1 == nm)
  rw [Fl.toList_toL, Fl.toList_toL]; rfl
/-- What the call has made, and what it keeps of it. -/
structure AttS (s : ByteArray) (w : World) (i : Nat) (acc : List Fl.Att) (v : Value) (nm vl : ByteArray) (w' : World) : Prop where
  rd : IsS50 w w' w.heap.size s (i : Int)
  at_ : w'.heap[w.heap.size + 1]? = some (.cells #[.string nm, .string vl] 27 (0, 0))
  be : Below w.heap.size w w'
  ro : Kd.R k27 27 w' w.heap.size (fun k => k ≠ w.heap.size ∧ k ≠ w.heap.size + 1) v (acc.map toS)
theorem AttS.below {s : ByteArray} {w : World} {i : Nat} {acc : List Fl.Att} {v : Value} {nm vl : ByteArray} {w' w1 : World} (h : AttS s w i acc v nm vl w') (hb : Below w'.heap.size w' w1) : AttS s w i acc v nm vl w1 :=
  ⟨h.rd.below hb, (hb.block _ (blk_lt h.at_)).trans h.at_, h.be.trans (hb.mono h.be.size), Kd.R_below h.ro hb⟩
theorem AttS.keep {s : ByteArray} {w : World} {i j : Nat} {acc : List Fl.Att} {v : Value} {nm vl : ByteArray} {w' w1 : World} (h : AttS s w i acc v nm vl w') (hi : IsS50 w w1 w.heap.size s (j : Int)) (hb : Below w.heap.size w w1) (hk : KeepBut w' w1 w.heap.size none) : AttS s w j acc v nm vl w1 :=
  ⟨hi, (hk.2 _ (blk_lt h.at_) (by omega) (by simp)).trans h.at_, hb, Kd.R_keep h.ro hk (fun _ h => h.1)⟩
theorem AttS.name {s : ByteArray} {w : World} {i : Nat} {acc : List Fl.Att} {v : Value} {nm vl : ByteArray} {w' : World} (h : AttS s w i acc v nm vl w') (x : ByteArray) : AttS s w i acc v x vl (w'.setCell ⟨w.heap.size + 1, 0, none⟩ (.string x)) :=
  ⟨h.rd.far (by simp) _, by simpa using blk_set h.at_ 0 (.string x), below_set h.be (Nat.le_succ _), Kd.R_far h.ro (fun _ hk => hk.2) _⟩
theorem AttS.val {s : ByteArray} {w : World} {i : Nat} {acc : List Fl.Att} {v : Value} {nm vl : ByteArray} {w' : World} (h : AttS s w i acc v nm vl w') (x : ByteArray) : AttS s w i acc v nm x (w'.setCell ⟨w.heap.size + 1, 1, none⟩ (.string x)) :=
  ⟨h.rd.far (by simp) _, by simpa using blk_set h.at_ 1 (.string x), below_set h.be (Nat.le_succ _), Kd.R_far h.ro (fun _ hk => hk.2) _⟩
theorem AttS.move {s : ByteArray} {w : World} {i j : Nat} {acc : List Fl.Att} {v : Value} {nm vl : ByteArray} {w' : World} (h : AttS s w i acc v nm vl w') : AttS s w j acc v nm vl (w'.setCell ⟨w.heap.size, 1, none⟩ (.int .i64 (j : Int))) :=
  ⟨h.rd.set_1 _, (Below.heap_setCell _ _ _ _ (by simp)).trans h.at_, below_set h.be (Nat.le_refl _), Kd.R_far h.ro (fun _ hk => hk.1) _⟩

theorem AttS.new (s : ByteArray) (w : World) (i : Nat) : AttS s w i [] (.slice none 0 0) ⟨#[]⟩ ⟨#[]⟩ ((w.alloc (.cells #[.string s, .int .i64 (i : Int)] 50)).alloc (.cells #[.string ⟨#[]⟩, .string ⟨#[]⟩] 27)) := by
  refine ⟨(IsS50.new w w s (i : Int) (Below.refl _ _)).alloc _, ?_, below_alloc (below_alloc (Below.refl _ _) _) _, Kd.R_nil _ _ _ _ _⟩
  have := heap_alloc_new (w.alloc (.cells #[.string s, .int .i64 (i : Int)] 50)) (.cells #[.string ⟨#[]⟩, .string ⟨#[]⟩] 27)
  simpa using this

def attMu (s : ByteArray) (w w' : World) : Nat := match w'.cell? ⟨w.heap.size, 1, none⟩ with
  | some (.int _ n) => s.size - n.toNat
  | _ => 0
theorem AttS.mu {s : ByteArray} {w : World} {i : Nat} {acc : List Fl.Att} {v : Value} {nm vl : ByteArray} {w' : World} (h : AttS s w i acc v nm vl w') : attMu s w w' = s.size - i := by
  unfold attMu
  rw [cellS50_1 h.rd.1]
  simp

def AttJ (s : ByteArray) (a0 : Nat) (R : Option (List Fl.Att × Bool × Fl.Bs)) (w : World) (a' : Act) (w' : World) : Prop :=
  ∃ (i : Nat) (l : Fl.Bs) (acc : List Fl.Att) (v : Value) (nm vl : ByteArray) (u : Nat → Value), a' = { tmps := #[.string s, .int .i64 (a0 : Int), undef, undef, v, .bool false, .int .i64 0, .bool false, .pointer (some ⟨w.heap.size, 0, none⟩), .pointer (some ⟨w.heap.size + 1, 0, none⟩), u 10, u 11, u 12, u 13, u 14, u 15, u 16, u 17, u 18, u 19, u 20, u 21, u 22, u 23, u 24, u 25, u 26, u 27, u 28, u 29, u 30, u 31, u 32, u 33, u 34, u 35, u 36, u 37, u 38, u 39, u 40, u 41, u 42, u 43, u 44, u 45, u 46, u 47, u 48, u 49, u 50, u 51, u 52, u 53, u 54, u 55, u 56, u 57, u 58, u 59, u 60, u 61, u 62, u 63, u 64, u 65, u 66, u 67, u 68, u 69, u 70, u 71, u 72, u 73, u 74, u 75, u 76, u 77, u 78, u 79, u 80, u 81, u 82, u 83, u 84, u 85, u 86, u 87, u 88, u 89, u 90, u 91, u 92, u 93, u 94, u 95], defers := [] } ∧ Fl.At s i l ∧
    Hid (AttS s w i acc v nm vl w') ∧ Hid (∃ n, l.length < n ∧ Fl.readN n l acc = R) ∧ acc.length + l.length ≤ s.size

theorem AttJ.mk {s : ByteArray} {a0 : Nat} {R : Option (List Fl.Att × Bool × Fl.Bs)} {w : World} {A : Act} {w' : World} (i : Nat) (l : Fl.Bs) (acc : List Fl.Att) (v : Value) (nm vl : ByteArray) (hA : A = { tmps := #[.string s, .int .i64 (a0 : Int), undef, undef, v, .bool false, .int .i64 0, .bool false, .pointer (some ⟨w.heap.size, 0, none⟩), .pointer (some ⟨w.heap.size + 1, 0, none⟩), A.tmps.getD 10 undef, A.tmps.getD 11 undef, A.tmps.getD 12 undef, A.tmps.getD 13 undef, A.tmps.getD 14 undef, A.tmps.getD 15 undef, A.tmps.getD 16 undef, A.tmps.getD 17 undef, A.tmps.getD 18 undef, A.tmps.getD 19 undef, A.tmps.getD 20 undef, A.tmps.getD 21 undef, A.tmps.getD 22 undef, A.tmps.getD 23 undef, A.tmps.getD 24 undef, A.tmps.getD 25 undef, A.tmps.getD 26 undef, A.tmps.getD 27 undef, A.tmps.getD 28 undef, A.tmps.getD 29 undef, A.tmps.getD 30 undef, A.tmps.getD 31 undef, A.tmps.getD 32 undef, A.tmps.getD 33 undef, A.tmps.getD 34 undef, A.tmps.getD 35 undef, A.tmps.getD 36 undef, A.tmps.getD 37 undef, A.tmps.getD 38 undef, A.tmps.getD 39 undef, A.tmps.getD 40 undef, A.tmps.getD 41 undef, A.tmps.getD 42 undef, A.tmps.getD 43 undef, A.tmps.getD 44 undef, A.tmps.getD 45 undef, A.tmps.getD 46 undef, A.tmps.getD 47 undef, A.tmps.getD 48 undef, A.tmps.getD 49 undef, A.tmps.getD 50 undef, A.tmps.getD 51 undef, A.tmps.getD 52 undef, A.tmps.getD 53 undef, A.tmps.getD 54 undef, A.tmps.getD 55 undef, A.tmps.getD 56 undef, A.tmps.getD 57 undef, A.tmps.getD 58 undef, A.tmps.getD 59 undef, A.tmps.getD 60 undef, A.tmps.getD 61 undef, A.tmps.getD 62 undef, A.tmps.getD 63 undef, A.tmps.getD 64 undef, A.tmps.getD 65 undef, A.tmps.getD 66 undef, A.tmps.getD 67 undef, A.tmps.getD 68 undef, A.tmps.getD 69 undef, A.tmps.getD 70 undef, A.tmps.getD 71 undef, A.tmps.getD 72 undef, A.tmps.getD 73 undef, A.tmps.getD 74 undef, A.tmps.getD 75 undef, A.tmps.getD 76 undef, A.tmps.getD 77 undef, A.tmps.getD 78 undef, A.tmps.getD 79 undef, A.tmps.getD 80 undef, A.tmps.getD 81 undef, A.tmps.getD 82 undef, A.tmps.getD 83 undef, A.tmps.getD 84 undef, A.tmps.getD 85 undef, A.tmps.getD 86 undef, A.tmps.getD 87 undef, A.tmps.getD 88 undef, A.tmps.getD 89 undef, A.tmps.getD 90 undef, A.tmps.getD 91 undef, A.tmps.getD 92 undef, A.tmps.getD 93 undef, A.tmps.getD 94 undef, A.tmps.getD 95 undef], defers := [] }) (h1 : Fl.At s i l)
    (h2 : Hid (AttS s w i acc v nm vl w')) (h3 : Hid (∃ n, l.length < n ∧ Fl.readN n l acc = R)) (h4 : acc.length + l.length ≤ s.size) : AttJ s a0 R w A w' :=
  ⟨i, l, acc, v, nm, vl, fun n => A.tmps.getD n undef, hA, h1, h2, h3, h4⟩

set_option maxHeartbeats 16000000 in
set_option maxRecDepth 1000000 in
theorem attrs_at (s : ByteArray) (i0 : Nat) (w : World) (hG : Gl w) (hs : s.size < 268435456) (hi0 : i0 ≤ s.size) (R : Option (List Fl.Att × Bool × Fl.Bs)) (hR : Fl.readL ((Fl.toL s).drop i0) = R) :
    Calls Tryd.prog 13 #[.string s, .int .i64 i0] w fun e w' => (R = none ∧ e = .returned (.tuple #[.slice none 0 0, .bool false, .int .i64 s.size, .bool false]) ∧ Below w.heap.size w w') ∨
      ∃ acc b r v, R = some (acc, b, r) ∧ e = .returned (.tuple #[v, .bool b, .int .i64 ((s.size - r.length : Nat) : Int), .bool true]) ∧ Kd.R k27 27 w' w.heap.size (fun k => k ≠ w.heap.size ∧ k ≠ w.heap.size + 1) v (acc.map toS) ∧ Below w.heap.size w w' := by
  have HG := Lib.hid hG
  have HR := Lib.hid hR
  clear hG hR
  have d0 : ¬ ((i0 : Int) < 0) := by omega
  have d1 : ¬ ((i0 : Int) > (s.size : Int)) := by omega
  have d2 : (i0 : Int) ≤ (s.size : Int) := by omega
  go_enter Tryd.func13, Tryd.ntmps13
  go_wp2
  refine wp_scope_once 0 (AttJ s i0 R w) (fun _ w' => attMu s w w') rfl ?_ ?_
  · rintro a' w' ⟨i, l, acc, v, nm, vl, u, rfl, hAt, HS, HN, hacc⟩
    obtain ⟨j, hj, hAt1⟩ := Fl.spaces_f s (by omega) l i (l.length + 1) hAt (by omega)
    have hlen : (l.dropWhile Fl.space).length ≤ l.length := (List.dropWhile_suffix _).length_le
    have hAte := hAt.2
    have hmu0 := HS.out.mu
    go_wp2_with fail
    refine (attrs_reader_spaces.calls (l.length + 1) w.heap.size s (i : Int) s (j : Int) w w' HS.out.rd HS.out.be hj).mono ?_
    rintro e w1 ⟨rfl, hi1, hb1, hk1⟩
    have HS1 := Lib.hid (HS.out.keep hi1 hb1 hk1)
    clear hi1 hb1 hk1 HS hj
    have e1 := cellS50_1 HS1.out.rd.1
    obtain ⟨n, hn, hN⟩ := HN.out
    obtain ⟨n, rfl⟩ : ∃ m, n = m + 1 := ⟨n - 1, by omega⟩
    have hN2 := hN
    unfold Fl.readN at hN2
    clear HN hN
    cases hl : l.dropWhile Fl.space with
    | nil =>
      rw [hl] at hAt1 hN2
      have hje := hAt1.nil
      subst hje
      subst hN2
      go_wp2
      simp only [Exit.jump]
      ((try simp only [Exit.inBlock, Exit.then]); refine bodyPost_ret (results_tmp4 rfl _ _ _) rfl ?_)
      exact Or.inl ⟨rfl, rfl, HS1.out.be⟩
    | cons c r =>
      rw [hl] at hAt1 hN2 hlen
      simp only at hN2
      simp only [List.length_cons] at hlen
      obtain ⟨hjs, hbt, hAt2⟩ := hAt1.cons
      have hji : i ≤ j := by have h1 := hAt1.2; simp only [List.length_cons] at h1; omega
      have hne : ¬ ((j : Int) = (s.size : Int)) := by omega
      have hneb : ((j : Int) == (s.size : Int)) = false := beq_eq_false_iff_ne.2 hne
      have i62 := Fl.is_f s j (c :: r) 62 hAt1
      have i47 := Fl.is_f s j (c :: r) 47 hAt1
      generalize h62 : Fl.headIs 62 (c :: r) = b62 at i62
      generalize h47 : Fl.headIs 47 (c :: r) = b47 at i47
      have h62 : (c == 62) = b62 := h62
      have h47 : (c == 47) = b47 := h47
      go_wp2_with fail
      refine (attrs_reader_is.calls w.heap.size s (j : Int) 62 b62 s (j : Int) w _ HS1.out.rd HS1.out.be i62).mono ?_
      rintro e w2 ⟨rfl, hi2, hb2, hk2⟩
      have HS2 := Lib.hid (HS1.out.keep hi2 hb2 hk2)
      clear hi2 hb2 hk2 HS1 e1
      have e1 := cellS50_1 HS2.out.rd.1
      by_cases hc62 : c = 62
      · obtain rfl : true = b62 := by rw [← h62]; symm; simpa using hc62
        rw [if_pos hc62] at hN2
        subst hN2
        have hw1 : wrap64 ((j : Int) + 1) = ((s.size - r.length : Nat) : Int) := by have := hAt2.2; unfold wrap64; omega
        have HW1 := Lib.hid hw1
        clear hw1
        go_wp2
        go_quiet (fail)
        go_wp2
        simp only [Exit.jump]
        ((try simp only [Exit.inBlock, Exit.then]); refine bodyPost_ret (results_tmp4 rfl _ _ _) rfl ?_)
        refine Or.inr ⟨_, _, _, _, rfl, ?_, HS2.out.ro, pw_below_drewN HS2.out.be _⟩
        have hrl : ((s.size - r.length : Nat) : Int) = (j : Int) + 1 := by have := hAt2.2; omega
        rw [hrl]; rfl
      · obtain rfl : false = b62 := by rw [← h62]; symm; simpa using hc62
        rw [if_neg hc62] at hN2
        have hbg := Fl.begins_f s ⟨#[47, 62]⟩ j (by omega) (by decide) (by omega)
        rw [hAt1.1] at hbg
        obtain ⟨bB, hbB⟩ : ∃ bB, (Fl.lower ((c :: r).take (⟨#[47, 62]⟩ : ByteArray).size) == Fl.toL (⟨#[47, 62]⟩ : ByteArray)) = bB := ⟨_, rfl⟩
        rw [hbB] at hbg
        have hbb : bB = (c == 47 && Fl.headIs 62 r) := by rw [← hbB]; exact Fl.slash_close c r
        clear hbB
        go_wp2_with fail
        refine (sign_Begins.calls s (j : Int) ⟨#[47, 62]⟩ bB _ hbg).mono ?_
        rintro e w3 ⟨rfl, hb3⟩
        have HS3 := Lib.hid (HS2.out.below hb3)
        clear hb3 HS2 e1
        have e1 := cellS50_1 HS3.out.rd.1
        by_cases hc47 : c = 47
        · rw [if_pos hc47] at hN2
          by_cases hh : Fl.headIs 62 r = true
          · rw [if_pos hh] at hN2
            have hbt : bB = true := by rw [hbb, hh, hc47]; rfl
            clear hbb
            subst hbt
            subst hN2
            go_wp2
            go_quiet (fail)
            go_wp2
            simp only [Exit.jump]
            ((try simp only [Exit.inBlock, Exit.then]); refine bodyPost_ret (results_tmp4 rfl _ _ _) rfl ?_)
            refine Or.inr ⟨_, _, _, _, rfl, ?_, HS3.out.ro, pw_below_drewN HS3.out.be _⟩
            have hrl : ((s.size - (r.drop 1).length : Nat) : Int) = (j : Int) + 2 := by
              have h1 := hAt2.2
              have h2 : r.length ≠ 0 := by intro e; rw [List.eq_nil_of_length_eq_zero e] at hh; cases hh
              rw [List.length_drop]; omega
            rw [hrl]; rfl
          · rw [if_neg hh] at hN2
            have hbt : bB = false := by rw [hbb]; simp only [Bool.and_eq_false_imp]; intro _; simpa using hh
            clear hbb
            subst hbt
            obtain rfl : true = b47 := by rw [← h47, hc47]; rfl
            go_wp2_with fail
            refine (attrs_reader_is.calls w.heap.size s (j : Int) 47 true s (j : Int) w _ HS3.out.rd HS3.out.be i47).mono ?_
            rintro e w4 ⟨rfl, hi4, hb4, hk4⟩
            have HS4 := Lib.hid (HS3.out.keep hi4 hb4 hk4)
            clear hi4 hb4 hk4 HS3 e1
            have e1 := cellS50_1 HS4.out.rd.1
            have z1 := blk_frozen HS4.out.rd.1 1
            have hmu := (HS4.out.move (j := j + 1)).mu
            go_wp2
            go_step3
            exact ⟨rfl, AttJ.mk (j + 1) r acc v nm vl rfl hAt2 (Lib.hid HS4.out.move) (Lib.hid ⟨n, by omega, hN2⟩) (by omega), by rw [hmu0]; refine Nat.lt_of_le_of_lt (Nat.le_of_eq hmu) ?_; omega⟩
        · rw [if_neg hc47] at hN2
          have hbt : bB = false := by rw [hbb]; simp only [Bool.and_eq_false_imp]; intro h; exact absurd (by simpa using h) hc47
          clear hbb
          subst hbt
          obtain rfl : false = b47 := by rw [← h47]; symm; simpa using hc47
          obtain ⟨j2, hup, hAt3⟩ := Fl.upTo_f s ⟨#[47, 62, 61]⟩ c r j (r.length + 1) (by omega) hAt1 (by omega)
          rw [show Fl.toL (⟨#[47, 62, 61]⟩ : ByteArray) = [47, 62, 61] from rfl] at hup hAt3
          have hnl : (c :: r.takeWhile (Fl.nend [47, 62, 61])).length ≤ s.size := by
            have h1 := hAt1.2
            have h2 : (r.takeWhile (Fl.nend [47, 62, 61])).length ≤ r.length := (List.takeWhile_prefix _).length_le
            simp only [List.length_cons] at h1 ⊢; omega
          have hrl : (r.dropWhile (Fl.nend [47, 62, 61])).length ≤ r.length := (List.dropWhile_suffix _).length_le
          generalize (c :: r.takeWhile (Fl.nend [47, 62, 61])) = N at *
          generalize r.dropWhile (Fl.nend [47, 62, 61]) = r1 at *
          have hlow : sign_Lower.f (Fl.ofL N) = some (Fl.ofL (Fl.lower N)) := by
            unfold sign_Lower.f; rw [if_pos (by rw [Fl.ofL_size]; omega)]; rfl
          have hcl : lines_Clean.f (Fl.ofL (Fl.lower N)) = some (Fl.ofL (Fl.clean (Fl.lower N))) := by
            unfold lines_Clean.f; rw [if_pos (by rw [Fl.ofL_size]; unfold Fl.lower; rw [List.length_map]; omega)]; rfl
          generalize Fl.lower N = N1 at *
          generalize Fl.clean N1 = N2 at *
          go_wp2_with fail
          refine (attrs_reader_is.calls w.heap.size s (j : Int) 47 false s (j : Int) w _ HS3.out.rd HS3.out.be i47).mono ?_
          rintro e w4 ⟨rfl, hi4, hb4, hk4⟩
          have HS4 := Lib.hid (HS3.out.keep hi4 hb4 hk4)
          clear hi4 hb4 hk4 HS3 e1
          go_wp2_with fail
          refine (attrs_reader_upTo.calls (r.length + 1) w.heap.size s (j : Int) ⟨#[47, 62, 61]⟩ (Fl.ofL N) s (j2 : Int) w _ HS4.out.rd HS4.out.be hup).mono ?_
          rintro e w5 ⟨rfl, hi5, hb5, hk5⟩
          have HS5 := Lib.hid (HS4.out.keep hi5 hb5 hk5)
          clear hi5 hb5 hk5 HS4
          go_wp2_with fail
          refine (sign_Lower.calls _ _ _ hlow).mono ?_
          rintro e w6 ⟨rfl, hb6⟩
          have HS6 := Lib.hid (HS5.out.below hb6)
          clear hb6 HS5
          go_wp2_with fail
          refine (lines_Clean.calls _ _ _ hcl).mono ?_
          rintro e w7 ⟨rfl, hb7⟩
          have HS7 := Lib.hid (HS6.out.below hb7)
          clear hb7 HS6
          have e2 : w7.cell? ⟨w.heap.size + 1, 0, none⟩ = some (.string nm) := (blk_cell HS7.out.at_ 0).trans rfl
          have z2 := blk_frozen HS7.out.at_ 0
          have HS8 := Lib.hid (HS7.out.name (Fl.ofL N2))
          clear HS7
          go_wp2_with fail
          rcases Fl.value_f s (by omega) r1 j2 (r1.length + 2) hAt3 (by omega) with ⟨hv, j3, hvf⟩ | ⟨V, r2, hv, j3, hvf, hAt4⟩
          · rw [hv] at hN2
            simp only at hN2
            subst hN2
            refine (attrs_reader_value.calls (r1.length + 2) w.heap.size s (j2 : Int) ⟨#[]⟩ false s j3 w _ HS8.out.rd HS8.out.be hvf).mono ?_
            rintro e w9 ⟨rfl, hi9, hb9, hk9⟩
            have hat9 := (hk9.2 _ (blk_lt HS8.out.at_) (by omega) (by simp)).trans HS8.out.at_
            have e3 : w9.cell? ⟨w.heap.size + 1, 1, none⟩ = some (.string vl) := (blk_cell hat9 1).trans rfl
            have z3 := blk_frozen hat9 1
            have HB9 : Hid (Below w.heap.size w (w9.setCell ⟨w.heap.size + 1, 1, none⟩ (.string ⟨#[]⟩))) := Lib.hid (below_set hb9 (Nat.le_succ _))
            clear hi9 hb9 hk9 HS8 hat9
            go_wp2
            simp only [Exit.jump]
            ((try simp only [Exit.inBlock, Exit.then]); refine bodyPost_ret (results_tmp4 rfl _ _ _) rfl ?_)
            exact Or.inl ⟨rfl, rfl, HB9.out⟩
          · rw [hv] at hN2
            simp only at hN2
            have hvl := Fl.valueL_len hv
            refine (attrs_reader_value.calls (r1.length + 2) w.heap.size s (j2 : Int) (Fl.ofL V) true s (j3 : Int) w _ HS8.out.rd HS8.out.be hvf).mono ?_
            rintro e w9 ⟨rfl, hi9, hb9, hk9⟩
            have HS9 := Lib.hid (HS8.out.keep hi9 hb9 hk9)
            clear hi9 hb9 hk9 HS8 e2 z2
            have e3 : w9.cell? ⟨w.heap.size + 1, 1, none⟩ = some (.string vl) := (blk_cell HS9.out.at_ 1).trans rfl
            have z3 := blk_frozen HS9.out.at_ 1
            have HS10 := Lib.hid (HS9.out.val (Fl.ofL V))
            have e4 : (w9.setCell ⟨w.heap.size + 1, 1, none⟩ (.string (Fl.ofL V))).cell? ⟨w.heap.size + 1, 1, none⟩ = some (.string (Fl.ofL V)) := (blk_cell HS10.out.at_ 1).trans rfl
            have hdl := Fl.decode_len true V.length V (Nat.le_refl _)
            have hds : (Fl.ofL V).size < 2147483648 := by rw [Fl.ofL_size]; omega
            have hcl2 : lines_Clean.f (Fl.ofL (Fl.decode true V)) = some (Fl.ofL (Fl.clean (Fl.decode true V))) := by
              unfold lines_Clean.f; rw [if_pos (by rw [Fl.ofL_size]; omega)]; rfl
            have hdec := fun W hW => decode_calls (Fl.ofL V) true W hW hds
            rw [show Fl.toL (Fl.ofL V) = V from rfl] at hdec
            generalize Fl.decode true V = V1 at *
            generalize Fl.clean V1 = V2 at *
            clear HS9
            go_wp2_with fail
            refine (hdec _ (Gl.below HG.out HS10.out.be)).mono ?_
            rintro e w11 ⟨rfl, hb11⟩
            have HS11 := Lib.hid (HS10.out.below hb11)
            clear hb11 HS10 e3 z3 e4
            go_wp2_with fail
            refine (lines_Clean.calls _ _ _ hcl2).mono ?_
            rintro e w12 ⟨rfl, hb12⟩
            have HS12 := Lib.hid (HS11.out.below hb12)
            clear hb12 HS11
            have e5 : w12.cell? ⟨w.heap.size + 1, 1, none⟩ = some (.string (Fl.ofL V)) := (blk_cell HS12.out.at_ 1).trans rfl
            have z5 := blk_frozen HS12.out.at_ 1
            have HS13 := Lib.hid (HS12.out.val (Fl.ofL V2))
            clear HS12
            have hcnt := contains_calls
            obtain ⟨A0, c0, hv0⟩ := Kd.R_slice HS13.out.ro
            rw [List.length_map] at hv0
            subst hv0
            have hrd := Kd.R_reads' HS13.out.ro
            have hct := contains_calls A0 c0 (acc.map toS) (Fl.ofL N2) (Fl.ofL V2) (w.heap.size + 1) _ hrd.2.2 (by rw [List.length_map]; omega) HS13.out.at_
            rw [hasN_toS, List.length_map] at hct
            have HCT := Lib.hid hct
            clear hct hcnt hrd
            rw [show Fl.add acc N2 V2 = if Fl.has acc N2 = true then acc else acc ++ [(N2, V2)] from rfl] at hN2
            generalize Fl.has acc N2 = there at *
            go_wp2_with fail
            refine HCT.out.mono ?_
            rintro e w14 ⟨rfl, hb14⟩
            have HS14 := Lib.hid (HS13.out.below hb14)
            clear hb14 HS13 HCT e5 z5
            cases there with
            | true =>
              rw [if_pos rfl] at hN2
              have hmu := HS14.out.mu
              have HS15 := Lib.hid (show AttS s w j3 acc (.slice A0 acc.length c0) (Fl.ofL N2) (Fl.ofL V2) w14 from HS14.out)
              go_wp2
              go_step3
              exact ⟨rfl, AttJ.mk j3 r2 acc _ (Fl.ofL N2) (Fl.ofL V2) rfl hAt4 HS15 (Lib.hid ⟨n, by omega, hN2⟩) (by omega), by rw [hmu0]; refine Nat.lt_of_le_of_lt (Nat.le_of_eq hmu) ?_; have h1 := hAt4.2; omega⟩
            | false =>
              rw [if_neg (by simp)] at hN2
              have e6 : w14.cell? ⟨w.heap.size + 1, 0, none⟩ = some (.string (Fl.ofL N2)) := (blk_cell HS14.out.at_ 0).trans rfl
              have e7 : w14.cell? ⟨w.heap.size + 1, 1, none⟩ = some (.string (Fl.ofL V2)) := (blk_cell HS14.out.at_ 1).trans rfl
              have hne0 := HS14.out.ro.1
              go_wp2_with ((with_reducible refine gate_builtin (b := .append) (xs := #[.tmp 92, .tmp 94]) rfl ?_); at_builtin; refine Kd.R_append k27 (w0 := w) w.heap.size rfl (.tmp 92) (.tmp 94) 23 27 (.agg #[(.string ⟨#[]⟩), (.string ⟨#[]⟩)]) 32 rfl Tryd.underlying23 info27 rfl (by decide) (by omega) (.slice A0 acc.length c0) (acc.map toS) (toS (N2, V2)) [.string (Fl.ofL N2), .string (Fl.ofL V2)] (fun k => k ≠ w.heap.size ∧ k ≠ w.heap.size + 1) (fun _ => False) rfl rfl ?aP (fun _ hk => hk.elim) ?aF ?aO ?aB ?aS ?aL ?_; (case aP => exact k27_mkM _ _ _ (toS (N2, V2))); (case aB => exact HS14.out.be); (case aF => exact (fun k hk => by have h1 := HS14.out.rd.lt; have h2 := blk_lt HS14.out.at_; exact ⟨by omega, by omega⟩)); (case aO => exact HS14.out.ro); (case aS => exact HS14.out.be.size); (case aL => rw [List.length_map]; omega); intro v1 w15 ho hb hg hat)
              have hro : Kd.R k27 27 w15 w.heap.size (fun k => k ≠ w.heap.size ∧ k ≠ w.heap.size + 1) v1 ((acc ++ [(N2, V2)]).map toS) := by
                rw [List.map_append]; exact ho
              have HS15 : AttS s w j3 (acc ++ [(N2, V2)]) v1 (Fl.ofL N2) (Fl.ofL V2) w15 := ⟨HS14.out.rd.grown hg (fun e => (hne0 _ e.symm).1 rfl), (hg.block _ (blk_lt HS14.out.at_) (fun e => (hne0 _ e.symm).2 rfl)).trans HS14.out.at_, hb, hro⟩
              go_step3
              exact ⟨rfl, AttJ.mk j3 r2 _ _ (Fl.ofL N2) (Fl.ofL V2) rfl hAt4 (Lib.hid HS15) (Lib.hid ⟨n, by omega, hN2⟩) (by rw [List.length_append, List.length_singleton]; omega), by rw [hmu0]; refine Nat.lt_of_le_of_lt (Nat.le_of_eq HS15.mu) ?_; have h1 := hAt4.2; omega⟩
  · intro pass
    go_wp2
    go_step3
    rename_i hK
    exact hK _ _ (pass _ _ (AttJ.mk i0 _ [] (.slice none 0 0) ⟨#[]⟩ ⟨#[]⟩ rfl (Fl.At.of_drop s i0 hi0) (Lib.hid (AttS.new s w i0)) (Lib.hid ⟨_, Nat.lt_succ_self _, HR.out⟩) (by rw [List.length_drop, Fl.toL_length]; simp)))

set_option maxHeartbeats 4000000 in
set_option maxRecDepth 100000 in
theorem attrs_out (s : ByteArray) (a : Int) (w : World) (h : a < 0 ∨ (s.size : Int) < a) :
    Calls Tryd.prog 13 #[.string s, .int .i64 a] w fun e w' => e = .returned (.tuple #[.slice none 0 0, .bool false, .int .i64 a, .bool false]) ∧ Drawn0 w w' := by
  by_cases h0 : a < 0
  · clear h
    have h1 : decide (a < 0) = true := decide_eq_true h0
    go_enter Tryd.func13, Tryd.ntmps13
    go_wp2
    refine wp_scope_once 0 (fun _ _ => False) (fun _ _ => 0) rfl (fun _ _ h => h.elim) ?_
    intro pass
    go_wp2
    repeat (go_quiet (fail); try go_wp2)
    simp only [Exit.jump]
    ((try simp only [Exit.inBlock, Exit.then]); refine bodyPost_ret (results_tmp4 rfl _ _ _) rfl ?_)
    exact ⟨rfl, Drawn0.refl _⟩
  · have h1 : (s.size : Int) < a := h.resolve_left h0
    have h2 : decide (a < 0) = false := decide_eq_false h0
    have h3 : decide (a > (s.size : Int)) = true := decide_eq_true h1
    clear h
    go_enter Tryd.func13, Tryd.ntmps13
    go_wp2
    refine wp_scope_once 0 (fun _ _ => False) (fun _ _ => 0) rfl (fun _ _ h => h.elim) ?_
    intro pass
    go_wp2
    repeat (go_quiet (fail); try go_wp2)
    simp only [Exit.jump]
    ((try simp only [Exit.inBlock, Exit.then]); refine bodyPost_ret (results_tmp4 rfl _ _ _) rfl ?_)
    exact ⟨rfl, Drawn0.refl _⟩

noncomputable def attrs_Read.f (a0 : ByteArray) (a1 : Int) : Option ((List (S27)) × Bool × Int × Bool) :=
  if a0.size < 268435456 then
    if a1 < 0 ∨ (a0.size : Int) < a1 then some ([], false, a1, false)
    else match Fl.readL ((Fl.toL a0).drop a1.toNat) with
      | none => some ([], false, (a0.size : Int), false)
      | some (l, b, r) => some (l.map toS, b, ((a0.size - r.length : Nat) : Int), true)
  else none
theorem attrs_Read.calls (a0 : ByteArray) (a1 : Int) (r1 : List (S27)) (r2 : Bool) (r3 : Int) (r4 : Bool) (w : World) (hG : Gl w) (h : attrs_Read.f a0 a1 = some (r1, r2, r3, r4)) :
    Calls Tryd.prog 13 #[.string a0, .int .i64 a1] w fun e w' => ∃ v0_ : Value, e = .returned (.tuple #[v0_, .bool r2, .int .i64 r3, .bool r4]) ∧ Kd.R k27 27 w' w.heap.size (fun _ => True) v0_ r1 ∧ Below w.heap.size w w' := by
  unfold attrs_Read.f at h
  split at h
  · rename_i hs
    split at h
    · rename_i ho
      obtain ⟨rfl, rfl, rfl, rfl⟩ : r1 = [] ∧ r2 = false ∧ r3 = a1 ∧ r4 = false := by
        injection h with h; injection h with h1 h; injection h with h2 h; injection h with h3 h4
        exact ⟨h1.symm, h2.symm, h3.symm, h4.symm⟩
      refine (attrs_out a0 _ w ho).mono ?_
      rintro e w1 ⟨rfl, ⟨⟨n, rfl⟩⟩⟩
      exact ⟨_, rfl, Kd.R_nil _ _ _ _ _, pw_below_drewN (Below.refl _ _) _⟩
    · rename_i ho
      obtain ⟨n, rfl⟩ : ∃ n : Nat, a1 = n := ⟨a1.toNat, by omega⟩
      rw [Int.toNat_natCast] at h
      obtain ⟨R, hR⟩ : ∃ R, Fl.readL ((Fl.toL a0).drop n) = R := ⟨_, rfl⟩
      rw [hR] at h
      refine (attrs_at a0 n w hG hs (by omega) R hR).mono ?_
      rintro e w1 (⟨rfl, rfl, hb⟩ | ⟨acc, b, r, v, rfl, rfl, hro, hb⟩)
      · obtain ⟨rfl, rfl, rfl, rfl⟩ : r1 = [] ∧ r2 = false ∧ r3 = (a0.size : Int) ∧ r4 = false := by
          injection h with h; injection h with h1 h; injection h with h2 h; injection h with h3 h4
          exact ⟨h1.symm, h2.symm, h3.symm, h4.symm⟩
        exact ⟨_, rfl, Kd.R_nil _ _ _ _ _, hb⟩
      · obtain ⟨rfl, rfl, rfl, rfl⟩ : r1 = acc.map toS ∧ r2 = b ∧ r3 = ((a0.size - r.length : Nat) : Int) ∧ r4 = true := by
          injection h with h; injection h with h1 h; injection h with h2 h; injection h with h3 h4
          exact ⟨h1.symm, h2.symm, h3.symm, h4.symm⟩
        exact ⟨_, rfl, Kd.R_mono hro (fun _ _ => trivial), hb⟩
  · cases h

end Go.Proofs.YtfhjfidkcdcjnaaDoor.Q

/- What is read in a tag: plain laws on lists of bytes. No program in sight. -/
namespace Go.Proofs.YtfhjfidkcdcjnaaDoor.Fl
open Go
set_option linter.unusedVariables false
set_option linter.unusedSimpArgs false

/-- A list's first byte, if there is one, fails p. -/
def Hd (p : UInt8 → Bool) (m : Bs) : Prop := ∀ c m', m = c :: m' → p c = false
theorem Hd.nil (p : UInt8 → Bool) : Hd p [] := fun c m' h => by cases h
theorem Hd.cons {p : UInt8 → Bool} {c : UInt8} (h : p c = false) (m : Bs) : Hd p (c :: m) := fun d m' e => by injection e with e1 e2; rw [← e1]; exact h
theorem Hd.of {p : UInt8 → Bool} {c : UInt8} {m : Bs} (h : Hd p (c :: m)) : p c = false := h c m rfl
theorem Hd.drop (p : UInt8 → Bool) (l : Bs) : Hd p (l.dropWhile p) := by
  induction l with
  | nil => exact Hd.nil p
  | cons c l ih =>
    rw [List.dropWhile_cons]
    cases h : p c with
    | true => exact ih
    | false => exact Hd.cons h l
theorem tw_app {p : UInt8 → Bool} (l : Bs) {m : Bs} (hm : Hd p m) : (l.takeWhile p ++ m).takeWhile p = l.takeWhile p ∧ (l.takeWhile p ++ m).dropWhile p = m := by
  induction l with
  | nil =>
    cases m with
    | nil => exact ⟨rfl, rfl⟩
    | cons c m =>
      have := hm.of
      simp [List.takeWhile_cons, List.dropWhile_cons, this]
  | cons c l ih =>
    cases h : p c with
    | true => simp [List.takeWhile_cons, List.dropWhile_cons, h, ih]
    | false =>
      cases m with
      | nil => simp [List.takeWhile_cons, h]
      | cons d m =>
        have := hm.of
        simp [List.takeWhile_cons, List.dropWhile_cons, h, this]
theorem all_app {p : UInt8 → Bool} {a m : Bs} (ha : ∀ c ∈ a, p c = true) (hm : Hd p m) : (a ++ m).takeWhile p = a ∧ (a ++ m).dropWhile p = m := by
  have h : a.takeWhile p = a := by
    induction a with
    | nil => rfl
    | cons c a ih => rw [List.takeWhile_cons, ha c (by simp), if_pos rfl, ih (fun d hd => ha d (by simp [hd]))]
  have := tw_app (p := p) a hm
  rwa [h] at this
theorem quotedL_split {q : UInt8} {l v r : Bs} (h : quotedL q l = some (v, r)) : l = v ++ q :: r ∧ v.count q = 0 := by
  unfold quotedL at h
  have hs := take_drop_while (nq q) l
  have hd := Hd.drop (nq q) l
  cases hl : l.dropWhile (nq q) with
  | nil => rw [hl] at h; cases h
  | cons c r' =>
    rw [hl] at h hs hd
    injection h with h; injection h with h1 h2
    subst h1 h2
    have hc : c = q := by have := hd.of; unfold nq at this; simpa using this
    subst hc
    refine ⟨hs.symm, ?_⟩
    rw [List.count_eq_zero]
    intro hm
    have := List.all_eq_true.1 (List.all_takeWhile (p := nq c) (l := l)) c hm
    unfold nq at this; simp at this
theorem quotedL_app {q : UInt8} {v r : Bs} (h : v.count q = 0) : quotedL q (v ++ q :: r) = some (v, r) := by
  unfold quotedL
  obtain ⟨h1, h2⟩ := while_split (r := r) h
  rw [h1, h2]
theorem valueTo_local {l v r : Bs} (h : valueTo l = some (v, r)) {x : UInt8} {r' : Bs} (hr : r = x :: r') : ∃ p, l = p ++ r ∧ ∀ more, valueTo (p ++ x :: more) = some (v, x :: more) := by
  subst hr
  unfold valueTo at h
  cases l with
  | nil => simp at h
  | cons c l =>
    simp only at h
    split at h
    · rename_i hc
      obtain ⟨h1, h2⟩ := quotedL_split h
      refine ⟨c :: (v ++ [c]), by rw [h1]; simp, fun more => ?_⟩
      unfold valueTo
      simp only [List.cons_append, List.append_assoc, List.nil_append]
      rw [if_pos hc, quotedL_app h2]
    · rename_i hc
      split at h
      · rename_i hc2
        injection h with h; injection h with h1 h2
        injection h2 with h2 h3
        subst h1 h2 h3
        refine ⟨[], rfl, fun more => ?_⟩
        unfold valueTo
        simp only [List.nil_append]
        rw [if_neg hc, if_pos hc2]
      · rename_i hc2
        injection h with h; injection h with h1 h2
        have hd := Hd.drop (nend [62]) l
        have hs := take_drop_while (nend [62]) l
        rw [h2] at hd hs
        refine ⟨c :: l.takeWhile (nend [62]), by rw [List.cons_append, hs], fun more => ?_⟩
        have ht := tw_app (p := nend [62]) l (m := x :: more) (Hd.cons hd.of more)
        unfold valueTo
        simp only [List.cons_append]
        rw [if_neg hc, if_neg hc2, ht.1, ht.2, h1]
theorem valueL_local {l v r : Bs} (h : valueL l = some (v, r)) {x : UInt8} {r' : Bs} (hr : r = x :: r') : ∃ p, l = p ++ r ∧ ∀ more, valueL (p ++ x :: more) = some (v, x :: more) := by
  unfold valueL at h
  have hs := take_drop_while space l
  have hd := Hd.drop space l
  cases hl : l.dropWhile space with
  | nil => rw [hl] at h; simp at h; rw [h.2] at hr; cases hr
  | cons c l2 =>
    rw [hl] at h hs hd
    simp only at h
    split at h
    · rename_i hc
      obtain ⟨p, hp1, hp2⟩ := valueTo_local h hr
      have hs2 := take_drop_while space l2
      have hd2 := Hd.drop space l2
      rw [hp1] at hs2 hd2
      have hh : ∀ more, Hd space (p ++ x :: more) := by
        intro more
        subst hr
        cases p with
        | nil => exact Hd.cons hd2.of _
        | cons y p => exact Hd.cons (Hd.of hd2) _
      refine ⟨l.takeWhile space ++ c :: (l2.takeWhile space ++ p), by rw [List.append_assoc, List.cons_append, List.append_assoc, hs2, hs], fun more => ?_⟩
      unfold valueL
      have ht := tw_app (p := space) l (m := c :: (l2.takeWhile space ++ (p ++ x :: more))) (Hd.cons hd.of _)
      rw [List.append_assoc, List.cons_append, List.append_assoc, ht.2]
      simp only
      rw [if_pos hc, (tw_app (p := space) l2 (hh more)).2, hp2]
    · rename_i hc
      injection h with h; injection h with h1 h2
      rw [← h2] at hr
      injection hr with e1 e2
      subst e1 e2 h1 h2
      refine ⟨l.takeWhile space, hs.symm, fun more => ?_⟩
      unfold valueL
      rw [(tw_app (p := space) l (m := c :: more) (Hd.cons hd.of _)).2]
      simp only
      rw [if_neg hc]

/-! What is read ends in its bracket; what is behind plays no part. -/
theorem readN_local : ∀ (n : Nat) (l : Bs) (acc as_ : List Att) (b : Bool) (r : Bs), readN n l acc = some (as_, b, r) →
    ∃ p, l = p ++ 62 :: r ∧ (b = true → ∃ p', p = p' ++ [47]) ∧ ∀ more, readN n (p ++ 62 :: more) acc = some (as_, b, more) := by
  intro n
  induction n with
  | zero => intro l acc as_ b r h; simp [readN] at h
  | succ n ih =>
    intro l acc as_ b r h
    have hs := take_drop_while space l
    have hd := Hd.drop space l
    unfold readN at h
    cases hl : l.dropWhile space with
    | nil => rw [hl] at h; cases h
    | cons c l2 =>
      rw [hl] at h hs hd
      simp only at h
      have hnew : ∀ X, (l.takeWhile space ++ c :: X).dropWhile space = c :: X := fun X => (tw_app (p := space) l (Hd.cons hd.of X)).2
      split at h
      · rename_i hc
        injection h with h; injection h with h1 h2; injection h2 with h2 h3
        subst h1 h2 h3 hc
        refine ⟨l.takeWhile space, hs.symm, (fun h => by cases h), fun more => ?_⟩
        unfold readN
        rw [hnew]; rfl
      · rename_i hc
        split at h
        · rename_i hc2
          split at h
          · rename_i hh
            injection h with h; injection h with h1 h2; injection h2 with h2 h3
            cases l2 with
            | nil => simp [headIs] at hh
            | cons d l3 =>
              have hd62 : d = 62 := by simpa [headIs] using hh
              subst h1 h2 hc2 hd62
              simp only [List.drop_one, List.tail_cons] at h3
              subst h3
              refine ⟨l.takeWhile space ++ [47], by rw [List.append_assoc]; exact hs.symm, fun _ => ⟨_, rfl⟩, fun more => ?_⟩
              unfold readN
              rw [List.append_assoc, List.singleton_append, hnew]
              simp [headIs]
          · rename_i hh
            obtain ⟨p, hp1, hp2, hp3⟩ := ih _ _ _ _ _ h
            subst hc2
            refine ⟨l.takeWhile space ++ 47 :: p, by rw [List.append_assoc, List.cons_append, ← hp1, hs], fun hb => ?_, fun more => ?_⟩
            · obtain ⟨p', rfl⟩ := hp2 hb
              exact ⟨l.takeWhile space ++ 47 :: p', by simp⟩
            · have hh2 : headIs 62 (p ++ 62 :: more) = false := by
                cases p with
                | nil => rw [hp1] at hh; simp [headIs] at hh
                | cons d p => rw [hp1] at hh; simpa [headIs] using hh
              unfold readN
              rw [List.append_assoc, List.cons_append, hnew]
              simp only
              rw [if_neg hc, if_pos trivial, if_neg (by rw [hh2]; simp), hp3]
        · rename_i hc2
          cases hv : valueL (l2.dropWhile (nend [47, 62, 61])) with
          | none => rw [hv] at h; cases h
          | some q =>
            obtain ⟨v, r3⟩ := q
            rw [hv] at h
            simp only at h
            obtain ⟨p3, hq1, hq2, hq3⟩ := ih _ _ _ _ _ h
            obtain ⟨x, r3', hx, hx2⟩ : ∃ x r', r3 = x :: r' ∧ ∀ more, ∃ m', p3 ++ 62 :: more = x :: m' := by
              cases p3 with
              | nil => exact ⟨62, r, hq1, fun more => ⟨more, rfl⟩⟩
              | cons x p3 => exact ⟨x, p3 ++ 62 :: r, hq1, fun more => ⟨_, rfl⟩⟩
            obtain ⟨p, hp1, hp2⟩ := valueL_local hv hx
            have hs2 := take_drop_while (nend [47, 62, 61]) l2
            have hd2 := Hd.drop (nend [47, 62, 61]) l2
            rw [hp1] at hs2 hd2
            have hH : ∀ more, Hd (nend [47, 62, 61]) (p ++ (p3 ++ 62 :: more)) := by
              intro more
              cases p with
              | nil =>
                obtain ⟨m', hm'⟩ := hx2 more
                rw [List.nil_append, hm']
                rw [hx] at hd2
                exact Hd.cons hd2.of _
              | cons y p => exact Hd.cons (Hd.of hd2) _
            refine ⟨l.takeWhile space ++ c :: (l2.takeWhile (nend [47, 62, 61]) ++ (p ++ p3)), ?_, fun hb => ?_, fun more => ?_⟩
            · rw [List.append_assoc, List.cons_append, List.append_assoc, List.append_assoc, ← hq1, hs2, hs]
            · obtain ⟨p', rfl⟩ := hq2 hb
              exact ⟨l.takeWhile space ++ c :: (l2.takeWhile (nend [47, 62, 61]) ++ (p ++ p')), by simp⟩
            · have e := tw_app (p := nend [47, 62, 61]) l2 (hH more)
              obtain ⟨m', hm'⟩ := hx2 more
              unfold readN
              rw [List.append_assoc, List.cons_append, List.append_assoc, List.append_assoc, hnew]
              simp only
              rw [if_neg hc, if_neg hc2, e.1, e.2, hm', hp2]
              simp only
              rw [← hm']
              exact hq3 more

/-! The count of rounds plays no part. -/
theorem readN_fuel : ∀ (n m : Nat) (l : Bs) (acc : List Att), l.length < n → l.length < m → readN n l acc = readN m l acc := by
  intro n
  induction n with
  | zero => intro m l acc h; omega
  | succ n ih =>
    intro m l acc h1 h2
    obtain ⟨m, rfl⟩ : ∃ k, m = k + 1 := ⟨m - 1, by omega⟩
    have hlen : (l.dropWhile space).length ≤ l.length := (List.dropWhile_suffix _).length_le
    unfold readN
    cases hl : l.dropWhile space with
    | nil => rfl
    | cons c l2 =>
      rw [hl] at hlen
      simp only [List.length_cons] at hlen
      simp only
      rw [ih m l2 acc (by omega) (by omega)]
      cases hv : valueL (l2.dropWhile (nend [47, 62, 61])) with
      | none => rfl
      | some q =>
        obtain ⟨v, r3⟩ := q
        have h3 := valueL_len hv
        have h4 : (l2.dropWhile (nend [47, 62, 61])).length ≤ l2.length := (List.dropWhile_suffix _).length_le
        simp only
        rw [ih m r3 _ (by omega) (by omega)]
theorem readN_more : ∀ (n : Nat) (l : Bs) (acc : List Att) (x : List Att × Bool × Bs), readN n l acc = some x → ∀ m, n ≤ m → readN m l acc = some x := by
  intro n
  induction n with
  | zero => intro l acc x h; simp [readN] at h
  | succ n ih =>
    intro l acc x h m hm
    obtain ⟨m, rfl⟩ : ∃ k, m = k + 1 := ⟨m - 1, by omega⟩
    unfold readN at h ⊢
    cases hl : l.dropWhile space with
    | nil => rw [hl] at h; cases h
    | cons c l2 =>
      rw [hl] at h
      simp only at h ⊢
      split at h
      · rename_i hc; rw [if_pos hc]; exact h
      · rename_i hc
        rw [if_neg hc]
        split at h
        · rename_i hc2
          rw [if_pos hc2]
          split at h
          · rename_i hh; rw [if_pos hh]; exact h
          · rename_i hh; rw [if_neg hh]; exact ih _ _ _ h m (by omega)
        · rename_i hc2
          rw [if_neg hc2]
          cases hv : valueL (l2.dropWhile (nend [47, 62, 61])) with
          | none => rw [hv] at h; cases h
          | some q =>
            obtain ⟨v, r3⟩ := q
            rw [hv] at h
            exact ih _ _ _ h m (by omega)
theorem readL_eq {l : Bs} {n : Nat} (h : l.length < n) : readL l = readN n l [] := readN_fuel _ _ l [] (by omega) h
theorem readL_local {l : Bs} {as_ : List Att} {b : Bool} {r : Bs} (h : readL l = some (as_, b, r)) :
    ∃ p, l = p ++ 62 :: r ∧ (b = true → ∃ p', p = p' ++ [47]) ∧ ∀ more, readL (p ++ 62 :: more) = some (as_, b, more) := by
  obtain ⟨p, h1, h2, h3⟩ := readN_local _ _ _ _ _ _ h
  refine ⟨p, h1, h2, fun more => ?_⟩
  have h4 := h3 more
  rcases Nat.lt_or_ge (p ++ 62 :: more).length (l.length + 1) with hl | hl
  · rw [readL_eq hl]; exact h4
  · -- more rounds than there were: the same, by the rounds' own law, from what is behind cut short
    have hm := readN_more (l.length + 1) (p ++ 62 :: more) [] _ h4 ((p ++ 62 :: more).length + 1) (by omega)
    exact hm

/-! What names, and values, are like. -/
def okc (c : UInt8) : Bool := !(space c) && c != 47 && c != 62 && c != 0 && !(65 ≤ c.toNat && c.toNat ≤ 90)
def okName (n : Bs) : Prop := ∃ c t, n = c :: t ∧ okc c = true ∧ ∀ d ∈ t, okc d = true ∧ d ≠ 61
theorem clean_mem {d : UInt8} : ∀ {l : Bs}, d ∈ clean l → d ∈ bad ∨ (d ∈ l ∧ d ≠ 0)
  | [], h => by simp [clean] at h
  | c :: l, h => by
    unfold clean at h
    split at h
    · rcases List.mem_append.1 h with h | h
      · exact Or.inl h
      · rcases clean_mem h with h | h
        · exact Or.inl h
        · exact Or.inr ⟨List.mem_cons_of_mem _ h.1, h.2⟩
    · rename_i hc
      rcases List.mem_cons.1 h with rfl | h
      · exact Or.inr ⟨List.mem_cons_self, hc⟩
      · rcases clean_mem h with h | h
        · exact Or.inl h
        · exact Or.inr ⟨List.mem_cons_of_mem _ h.1, h.2⟩
theorem clean_no0 (l : Bs) : ∀ d ∈ clean l, d ≠ 0 := by
  intro d h
  rcases clean_mem h with h | h
  · simp [bad] at h; rcases h with rfl | rfl | rfl <;> decide
  · exact h.2
theorem bad_ok {d : UInt8} (h : d ∈ bad) : okc d = true ∧ d ≠ 61 := by
  simp [bad] at h
  rcases h with rfl | rfl | rfl <;> decide
theorem lw_ok (c : UInt8) (h : nend [47, 62, 61] c = true) (h0 : lw c ≠ 0) : okc (lw c) = true ∧ lw c ≠ 61 := by
  have := byteAll (fun c => !(nend [47, 62, 61] c) || lw c == 0 || (okc (lw c) && lw c != 61)) (by decide +kernel) c
  have h0' : (lw c == 0) = false := by simpa using h0
  rw [h, h0'] at this
  simpa using this
theorem lw_first (c : UInt8) (h1 : space c = false) (h2 : c ≠ 62) (h3 : c ≠ 47) (h0 : lw c ≠ 0) : okc (lw c) = true := by
  have := byteAll (fun c => space c || c == 62 || c == 47 || lw c == 0 || okc (lw c)) (by decide +kernel) c
  have e0 : (lw c == 0) = false := by simpa using h0
  have e2 : (c == 62) = false := by simpa using h2
  have e3 : (c == 47) = false := by simpa using h3
  rw [h1, e0, e2, e3] at this
  simpa using this
theorem clean_lower_ok {t : Bs} (h : ∀ e ∈ t, nend [47, 62, 61] e = true) : ∀ d ∈ clean (lower t), okc d = true ∧ d ≠ 61 := by
  intro d hd
  rcases clean_mem hd with hd | ⟨hd, h0⟩
  · exact bad_ok hd
  · obtain ⟨e, he, rfl⟩ := List.mem_map.1 hd
    exact lw_ok e (h e he) h0
theorem name_ok (c : UInt8) (l : Bs) (h1 : space c = false) (h2 : c ≠ 62) (h3 : c ≠ 47) : okName (clean (lower (c :: l.takeWhile (nend [47, 62, 61])))) := by
  have ht := clean_lower_ok (t := l.takeWhile (nend [47, 62, 61])) (fun e he => List.all_eq_true.1 (List.all_takeWhile (p := nend [47, 62, 61]) (l := l)) e he)
  show okName (clean (lw c :: lower (l.takeWhile (nend [47, 62, 61]))))
  unfold clean
  split
  · refine ⟨239, 191 :: 189 :: clean (lower (l.takeWhile (nend [47, 62, 61]))), rfl, by decide, fun d hd => ?_⟩
    rcases List.mem_cons.1 hd with rfl | hd
    · decide
    · rcases List.mem_cons.1 hd with rfl | hd
      · decide
      · exact ht d hd
  · rename_i h0
    exact ⟨_, _, rfl, lw_first c h1 h2 h3 h0, ht⟩
/-- Good attributes: names as they are to be, each another, and no byte 0 in a value. -/
structure Good (acc : List Att) : Prop where
  names : ∀ a ∈ acc, okName a.1
  unlike : acc.Pairwise fun a b => a.1 ≠ b.1
  vals : ∀ a ∈ acc, ∀ d ∈ a.2, d ≠ 0
theorem Good.nil : Good [] := ⟨by simp, List.Pairwise.nil, by simp⟩
theorem Good.add {acc : List Att} (h : Good acc) {nm v : Bs} (hn : okName nm) (hv : ∀ d ∈ v, d ≠ 0) : Good (add acc nm v) := by
  unfold Fl.add
  split
  · exact h
  · rename_i hh
    have hh' : ∀ a ∈ acc, a.1 ≠ nm := by
      intro a ha e
      apply hh
      unfold has
      exact List.any_eq_true.2 ⟨a, ha, by simpa using e⟩
    refine ⟨fun a ha => ?_, ?_, fun a ha => ?_⟩
    · rcases List.mem_append.1 ha with ha | ha
      · exact h.names a ha
      · rw [List.mem_singleton.1 ha]; exact hn
    · rw [List.pairwise_append]
      exact ⟨h.unlike, List.pairwise_singleton _ _, fun a ha b hb => by rw [List.mem_singleton.1 hb]; exact hh' a ha⟩
    · rcases List.mem_append.1 ha with ha | ha
      · exact h.vals a ha
      · rw [List.mem_singleton.1 ha]; exact hv
theorem readN_good : ∀ (n : Nat) (l : Bs) (acc as_ : List Att) (b : Bool) (r : Bs), Good acc → readN n l acc = some (as_, b, r) → Good as_ := by
  intro n
  induction n with
  | zero => intro l acc as_ b r _ h; simp [readN] at h
  | succ n ih =>
    intro l acc as_ b r hg h
    have hd := Hd.drop space l
    unfold readN at h
    cases hl : l.dropWhile space with
    | nil => rw [hl] at h; cases h
    | cons c l2 =>
      rw [hl] at h hd
      simp only at h
      split at h
      · injection h with h; injection h with h1 h2; rw [← h1]; exact hg
      · rename_i hc
        split at h
        · split at h
          · injection h with h; injection h with h1 h2; rw [← h1]; exact hg
          · exact ih _ _ _ _ _ hg h
        · rename_i hc2
          cases hv : valueL (l2.dropWhile (nend [47, 62, 61])) with
          | none => rw [hv] at h; cases h
          | some q =>
            obtain ⟨v, r3⟩ := q
            rw [hv] at h
            exact ih _ _ _ _ _ (hg.add (name_ok c l2 hd.of hc hc2) (clean_no0 _)) h
theorem readL_good {l : Bs} {as_ : List Att} {b : Bool} {r : Bs} (h : readL l = some (as_, b, r)) : Good as_ := readN_good _ _ _ _ _ _ Good.nil h
theorem readN_count : ∀ (n : Nat) (l : Bs) (acc as_ : List Att) (b : Bool) (r : Bs), readN n l acc = some (as_, b, r) → as_.length ≤ acc.length + l.length := by
  intro n
  induction n with
  | zero => intro l acc as_ b r h; simp [readN] at h
  | succ n ih =>
    intro l acc as_ b r h
    have hlen : (l.dropWhile space).length ≤ l.length := (List.dropWhile_suffix _).length_le
    unfold readN at h
    cases hl : l.dropWhile space with
    | nil => rw [hl] at h; cases h
    | cons c l2 =>
      rw [hl] at h hlen
      simp only [List.length_cons] at hlen
      simp only at h
      split at h
      · injection h with h; injection h with h1 h2; rw [← h1]; omega
      · split at h
        · split at h
          · injection h with h; injection h with h1 h2; rw [← h1]; omega
          · have := ih _ _ _ _ _ h; omega
        · cases hv : valueL (l2.dropWhile (nend [47, 62, 61])) with
          | none => rw [hv] at h; cases h
          | some q =>
            obtain ⟨v, r3⟩ := q
            rw [hv] at h
            have h1 := ih _ _ _ _ _ h
            have h2 := valueL_len hv
            have h3 : (l2.dropWhile (nend [47, 62, 61])).length ≤ l2.length := (List.dropWhile_suffix _).length_le
            have h4 : ∀ nm v, (add acc nm v).length ≤ acc.length + 1 := by intro nm v; unfold add; split <;> simp
            have := h4 (clean (lower (c :: l2.takeWhile (nend [47, 62, 61])))) (clean (decode true v))
            omega
theorem readL_count {l : Bs} {as_ : List Att} {b : Bool} {r : Bs} (h : readL l = some (as_, b, r)) : as_.length ≤ l.length := by
  have := readN_count _ _ _ _ _ _ h
  simpa using this

theorem clean_len3 (l : Bs) : (clean l).length ≤ 3 * l.length := by
  have := clean_length l
  have := List.count_le_length (a := (0 : UInt8)) (l := l)
  omega
theorem readN_short : ∀ (n : Nat) (l : Bs) (acc as_ : List Att) (b : Bool) (r : Bs) (B : Nat), (∀ a ∈ acc, a.1.length ≤ B) → 3 * l.length ≤ B → readN n l acc = some (as_, b, r) → ∀ a ∈ as_, a.1.length ≤ B := by
  intro n
  induction n with
  | zero => intro l acc as_ b r B _ _ h; simp [readN] at h
  | succ n ih =>
    intro l acc as_ b r B hB hl' h
    have hlen : (l.dropWhile space).length ≤ l.length := (List.dropWhile_suffix _).length_le
    unfold readN at h
    cases hl : l.dropWhile space with
    | nil => rw [hl] at h; cases h
    | cons c l2 =>
      rw [hl] at h hlen
      simp only [List.length_cons] at hlen
      simp only at h
      split at h
      · injection h with h; injection h with h1 h2; rw [← h1]; exact hB
      · split at h
        · split at h
          · injection h with h; injection h with h1 h2; rw [← h1]; exact hB
          · exact ih _ _ _ _ _ B hB (by omega) h
        · cases hv : valueL (l2.dropWhile (nend [47, 62, 61])) with
          | none => rw [hv] at h; cases h
          | some q =>
            obtain ⟨v, r3⟩ := q
            rw [hv] at h
            have h2 := valueL_len hv
            have h3 := congrArg List.length (take_drop_while (nend [47, 62, 61]) l2)
            rw [List.length_append] at h3
            refine ih _ _ _ _ _ B ?_ (by omega) h
            intro a ha
            unfold add at ha
            split at ha
            · exact hB a ha
            · rcases List.mem_append.1 ha with ha | ha
              · exact hB a ha
              · rw [List.mem_singleton.1 ha]
                have h5 := clean_len3 (lower (c :: l2.takeWhile (nend [47, 62, 61])))
                unfold lower at h5
                rw [List.length_map] at h5
                simp only [List.length_cons] at h5
                show (clean (lower (c :: l2.takeWhile (nend [47, 62, 61])))).length ≤ B
                unfold lower
                omega
theorem readL_short {l : Bs} {as_ : List Att} {b : Bool} {r : Bs} (h : readL l = some (as_, b, r)) : ∀ a ∈ as_, a.1.length ≤ 3 * l.length :=
  readN_short _ _ _ _ _ _ _ (by simp) (Nat.le_refl _) h
theorem readN_vshort : ∀ (n : Nat) (l : Bs) (acc as_ : List Att) (b : Bool) (r : Bs) (B : Nat), (∀ a ∈ acc, a.2.length ≤ B) → 24 * l.length ≤ B → readN n l acc = some (as_, b, r) → ∀ a ∈ as_, a.2.length ≤ B := by
  intro n
  induction n with
  | zero => intro l acc as_ b r B _ _ h; simp [readN] at h
  | succ n ih =>
    intro l acc as_ b r B hB hl' h
    have hlen : (l.dropWhile space).length ≤ l.length := (List.dropWhile_suffix _).length_le
    unfold readN at h
    cases hl : l.dropWhile space with
    | nil => rw [hl] at h; cases h
    | cons c l2 =>
      rw [hl] at h hlen
      simp only [List.length_cons] at hlen
      simp only at h
      split at h
      · injection h with h; injection h with h1 h2; rw [← h1]; exact hB
      · split at h
        · split at h
          · injection h with h; injection h with h1 h2; rw [← h1]; exact hB
          · exact ih _ _ _ _ _ B hB (by omega) h
        · cases hv : valueL (l2.dropWhile (nend [47, 62, 61])) with
          | none => rw [hv] at h; cases h
          | some q =>
            obtain ⟨v, r3⟩ := q
            rw [hv] at h
            have h2 := valueL_len hv
            have h3 := congrArg List.length (take_drop_while (nend [47, 62, 61]) l2)
            rw [List.length_append] at h3
            refine ih _ _ _ _ _ B ?_ (by omega) h
            intro a ha
            unfold add at ha
            split at ha
            · exact hB a ha
            · rcases List.mem_append.1 ha with ha | ha
              · exact hB a ha
              · rw [List.mem_singleton.1 ha]
                show (clean (decode true v)).length ≤ B
                have h5 := clean_len3 (decode true v)
                have h6 := decode_len true v.length v (Nat.le_refl _)
                omega
theorem readL_vshort {l : Bs} {as_ : List Att} {b : Bool} {r : Bs} (h : readL l = some (as_, b, r)) : ∀ a ∈ as_, a.2.length ≤ 24 * l.length :=
  readN_vshort _ _ _ _ _ _ _ (by simp) (Nat.le_refl _) h
end Go.Proofs.YtfhjfidkcdcjnaaDoor.Fl

namespace Go.Proofs.YtfhjfidkcdcjnaaDoor.Q
open Go.RowKit Go.Proofs.YtfhjfidkcdcjnaaDoorW.PrintWords Go.Proofs.YtfhjfidkcdcjnaaDoorW.PrintLast Go.Proofs.YtfhjfidkcdcjnaaDoorW.PrintMore
attribute [local go_sem] max2_int min2_int max_two min_two max_three min_three max_four min_four   -- for this text's walks alone
set_option linter.unusedVariables false
set_option linter.unusedSimpArgs false

theorem eqA27 (d : Nat) (w : World) (x0 y0 : ByteArray) (x1 y1 : ByteArray) :
    (Op.equalIn (d + 2) 27 (.agg #[.string x0, .string x1]) (.agg #[.string y0, .string y1])).run Tryd.prog w = .ok (x0.toList == y0.toList && (x1.toList == y1.toList)) w := by
  refine eqA_of Tryd.underlying27 (by kernel_rfl) ?_
  refine eqf_cons (by rfl) (by go_simp; rfl) (by go_simp; rfl) (by go_simp) ?_
  exact eqf_last (by rfl) (by go_simp; rfl) (by go_simp; rfl) (by go_simp)
end Go.Proofs.YtfhjfidkcdcjnaaDoor.Q
