/- The law TagWritten, proved whole (for every input, as the given card says; no condition beyond it): its row and its card, and what they lean on. -/
import Derived.Test.YtfhjfidkcdcjnaaDoorT1
import Derived.Test.YtfhjfidkcdcjnaaDoorTie
import Derived.Test.YtfhjfidkcdcjnaaDoorCards
import Derived.Test.YtfhjfidkcdcjnaaDoorWSized
import Derived.ChangeSlices
set_option linter.unusedVariables false
set_option linter.unusedSimpArgs false
set_option linter.unusedSectionVars false

namespace Go.Proofs.YtfhjfidkcdcjnaaDoor.Q
open Go.RowKit Go.Proofs.YtfhjfidkcdcjnaaDoorW.PrintWords Go.Proofs.YtfhjfidkcdcjnaaDoorW.PrintLast Go.Proofs.YtfhjfidkcdcjnaaDoorW.PrintMore
attribute [local go_sem] max2_int min2_int max_two min_two max_three min_three max_four min_four   -- for this text's walks alone
set_option linter.unusedVariables false
set_option linter.unusedSimpArgs false

/-! ### flaillaw09_TagWritten: function 9 -/
mutual
noncomputable def flaillaw09_TagWritten.j0 : Nat → List Int → Bool → Bool → Bool → Bool → Option (Bool)
  | 0, _, _, _, _, _ => none
  | k + 1, x0, x1, x2, x7, x28 => if x28 = true then (some x7) else (flaillaw09_TagWritten.l0 k x0 x1 x2 x7 (⟨#[]⟩ : ByteArray) (⟨#[]⟩ : ByteArray) 0)
noncomputable def flaillaw09_TagWritten.l0 : Nat → List Int → Bool → Bool → Bool → ByteArray → ByteArray → Int → Option (Bool)
  | 0, _, _, _, _, _, _, _ => none
  | k + 1, x0, x1, x2, x7, x8, x9, x10 => if x10 < (x0.length : Int) then (if 0 ≤ x10 then ((some (([(97 + (Int.tmod (rd x0 x10) 26)) % 256] : List Int) : List Int)).bind fun y318 => (if x9.size + (strOfNums y318).size ≤ 9223372036854775807 then (if (rd x0 x10) ≥ 128 then ((some (([(65 + (Int.tmod (rd x0 x10) 26)) % 256] : List Int) : List Int)).bind fun y322 => (if x8.size + (strOfNums y322).size ≤ 9223372036854775807 then (flaillaw09_TagWritten.l0 k x0 x1 x2 x7 (x8 ++ (strOfNums y322)) (x9 ++ (strOfNums y318)) (wrap64 (x10 + 1))) else (none))) else ((some (([(97 + (Int.tmod (rd x0 x10) 26)) % 256] : List Int) : List Int)).bind fun y325 => (if x8.size + (strOfNums y325).size ≤ 9223372036854775807 then (flaillaw09_TagWritten.l0 k x0 x1 x2 x7 (x8 ++ (strOfNums y325)) (x9 ++ (strOfNums y318)) (wrap64 (x10 + 1))) else (none)))) else (none))) else (none)) else (if 1 + x8.size ≤ 9223372036854775807 then (if x1 = true then (if 2 + x8.size ≤ 9223372036854775807 then (flaillaw09_TagWritten.j2 k x2 x7 ((⟨#[60, 47]⟩ : ByteArray) ++ x8) 2 x9 (⟨#[]⟩ : ByteArray) false) else (none)) else (flaillaw09_TagWritten.j2 k x2 x7 ((⟨#[60]⟩ : ByteArray) ++ x8) 1 x9 (⟨#[]⟩ : ByteArray) x2)) else (none))
noncomputable def flaillaw09_TagWritten.j2 : Nat → Bool → Bool → ByteArray → Int → ByteArray → ByteArray → Bool → Option (Bool)
  | 0, _, _, _, _, _, _, _ => none
  | k + 1, x2, x7, x12, x329000, x329001, x329002, x329004 => if x2 = true then (if x12.size + 1 ≤ 9223372036854775807 then (flaillaw09_TagWritten.j3 k x7 (x12 ++ (⟨#[47]⟩ : ByteArray)) x329000 x329001 x329002 x329004) else (none)) else (flaillaw09_TagWritten.j3 k x7 x12 x329000 x329001 x329002 x329004)
noncomputable def flaillaw09_TagWritten.j3 : Nat → Bool → ByteArray → Int → ByteArray → ByteArray → Bool → Option (Bool)
  | 0, _, _, _, _, _, _ => none
  | k + 1, x7, x12, x329000, x329001, x329002, x329004 => if x12.size + 2 ≤ 9223372036854775807 then ((tag_Read.f (x12 ++ (⟨#[62, 120]⟩ : ByteArray)) 0).bind fun bt329 => ((tag_Read.f x12 0).bind fun bt339 => (if x7 = true then (if bt329.2.2.2.2.2.2 = true then ((flailref09_Same.f k bt329.1 bt329.2.1 bt329.2.2.1 bt329.2.2.2.1 bt329.2.2.2.2.1 x329000 x329001 x329002 ([] : List (S27)) x329004).bind fun t349 => (if t349 = true then (if bt329.2.2.2.2.2.1 = (wrap64 ((x12.size : Int) + 1)) then (if bt339.2.2.2.2.2.2 = true then (some false) else (if bt339.2.2.2.2.2.1 = (x12.size : Int) then ((flailref09_Same.f k bt339.1 bt339.2.1 bt339.2.2.1 bt339.2.2.2.1 bt339.2.2.2.2.1 0 (⟨#[]⟩ : ByteArray) (⟨#[]⟩ : ByteArray) ([] : List (S27)) false).bind fun t350 => (some t350)) else (some false))) else (some false)) else (some false))) else (some false)) else (some false)))) else (none)
end
noncomputable def flaillaw09_TagWritten.f (k : Nat) (l0 : List Int) (a1 : Bool) (a2 : Bool) : Option (Bool) := (flaillaw09_awake.f k).bind fun t316 => (if (l0.length : Int) > 60 then (flaillaw09_TagWritten.j0 k l0 a1 a2 t316 true) else (flaillaw09_TagWritten.j0 k l0 a1 a2 t316 ((l0.length : Int) == 0)))
theorem flaillaw09_TagWritten.mono_l : ∀ k, (∀ y0 y1 y2 y3 y4, LeO (flaillaw09_TagWritten.j0 k y0 y1 y2 y3 y4) (flaillaw09_TagWritten.j0 (k + 1) y0 y1 y2 y3 y4)) ∧ (∀ y0 y1 y2 y3 y4 y5 y6, LeO (flaillaw09_TagWritten.l0 k y0 y1 y2 y3 y4 y5 y6) (flaillaw09_TagWritten.l0 (k + 1) y0 y1 y2 y3 y4 y5 y6)) ∧ (∀ y0 y1 y2 y3 y4 y5 y6, LeO (flaillaw09_TagWritten.j2 k y0 y1 y2 y3 y4 y5 y6) (flaillaw09_TagWritten.j2 (k + 1) y0 y1 y2 y3 y4 y5 y6)) ∧ (∀ y0 y1 y2 y3 y4 y5, LeO (flaillaw09_TagWritten.j3 k y0 y1 y2 y3 y4 y5) (flaillaw09_TagWritten.j3 (k + 1) y0 y1 y2 y3 y4 y5))
  | 0 => ⟨fun _ _ _ _ _ r h => by simp [flaillaw09_TagWritten.j0] at h, fun _ _ _ _ _ _ _ r h => by simp [flaillaw09_TagWritten.l0] at h, fun _ _ _ _ _ _ _ r h => by simp [flaillaw09_TagWritten.j2] at h, fun _ _ _ _ _ _ r h => by simp [flaillaw09_TagWritten.j3] at h⟩
  | k + 1 => by
    obtain ⟨ih0, ih1, ih2, ih3⟩ := flaillaw09_TagWritten.mono_l k
    refine ⟨?_, ?_, ?_, ?_⟩
    · intro y0 y1 y2 y3 y4
      unfold flaillaw09_TagWritten.j0
      repeat' first
      | (with_reducible exact ih0 _ _ _ _ _)
      | (with_reducible exact ih1 _ _ _ _ _ _ _)
      | (with_reducible exact ih2 _ _ _ _ _ _ _)
      | (with_reducible exact ih3 _ _ _ _ _ _)
      | (with_reducible exact flaillaw09_awake.mono _)
      | (with_reducible exact flailref09_Same.mono _ _ _ _ _ _ _ _ _ _ _)
      | (with_reducible exact LeO.refl _)
      | (with_reducible exact LeO.none _)
      | (with_reducible refine LeO.ite ?_ ?_)
      | (with_reducible refine LeO.bind ?_ (fun _ => ?_))
      | exact ih0 _ _ _ _ _
      | exact ih1 _ _ _ _ _ _ _
      | exact ih2 _ _ _ _ _ _ _
      | exact ih3 _ _ _ _ _ _
      | exact flaillaw09_awake.mono _
      | exact flailref09_Same.mono _ _ _ _ _ _ _ _ _ _ _
      | exact LeO.none _
      | refine LeO.ite ?_ ?_
      | refine LeO.bind ?_ (fun _ => ?_)
    · intro y0 y1 y2 y3 y4 y5 y6
      unfold flaillaw09_TagWritten.l0
      repeat' first
      | (with_reducible exact ih0 _ _ _ _ _)
      | (with_reducible exact ih1 _ _ _ _ _ _ _)
      | (with_reducible exact ih2 _ _ _ _ _ _ _)
      | (with_reducible exact ih3 _ _ _ _ _ _)
      | (with_reducible exact flaillaw09_awake.mono _)
      | (with_reducible exact flailref09_Same.mono _ _ _ _ _ _ _ _ _ _ _)
      | (with_reducible exact LeO.refl _)
      | (with_reducible exact LeO.none _)
      | (with_reducible refine LeO.ite ?_ ?_)
      | (with_reducible refine LeO.bind ?_ (fun _ => ?_))
      | exact ih0 _ _ _ _ _
      | exact ih1 _ _ _ _ _ _ _
      | exact ih2 _ _ _ _ _ _ _
      | exact ih3 _ _ _ _ _ _
      | exact flaillaw09_awake.mono _
      | exact flailref09_Same.mono _ _ _ _ _ _ _ _ _ _ _
      | exact LeO.none _
      | refine LeO.ite ?_ ?_
      | refine LeO.bind ?_ (fun _ => ?_)
    · intro y0 y1 y2 y3 y4 y5 y6
      unfold flaillaw09_TagWritten.j2
      repeat' first
      | (with_reducible exact ih0 _ _ _ _ _)
      | (with_reducible exact ih1 _ _ _ _ _ _ _)
      | (with_reducible exact ih2 _ _ _ _ _ _ _)
      | (with_reducible exact ih3 _ _ _ _ _ _)
      | (with_reducible exact flaillaw09_awake.mono _)
      | (with_reducible exact flailref09_Same.mono _ _ _ _ _ _ _ _ _ _ _)
      | (with_reducible exact LeO.refl _)
      | (with_reducible exact LeO.none _)
      | (with_reducible refine LeO.ite ?_ ?_)
      | (with_reducible refine LeO.bind ?_ (fun _ => ?_))
      | exact ih0 _ _ _ _ _
      | exact ih1 _ _ _ _ _ _ _
      | exact ih2 _ _ _ _ _ _ _
      | exact ih3 _ _ _ _ _ _
      | exact flaillaw09_awake.mono _
      | exact flailref09_Same.mono _ _ _ _ _ _ _ _ _ _ _
      | exact LeO.none _
      | refine LeO.ite ?_ ?_
      | refine LeO.bind ?_ (fun _ => ?_)
    · intro y0 y1 y2 y3 y4 y5
      unfold flaillaw09_TagWritten.j3
      repeat' first
      | (with_reducible exact ih0 _ _ _ _ _)
      | (with_reducible exact ih1 _ _ _ _ _ _ _)
      | (with_reducible exact ih2 _ _ _ _ _ _ _)
      | (with_reducible exact ih3 _ _ _ _ _ _)
      | (with_reducible exact flaillaw09_awake.mono _)
      | (with_reducible exact flailref09_Same.mono _ _ _ _ _ _ _ _ _ _ _)
      | (with_reducible exact LeO.refl _)
      | (with_reducible exact LeO.none _)
      | (with_reducible refine LeO.ite ?_ ?_)
      | (with_reducible refine LeO.bind ?_ (fun _ => ?_))
      | exact ih0 _ _ _ _ _
      | exact ih1 _ _ _ _ _ _ _
      | exact ih2 _ _ _ _ _ _ _
      | exact ih3 _ _ _ _ _ _
      | exact flaillaw09_awake.mono _
      | exact flailref09_Same.mono _ _ _ _ _ _ _ _ _ _ _
      | exact LeO.none _
      | refine LeO.ite ?_ ?_
      | refine LeO.bind ?_ (fun _ => ?_)
theorem flaillaw09_TagWritten.mono : ∀ a0 a1 a2 k, LeO (flaillaw09_TagWritten.f k a0 a1 a2) (flaillaw09_TagWritten.f (k + 1) a0 a1 a2) := by
  intro a0 a1 a2 k
  obtain ⟨ih0, ih1, ih2, ih3⟩ := flaillaw09_TagWritten.mono_l k
  unfold flaillaw09_TagWritten.f
  repeat' first
      | (with_reducible exact ih0 _ _ _ _ _)
      | (with_reducible exact ih1 _ _ _ _ _ _ _)
      | (with_reducible exact ih2 _ _ _ _ _ _ _)
      | (with_reducible exact ih3 _ _ _ _ _ _)
      | (with_reducible exact flaillaw09_awake.mono _)
      | (with_reducible exact flailref09_Same.mono _ _ _ _ _ _ _ _ _ _ _)
      | (with_reducible exact LeO.refl _)
      | (with_reducible exact LeO.none _)
      | (with_reducible refine LeO.ite ?_ ?_)
      | (with_reducible refine LeO.bind ?_ (fun _ => ?_))
      | exact ih0 _ _ _ _ _
      | exact ih1 _ _ _ _ _ _ _
      | exact ih2 _ _ _ _ _ _ _
      | exact ih3 _ _ _ _ _ _
      | exact flaillaw09_awake.mono _
      | exact flailref09_Same.mono _ _ _ _ _ _ _ _ _ _ _
      | exact LeO.none _
      | refine LeO.ite ?_ ?_
      | refine LeO.bind ?_ (fun _ => ?_)
set_option maxHeartbeats 8000000 in
set_option maxRecDepth 100000 in
theorem flaillaw09_TagWritten.calls (k : Nat) (A0 : Option Addr) (c0 : Nat) (l0 : List Int) (a1 : Bool) (a2 : Bool) (r : Bool) (w : World) (hG : Gl w) (hr0 : Kd.C (Kd.int .u8) w A0 l0.length l0) (hc0 : l0.length ≤ c0) (h : flaillaw09_TagWritten.f k l0 a1 a2 = some r) (ht : r = true) :
    Calls Tryd.prog 9 #[.slice A0 l0.length c0, .bool a1, .bool a2] w fun e w' => e = .returned (.bool r) ∧ Below w.heap.size w w' := by
  have hu39 := Tryd.underlying39
  have HR0 := Aside0.mk hr0
  have HC0 := Aside0.mk hc0
  clear hr0 hc0
  have HB := Aside0.mk (Below.refl w.heap.size w)
  have HG := Aside0.mk hG
  clear hG
  have HT := Aside0.mk ht
  clear ht
  have H : ((flaillaw09_awake.f k).bind fun t316 => (if (l0.length : Int) > 60 then (flaillaw09_TagWritten.j0 k l0 a1 a2 t316 true) else (flaillaw09_TagWritten.j0 k l0 a1 a2 t316 ((l0.length : Int) == 0)))) = some r := h
  clear h
  replace H := Option.bind_eq_some_iff.mp H
  obtain ⟨t316, A40, H⟩ := H
  replace H : (if (l0.length : Int) > 60 then (flaillaw09_TagWritten.j0 k l0 a1 a2 t316 true) else (flaillaw09_TagWritten.j0 k l0 a1 a2 t316 ((l0.length : Int) == 0))) = some r := H
  have A4 := Aside0.mk A40
  clear A40
  have HC5 := Aside0.mk H
  clear H
  go_enter Tryd.func9, Tryd.ntmps9
  go_upto_region 2 with (first | ((with_reducible refine gate_callee (f := 17) rfl ?_); refine goesL_ (some 20) rfl rfl Tryd.func17 (by kernel_rfl) rfl #[] rfl (by (try simp only [List.map_toArray, List.map_cons, List.map_nil]); first | done | rfl | (simp only [List.length_drop, List.length_take]; rfl)) ?_; (with_reducible refine (flaillaw09_awake.calls k  t316 _ ?side1 A4.out).mono ?_); (case side1 => first | (with_reducible exact HG.out) | exact Gl.below HG.out (by repeat (first | (with_reducible first | exact HB.out | apply below_alloc | apply pw_below_drewN | apply below_drew1) | exact HB.out)) | exact HG.out); rintro e w6 ⟨rfl, hb⟩; refine ⟨_, rfl, ?_⟩; have n0_ := Aside0.mk (below_step (by repeat (first | (with_reducible first | exact HB.out | apply below_alloc | apply pw_below_drewN | apply below_drew1) | exact HB.out)) hb); clear HB; have HB := n0_; clear n0_; (try clear hb); (try clear hb2); (try clear hk); (try clear hi)))
  (try simp only [Act.put, List.setIfInBounds_toArray, List.set_cons_zero, List.set_cons_succ])
  go_cut [28] (fun v28 wc => ∃ (kq : Nat) (x28_4 : Bool), v28 = .bool x28_4 ∧ Aside0 (flaillaw09_TagWritten.j0 kq l0 a1 a2 t316 x28_4 = some r) ∧ Aside0 (kq ≤ k) ∧ Aside0 (Below w.heap.size w wc))
  case first =>
    have H := HC5.out
    clear HC5
    by_cases c7 : (l0.length : Int) > 60
    · rw [if_pos c7] at H
      have c7b0 : decide (60 < (l0.length : Int)) = true := decide_eq_true c7
      have c7b1 : decide (60 < l0.length) = true := decide_eq_true (by omega)
      clear c7
      (first | rw [c7b0] | (simp only [i64_w, i32_w]; rw [c7b0]) | skip)
      have H' := Aside0.mk H
      clear H
      go_wp2
      go_meet
      case rel => exact ⟨_, (true), (by first | rfl | (simp; done) | (simp [*]; done)), H', ⟨by first | omega | exact Nat.le_refl _⟩, ⟨by repeat (first | (with_reducible first | exact HB.out | apply below_alloc | apply pw_below_drewN | apply below_drew1) | exact HB.out)⟩⟩
    · rw [if_neg c7] at H
      have c7b0 : decide (60 < (l0.length : Int)) = false := decide_eq_false c7
      have c7b1 : decide (60 < l0.length) = false := decide_eq_false (by omega)
      clear c7
      (first | rw [c7b0] | (simp only [i64_w, i32_w]; rw [c7b0]) | skip)
      have H' := Aside0.mk H
      clear H
      go_wp2
      go_meet
      case rel => exact ⟨_, (((l0.length : Int) == 0)), (by first | rfl | (simp; done) | (simp [*]; done)), H', ⟨by first | omega | exact Nat.le_refl _⟩, ⟨by repeat (first | (with_reducible first | exact HB.out | apply below_alloc | apply pw_below_drewN | apply below_drew1) | exact HB.out)⟩⟩
  case rest =>
    clear HC5
    try clear c1
    try clear p2
    try clear c7
    try clear c7b0
    try clear c7b1
    obtain ⟨kq, x28_4, rfl, HA, HJ4, HB⟩ := hcut
    cases kq with
    | zero => exact absurd HA.out (by simp [flaillaw09_TagWritten.j0])
    | succ kj4 =>
      have H := HA.out
      clear HA
      simp only [flaillaw09_TagWritten.j0] at H
      by_cases c8 : x28_4 = true
      · subst c8
        have H1 : (some t316) = some r := by rw [if_pos rfl] at H; exact H
        clear H
        have H := H1
        clear H1
        obtain rfl := Option.some.inj H
        go_wp2
        go_ret
        exact ⟨by first | rfl | (simp [errW_none, errW_some] <;> rfl) | (simp [*, errW_none, errW_some] <;> rfl), by repeat (first | (with_reducible first | exact HB.out | apply below_alloc | apply pw_below_drewN | apply below_drew1) | exact HB.out)⟩
      · replace c8 := Bool.eq_false_iff.mpr c8
        subst c8
        have H1 : (flaillaw09_TagWritten.l0 kj4 l0 a1 a2 t316 (⟨#[]⟩ : ByteArray) (⟨#[]⟩ : ByteArray) 0) = some r := by rw [if_neg (show ¬ (false = true) by decide)] at H; exact H
        clear H
        have H := H1
        clear H1
        have H' := Aside0.mk H
        clear H
        go_wp2
        go_loopg [8, 9, 10] kj4 (fun kq v8 v9 v10 w' => ∃ (x8_2 : ByteArray) (x9_2 : ByteArray) (x10_2 : Int), v8 = .string x8_2 ∧ v9 = .string x9_2 ∧ v10 = .int .i64 x10_2 ∧ Aside0 (flaillaw09_TagWritten.l0 kq l0 a1 a2 t316 x8_2 x9_2 x10_2 = some r) ∧ Aside0 (kq ≤ kj4) ∧ Aside0 (Below w.heap.size w w'))
        case atStart => exact ⟨((⟨#[]⟩ : ByteArray)), ((⟨#[]⟩ : ByteArray)), (0), (by first | rfl | (simp; done) | (simp [*]; done)), (by first | rfl | (simp; done) | (simp [*]; done)), (by first | rfl | (simp; done) | (simp [*]; done)), H', ⟨Nat.le_refl _⟩, ⟨by repeat (first | (with_reducible first | exact HB.out | apply below_alloc | apply pw_below_drewN | apply below_drew1) | exact HB.out)⟩⟩
        case round =>
          clear H'
          try clear c1
          try clear p2
          try clear c7
          try clear c7b0
          try clear c7b1
          try clear c8
          try clear p2
          obtain ⟨x8_2, x9_2, x10_2, rfl, rfl, rfl, HA, HK2, HB⟩ := hrel
          cases gk with
          | zero => exact absurd HA.out (by simp [flaillaw09_TagWritten.l0])
          | succ k2 =>
            have H := HA.out
            clear HA
            simp only [flaillaw09_TagWritten.l0] at H
            by_cases c9 : x10_2 < (l0.length : Int)
            · rw [if_pos c9] at H
              have c9b0 : decide (x10_2 < (l0.length : Int)) = true := decide_eq_true c9
              clear c9
              by_cases c10 : 0 ≤ x10_2
              · rw [if_pos c10] at H
                have c10b0 : decide (0 ≤ x10_2) = true := decide_eq_true c10
                clear c10
                obtain ⟨y318, hy318⟩ : ∃ y_ : List Int, y_ = (([(97 + (Int.tmod (rd l0 x10_2) 26)) % 256] : List Int)) := ⟨_, rfl⟩
                replace H : (if x9_2.size + (strOfNums y318).size ≤ 9223372036854775807 then (if (rd l0 x10_2) ≥ 128 then ((some (([(65 + (Int.tmod (rd l0 x10_2) 26)) % 256] : List Int) : List Int)).bind fun y322 => (if x8_2.size + (strOfNums y322).size ≤ 9223372036854775807 then (flaillaw09_TagWritten.l0 k2 l0 a1 a2 t316 (x8_2 ++ (strOfNums y322)) (x9_2 ++ (strOfNums y318)) (wrap64 (x10_2 + 1))) else (none))) else ((some (([(97 + (Int.tmod (rd l0 x10_2) 26)) % 256] : List Int) : List Int)).bind fun y325 => (if x8_2.size + (strOfNums y325).size ≤ 9223372036854775807 then (flaillaw09_TagWritten.l0 k2 l0 a1 a2 t316 (x8_2 ++ (strOfNums y325)) (x9_2 ++ (strOfNums y318)) (wrap64 (x10_2 + 1))) else (none)))) else (none)) = some r := by first | (rw [hy318]; with_reducible exact H) | (have H2_ := (Option.bind_some _ _).symm.trans H; rw [hy318]; with_reducible exact H2_) | (have H2_ := (Option.bind_some _ _).symm.trans H; with_reducible exact H2_) | with_reducible exact H | (rw [hy318]; exact H) | exact H
                have Ny318 := Aside0.mk hy318
                clear hy318
                by_cases c11 : x9_2.size + (strOfNums y318).size ≤ 9223372036854775807
                · rw [if_pos c11] at H
                  have c11b0 := eq_true c11
                  have c11b1 : decide (x9_2.size + (strOfNums y318).size ≤ 9223372036854775807) = true := decide_eq_true c11
                  try have c11b2 : (9223372036854775807 < x9_2.size + (strOfNums y318).size) = False := eq_false (Nat.not_lt.2 c11)
                  by_cases c12 : (rd l0 x10_2) ≥ 128
                  · rw [if_pos c12] at H
                    have c12b0 : decide (128 ≤ (rd l0 x10_2)) = true := decide_eq_true c12
                    clear c12
                    obtain ⟨y322, hy322⟩ : ∃ y_ : List Int, y_ = (([(65 + (Int.tmod (rd l0 x10_2) 26)) % 256] : List Int)) := ⟨_, rfl⟩
                    replace H : (if x8_2.size + (strOfNums y322).size ≤ 9223372036854775807 then (flaillaw09_TagWritten.l0 k2 l0 a1 a2 t316 (x8_2 ++ (strOfNums y322)) (x9_2 ++ (strOfNums y318)) (wrap64 (x10_2 + 1))) else (none)) = some r := by first | (rw [hy322]; with_reducible exact H) | (have H2_ := (Option.bind_some _ _).symm.trans H; rw [hy322]; with_reducible exact H2_) | (have H2_ := (Option.bind_some _ _).symm.trans H; with_reducible exact H2_) | with_reducible exact H | (rw [hy322]; exact H) | exact H
                    have Ny322 := Aside0.mk hy322
                    clear hy322
                    by_cases c13 : x8_2.size + (strOfNums y322).size ≤ 9223372036854775807
                    · rw [if_pos c13] at H
                      have c13b0 := eq_true c13
                      have c13b1 : decide (x8_2.size + (strOfNums y322).size ≤ 9223372036854775807) = true := decide_eq_true c13
                      try have c13b2 : (9223372036854775807 < x8_2.size + (strOfNums y322).size) = False := eq_false (Nat.not_lt.2 c13)
                      have H' := Aside0.mk H
                      clear H
                      have p317 : 0 ≤ (x10_2 : Int) := of_decide_eq_true (by first | (with_reducible assumption) | assumption)
                      have q317 : x10_2 < (l0.length : Int) := of_decide_eq_true (by first | (with_reducible assumption) | assumption)
                      obtain ⟨ad317, e317, hx317_0⟩ := Kd.at_int HR0.out x10_2 p317 q317
                      cases e317
                      replace hx317_0 := (HB.out.cell (World.block_lt_of_cell? w _ hx317_0)).trans hx317_0
                      replace p317 := eq_true p317
                      replace q317 := eq_true q317
                      go_wp2_with (first | ((with_reducible refine gate_dst (N := 44) rfl ?_); (try (refine gate_guard (by rfl) ?_; dsimp only)); refine Kd.R_lit (Kd.int .u8) _ 5 ?hg (N := 44) ?hd (xs := ([(97 + (Int.tmod (rd l0 x10_2) 26)) % 256] : List Int)) (inner := [.int .u8 ((97 + (Int.tmod (rd l0 x10_2) 26)) % 256)]) (ok := fun _ => True) (okp := fun _ => True) ?hr ?hp (fun _ hk => hk) trivial (Below.refl _ _) (Nat.le_refl _) (by simp) ?_; (case hd => rfl); (case hg => rfl); (case hr => first | (go_simp; done) | (go_simp; rfl)); (case hp => exact (Reps.one (show Kd.M (Kd.int .u8) _ _ _ ((97 + (Int.tmod (rd l0 x10_2) 26)) % 256) [.int .u8 ((97 + (Int.tmod (rd l0 x10_2) 26)) % 256)] from rfl) (Reps.none _ _))); intro v319 w14 ho15 hb hg_ hnew_; clear hg_ hnew_; (first | rw [← Ny318.out] at ho15 | (simp only [Int.reduceToNat] at ho15; rw [← Ny318.out] at ho15)); have n0_ := Aside0.mk (Kd.R_lower ho15 (below_size (by repeat (first | (with_reducible first | exact HB.out | apply below_alloc | apply pw_below_drewN | apply below_drew1) | exact HB.out)))); have n1_ := Aside0.mk (below_step (by repeat (first | (with_reducible first | exact HB.out | apply below_alloc | apply pw_below_drewN | apply below_drew1) | exact HB.out)) hb); clear HB; have HO320 := n0_; have HB := n1_; clear n0_ n1_; clear hb ho15; have hcv16 := own_string (P := Tryd.prog) Tryd.underlying29 Tryd.underlying5 Tryd.underlying9 (Kd.own_of_R HO320.out); have p321 : 0 ≤ (x10_2 : Int) := of_decide_eq_true (by first | (with_reducible assumption) | assumption); have q321 : x10_2 < (l0.length : Int) := of_decide_eq_true (by first | (with_reducible assumption) | assumption); obtain ⟨ad321, e321, hx321_0⟩ := Kd.at_int HR0.out x10_2 p321 q321; obtain rfl : ad317 = ad321 := (by injection e321); replace hx321_0 := (HB.out.cell (World.block_lt_of_cell? w _ hx321_0)).trans hx321_0; replace p321 := eq_true p321; replace q321 := eq_true q321) | ((with_reducible refine gate_dst (N := 55) rfl ?_); (try (refine gate_guard (by rfl) ?_; dsimp only)); refine Kd.R_lit (Kd.int .u8) _ 5 ?hg (N := 55) ?hd (xs := ([(65 + (Int.tmod (rd l0 x10_2) 26)) % 256] : List Int)) (inner := [.int .u8 ((65 + (Int.tmod (rd l0 x10_2) 26)) % 256)]) (ok := fun _ => True) (okp := fun _ => True) ?hr ?hp (fun _ hk => hk) trivial (Below.refl _ _) (Nat.le_refl _) (by simp) ?_; (case hd => rfl); (case hg => rfl); (case hr => first | (go_simp; done) | (go_simp; rfl)); (case hp => exact (Reps.one (show Kd.M (Kd.int .u8) _ _ _ ((65 + (Int.tmod (rd l0 x10_2) 26)) % 256) [.int .u8 ((65 + (Int.tmod (rd l0 x10_2) 26)) % 256)] from rfl) (Reps.none _ _))); intro v323 w17 ho18 hb hg_ hnew_; clear hg_ hnew_; (first | rw [← Ny322.out] at ho18 | (simp only [Int.reduceToNat] at ho18; rw [← Ny322.out] at ho18)); have n0_ := Aside0.mk (Kd.R_elder' (by (with_reducible repeat (first | apply Kd.R_alloc | apply Kd.R_drewN | apply Kd.R_drew)); exact HO320.out) (Kd.R_base ho18) hb); have n1_ := Aside0.mk (Kd.R_lower (Kd.R_new' ho18 (Kd.R_lt (by (with_reducible repeat (first | apply Kd.R_alloc | apply Kd.R_drewN | apply Kd.R_drew)); exact HO320.out))) (below_size (by repeat (first | (with_reducible first | exact HB.out | apply below_alloc | apply pw_below_drewN | apply below_drew1) | exact HB.out)))); have n2_ := Aside0.mk (below_step (by repeat (first | (with_reducible first | exact HB.out | apply below_alloc | apply pw_below_drewN | apply below_drew1) | exact HB.out)) hb); clear HO320; clear HB; have HO320 := n0_; have HO324 := n1_; have HB := n2_; clear n0_ n1_ n2_; clear hb ho18; have hcv19 := own_string (P := Tryd.prog) Tryd.underlying29 Tryd.underlying5 Tryd.underlying9 (Kd.own_of_R HO324.out)))
                      go_roundg k2
                      case measure => have := HJ4.out; have := HK2.out; omega
                      case rel => exact ⟨(x8_2 ++ (strOfNums y322)), (x9_2 ++ (strOfNums y318)), (wrap64 (x10_2 + 1)), (by first | rfl | (simp; done) | (simp [*]; done)), (by first | rfl | (simp; done) | (simp [*]; done)), (by first | rfl | (simp; done) | (simp [*]; done)), H', ⟨by have := HJ4.out; have := HK2.out; omega⟩, ⟨by repeat (first | (with_reducible first | exact HB.out | apply below_alloc | apply pw_below_drewN | apply below_drew1) | exact HB.out)⟩⟩
                    · rw [if_neg c13] at H
                      exact absurd H (by simp)
                  · rw [if_neg c12] at H
                    have c12b0 : decide (128 ≤ (rd l0 x10_2)) = false := decide_eq_false c12
                    clear c12
                    obtain ⟨y325, hy325⟩ : ∃ y_ : List Int, y_ = (([(97 + (Int.tmod (rd l0 x10_2) 26)) % 256] : List Int)) := ⟨_, rfl⟩
                    replace H : (if x8_2.size + (strOfNums y325).size ≤ 9223372036854775807 then (flaillaw09_TagWritten.l0 k2 l0 a1 a2 t316 (x8_2 ++ (strOfNums y325)) (x9_2 ++ (strOfNums y318)) (wrap64 (x10_2 + 1))) else (none)) = some r := by first | (rw [hy325]; with_reducible exact H) | (have H2_ := (Option.bind_some _ _).symm.trans H; rw [hy325]; with_reducible exact H2_) | (have H2_ := (Option.bind_some _ _).symm.trans H; with_reducible exact H2_) | with_reducible exact H | (rw [hy325]; exact H) | exact H
                    have Ny325 := Aside0.mk hy325
                    clear hy325
                    by_cases c20 : x8_2.size + (strOfNums y325).size ≤ 9223372036854775807
                    · rw [if_pos c20] at H
                      have c20b0 := eq_true c20
                      have c20b1 : decide (x8_2.size + (strOfNums y325).size ≤ 9223372036854775807) = true := decide_eq_true c20
                      try have c20b2 : (9223372036854775807 < x8_2.size + (strOfNums y325).size) = False := eq_false (Nat.not_lt.2 c20)
                      have H' := Aside0.mk H
                      clear H
                      have p317 : 0 ≤ (x10_2 : Int) := of_decide_eq_true (by first | (with_reducible assumption) | assumption)
                      have q317 : x10_2 < (l0.length : Int) := of_decide_eq_true (by first | (with_reducible assumption) | assumption)
                      obtain ⟨ad317, e317, hx317_0⟩ := Kd.at_int HR0.out x10_2 p317 q317
                      cases e317
                      replace hx317_0 := (HB.out.cell (World.block_lt_of_cell? w _ hx317_0)).trans hx317_0
                      replace p317 := eq_true p317
                      replace q317 := eq_true q317
                      go_wp2_with (first | ((with_reducible refine gate_dst (N := 44) rfl ?_); (try (refine gate_guard (by rfl) ?_; dsimp only)); refine Kd.R_lit (Kd.int .u8) _ 5 ?hg (N := 44) ?hd (xs := ([(97 + (Int.tmod (rd l0 x10_2) 26)) % 256] : List Int)) (inner := [.int .u8 ((97 + (Int.tmod (rd l0 x10_2) 26)) % 256)]) (ok := fun _ => True) (okp := fun _ => True) ?hr ?hp (fun _ hk => hk) trivial (Below.refl _ _) (Nat.le_refl _) (by simp) ?_; (case hd => rfl); (case hg => rfl); (case hr => first | (go_simp; done) | (go_simp; rfl)); (case hp => exact (Reps.one (show Kd.M (Kd.int .u8) _ _ _ ((97 + (Int.tmod (rd l0 x10_2) 26)) % 256) [.int .u8 ((97 + (Int.tmod (rd l0 x10_2) 26)) % 256)] from rfl) (Reps.none _ _))); intro v319 w21 ho22 hb hg_ hnew_; clear hg_ hnew_; (first | rw [← Ny318.out] at ho22 | (simp only [Int.reduceToNat] at ho22; rw [← Ny318.out] at ho22)); have n0_ := Aside0.mk (Kd.R_lower ho22 (below_size (by repeat (first | (with_reducible first | exact HB.out | apply below_alloc | apply pw_below_drewN | apply below_drew1) | exact HB.out)))); have n1_ := Aside0.mk (below_step (by repeat (first | (with_reducible first | exact HB.out | apply below_alloc | apply pw_below_drewN | apply below_drew1) | exact HB.out)) hb); clear HB; have HO320 := n0_; have HB := n1_; clear n0_ n1_; clear hb ho22; have hcv23 := own_string (P := Tryd.prog) Tryd.underlying29 Tryd.underlying5 Tryd.underlying9 (Kd.own_of_R HO320.out); have p321 : 0 ≤ (x10_2 : Int) := of_decide_eq_true (by first | (with_reducible assumption) | assumption); have q321 : x10_2 < (l0.length : Int) := of_decide_eq_true (by first | (with_reducible assumption) | assumption); obtain ⟨ad321, e321, hx321_0⟩ := Kd.at_int HR0.out x10_2 p321 q321; obtain rfl : ad317 = ad321 := (by injection e321); replace hx321_0 := (HB.out.cell (World.block_lt_of_cell? w _ hx321_0)).trans hx321_0; replace p321 := eq_true p321; replace q321 := eq_true q321) | ((with_reducible refine gate_dst (N := 61) rfl ?_); (try (refine gate_guard (by rfl) ?_; dsimp only)); refine Kd.R_lit (Kd.int .u8) _ 5 ?hg (N := 61) ?hd (xs := ([(97 + (Int.tmod (rd l0 x10_2) 26)) % 256] : List Int)) (inner := [.int .u8 ((97 + (Int.tmod (rd l0 x10_2) 26)) % 256)]) (ok := fun _ => True) (okp := fun _ => True) ?hr ?hp (fun _ hk => hk) trivial (Below.refl _ _) (Nat.le_refl _) (by simp) ?_; (case hd => rfl); (case hg => rfl); (case hr => first | (go_simp; done) | (go_simp; rfl)); (case hp => exact (Reps.one (show Kd.M (Kd.int .u8) _ _ _ ((97 + (Int.tmod (rd l0 x10_2) 26)) % 256) [.int .u8 ((97 + (Int.tmod (rd l0 x10_2) 26)) % 256)] from rfl) (Reps.none _ _))); intro v326 w24 ho25 hb hg_ hnew_; clear hg_ hnew_; (first | rw [← Ny325.out] at ho25 | (simp only [Int.reduceToNat] at ho25; rw [← Ny325.out] at ho25)); have n0_ := Aside0.mk (Kd.R_elder' (by (with_reducible repeat (first | apply Kd.R_alloc | apply Kd.R_drewN | apply Kd.R_drew)); exact HO320.out) (Kd.R_base ho25) hb); have n1_ := Aside0.mk (Kd.R_lower (Kd.R_new' ho25 (Kd.R_lt (by (with_reducible repeat (first | apply Kd.R_alloc | apply Kd.R_drewN | apply Kd.R_drew)); exact HO320.out))) (below_size (by repeat (first | (with_reducible first | exact HB.out | apply below_alloc | apply pw_below_drewN | apply below_drew1) | exact HB.out)))); have n2_ := Aside0.mk (below_step (by repeat (first | (with_reducible first | exact HB.out | apply below_alloc | apply pw_below_drewN | apply below_drew1) | exact HB.out)) hb); clear HO320; clear HB; have HO320 := n0_; have HO327 := n1_; have HB := n2_; clear n0_ n1_ n2_; clear hb ho25; have hcv26 := own_string (P := Tryd.prog) Tryd.underlying29 Tryd.underlying5 Tryd.underlying9 (Kd.own_of_R HO327.out)))
                      go_roundg k2
                      case measure => have := HJ4.out; have := HK2.out; omega
                      case rel => exact ⟨(x8_2 ++ (strOfNums y325)), (x9_2 ++ (strOfNums y318)), (wrap64 (x10_2 + 1)), (by first | rfl | (simp; done) | (simp [*]; done)), (by first | rfl | (simp; done) | (simp [*]; done)), (by first | rfl | (simp; done) | (simp [*]; done)), H', ⟨by have := HJ4.out; have := HK2.out; omega⟩, ⟨by repeat (first | (with_reducible first | exact HB.out | apply below_alloc | apply pw_below_drewN | apply below_drew1) | exact HB.out)⟩⟩
                    · rw [if_neg c20] at H
                      exact absurd H (by simp)
                · rw [if_neg c11] at H
                  exact absurd H (by simp)
              · rw [if_neg c10] at H
                exact absurd H (by simp)
            · rw [if_neg c9] at H
              have c9b0 : decide (x10_2 < (l0.length : Int)) = false := decide_eq_false c9
              clear c9
              by_cases c27 : 1 + x8_2.size ≤ 9223372036854775807
              · rw [if_pos c27] at H
                have c27b0 := eq_true c27
                have c27b1 : decide (1 + x8_2.size ≤ 9223372036854775807) = true := decide_eq_true c27
                try have c27b2 : (9223372036854775807 < 1 + x8_2.size) = False := eq_false (Nat.not_lt.2 c27)
                have HC28 := Aside0.mk H
                clear H
                go_upto_if 69 with (first | ((with_reducible refine gate_dst (N := 13) rfl ?_); (try (refine gate_guard (by rfl) ?_; dsimp only)); refine box_event ?hg (N := 13) ?hd (cs := #[.int .i64 0, .string (⟨#[]⟩ : ByteArray), .string (⟨#[]⟩ : ByteArray), .slice none 0 0, .bool false]) (t := 39) ?hr ?_; (case hd => rfl); (case hg => rfl); (case hr => first | (go_simp; done) | (go_simp; rfl)); intro gb328 hg w29 hbox hb; have n0_ := Aside0.mk (below_step (by repeat (first | (with_reducible first | exact HB.out | apply below_alloc | apply pw_below_drewN | apply below_drew1) | exact HB.out)) hb); have n1_ := Aside0.mk (hbox); have n2_ := Aside0.mk ((by rw [hg]; exact (below_size (by repeat (first | (with_reducible first | exact HB.out | apply below_alloc | apply pw_below_drewN | apply below_drew1) | exact HB.out))) : w.heap.size ≤ gb328)); have n3_ := Aside0.mk ((by rw [hg]; exact (below_size (by repeat (first | (with_reducible first | exact HB.out | apply below_alloc | apply pw_below_drewN | apply below_drew1) | exact HB.out))) : w.heap.size ≤ gb328)); clear HB; have HB := n0_; have BK328 := n1_; have GW328 := n2_; have GE328 := n3_; clear n0_ n1_ n2_ n3_; clear hb hbox hg; have hcz30_0 : w29.cell? ⟨gb328, 0, none⟩ = some (.int .i64 0) := (blk_cell BK328.out 0).trans rfl; have hcz30_1 : w29.cell? ⟨gb328, 1, none⟩ = some (.string (⟨#[]⟩ : ByteArray)) := (blk_cell BK328.out 1).trans rfl; have hcz30_2 : w29.cell? ⟨gb328, 2, none⟩ = some (.string (⟨#[]⟩ : ByteArray)) := (blk_cell BK328.out 2).trans rfl; have hcz30_3 : w29.cell? ⟨gb328, 3, none⟩ = some (.slice none 0 0) := (blk_cell BK328.out 3).trans rfl; have hcz30_4 : w29.cell? ⟨gb328, 4, none⟩ = some (.bool false) := (blk_cell BK328.out 4).trans rfl; have hfz30_0 := blk_frozen BK328.out 0; have hfz30_1 := blk_frozen BK328.out 1; have hfz30_2 := blk_frozen BK328.out 2; have hfz30_3 := blk_frozen BK328.out 3; have hfz30_4 := blk_frozen BK328.out 4))
                (try simp only [Act.put, List.setIfInBounds_toArray, List.set_cons_zero, List.set_cons_succ])
                go_cut [12] (fun v12 wc => ∃ (kq : Nat) (x12_27 : ByteArray) (x329000_27 : Int) (x329001_27 : ByteArray) (x329002_27 : ByteArray) (x329004_27 : Bool), v12 = .string x12_27 ∧ Aside0 (flaillaw09_TagWritten.j2 kq a2 t316 x12_27 x329000_27 x329001_27 x329002_27 x329004_27 = some r) ∧ Aside0 (kq ≤ k2) ∧ Aside0 (wc.heap[gb328]? = some (.cells #[.int .i64 x329000_27, .string x329001_27, .string x329002_27, (.slice none 0 0), .bool x329004_27] 39 (0, 0))) ∧ Aside0 (Below w.heap.size w wc))
                case first =>
                  have H := HC28.out
                  clear HC28
                  by_cases c31 : a1 = true
                  · subst c31
                    have H1 : (if 2 + x8_2.size ≤ 9223372036854775807 then (flaillaw09_TagWritten.j2 k2 a2 t316 ((⟨#[60, 47]⟩ : ByteArray) ++ x8_2) 2 x9_2 (⟨#[]⟩ : ByteArray) false) else (none)) = some r := by rw [if_pos rfl] at H; exact H
                    clear H
                    have H := H1
                    clear H1
                    by_cases c32 : 2 + x8_2.size ≤ 9223372036854775807
                    · rw [if_pos c32] at H
                      have c32b0 := eq_true c32
                      have c32b1 : decide (2 + x8_2.size ≤ 9223372036854775807) = true := decide_eq_true c32
                      try have c32b2 : (9223372036854775807 < 2 + x8_2.size) = False := eq_false (Nat.not_lt.2 c32)
                      have H' := Aside0.mk H
                      clear H
                      have hcz33_0 : w29.cell? ⟨gb328, 0, none⟩ = some (.int .i64 0) := (blk_cell BK328.out 0).trans rfl
                      have hcz33_1 : w29.cell? ⟨gb328, 1, none⟩ = some (.string (⟨#[]⟩ : ByteArray)) := (blk_cell BK328.out 1).trans rfl
                      have hcz33_2 : w29.cell? ⟨gb328, 2, none⟩ = some (.string (⟨#[]⟩ : ByteArray)) := (blk_cell BK328.out 2).trans rfl
                      have hcz33_3 : w29.cell? ⟨gb328, 3, none⟩ = some (.slice none 0 0) := (blk_cell BK328.out 3).trans rfl
                      have hcz33_4 : w29.cell? ⟨gb328, 4, none⟩ = some (.bool false) := (blk_cell BK328.out 4).trans rfl
                      have hfz33_0 := blk_frozen BK328.out 0
                      have hfz33_1 := blk_frozen BK328.out 1
                      have hfz33_2 := blk_frozen BK328.out 2
                      have hfz33_3 := blk_frozen BK328.out 3
                      have hfz33_4 := blk_frozen BK328.out 4
                      go_wp2
                      go_meet
                      case rel => exact ⟨_, ((⟨#[60, 47]⟩ : ByteArray) ++ x8_2), (2), (x9_2), ((⟨#[]⟩ : ByteArray)), (false), (by first | rfl | (simp; done) | (simp [*]; done)), H', ⟨by have := HJ4.out; have := HK2.out; first | omega | exact Nat.le_refl _⟩, ⟨by (with_reducible repeat (first | refine blk_drewN ?_ _ | refine blk_drew ?_ | refine blk_alloc ?_ _)); refine blk_put (cs := #[.int .i64 2, .string x9_2, .string (⟨#[]⟩ : ByteArray), .slice none 0 0, .bool a2]) ?_ 4 _ rfl; (with_reducible repeat (first | refine blk_drewN ?_ _ | refine blk_drew ?_ | refine blk_alloc ?_ _)); refine blk_put (cs := #[.int .i64 2, .string x9_2, .string (⟨#[]⟩ : ByteArray), .slice none 0 0, .bool a2]) ?_ 3 _ rfl; (with_reducible repeat (first | refine blk_drewN ?_ _ | refine blk_drew ?_ | refine blk_alloc ?_ _)); refine blk_put (cs := #[.int .i64 2, .string x9_2, .string (⟨#[]⟩ : ByteArray), .slice none 0 0, .bool a2]) ?_ 2 _ rfl; (with_reducible repeat (first | refine blk_drewN ?_ _ | refine blk_drew ?_ | refine blk_alloc ?_ _)); refine blk_put (cs := #[.int .i64 2, .string x9_2, .string (⟨#[]⟩ : ByteArray), .slice none 0 0, .bool a2]) ?_ 1 _ rfl; (with_reducible repeat (first | refine blk_drewN ?_ _ | refine blk_drew ?_ | refine blk_alloc ?_ _)); refine blk_put (cs := #[.int .i64 1, .string x9_2, .string (⟨#[]⟩ : ByteArray), .slice none 0 0, .bool a2]) ?_ 0 _ rfl; (with_reducible repeat (first | refine blk_drewN ?_ _ | refine blk_drew ?_ | refine blk_alloc ?_ _)); refine blk_put (cs := #[.int .i64 1, .string x9_2, .string (⟨#[]⟩ : ByteArray), .slice none 0 0, .bool false]) ?_ 4 _ rfl; (with_reducible repeat (first | refine blk_drewN ?_ _ | refine blk_drew ?_ | refine blk_alloc ?_ _)); refine blk_put (cs := #[.int .i64 1, .string x9_2, .string (⟨#[]⟩ : ByteArray), .slice none 0 0, .bool false]) ?_ 3 _ rfl; (with_reducible repeat (first | refine blk_drewN ?_ _ | refine blk_drew ?_ | refine blk_alloc ?_ _)); refine blk_put (cs := #[.int .i64 1, .string x9_2, .string (⟨#[]⟩ : ByteArray), .slice none 0 0, .bool false]) ?_ 2 _ rfl; (with_reducible repeat (first | refine blk_drewN ?_ _ | refine blk_drew ?_ | refine blk_alloc ?_ _)); refine blk_put (cs := #[.int .i64 1, .string (⟨#[]⟩ : ByteArray), .string (⟨#[]⟩ : ByteArray), .slice none 0 0, .bool false]) ?_ 1 _ rfl; (with_reducible repeat (first | refine blk_drewN ?_ _ | refine blk_drew ?_ | refine blk_alloc ?_ _)); refine blk_put (cs := #[.int .i64 0, .string (⟨#[]⟩ : ByteArray), .string (⟨#[]⟩ : ByteArray), .slice none 0 0, .bool false]) ?_ 0 _ rfl; (with_reducible repeat (first | refine blk_drewN ?_ _ | refine blk_drew ?_ | refine blk_alloc ?_ _)); exact BK328.out⟩, ⟨by repeat (first | (with_reducible first | exact HB.out | apply below_alloc | apply pw_below_drewN | apply below_drew1 | refine below_set ?_ GE328.out) | exact HB.out)⟩⟩
                    · rw [if_neg c32] at H
                      exact absurd H (by simp)
                  · replace c31 := Bool.eq_false_iff.mpr c31
                    subst c31
                    have H1 : (flaillaw09_TagWritten.j2 k2 a2 t316 ((⟨#[60]⟩ : ByteArray) ++ x8_2) 1 x9_2 (⟨#[]⟩ : ByteArray) a2) = some r := by rw [if_neg (show ¬ (false = true) by decide)] at H; exact H
                    clear H
                    have H := H1
                    clear H1
                    have H' := Aside0.mk H
                    clear H
                    go_wp2
                    go_meet
                    case rel => exact ⟨_, ((⟨#[60]⟩ : ByteArray) ++ x8_2), (1), (x9_2), ((⟨#[]⟩ : ByteArray)), (a2), (by first | rfl | (simp; done) | (simp [*]; done)), H', ⟨by have := HJ4.out; have := HK2.out; first | omega | exact Nat.le_refl _⟩, ⟨by (with_reducible repeat (first | refine blk_drewN ?_ _ | refine blk_drew ?_ | refine blk_alloc ?_ _)); refine blk_put (cs := #[.int .i64 1, .string x9_2, .string (⟨#[]⟩ : ByteArray), .slice none 0 0, .bool false]) ?_ 4 _ rfl; (with_reducible repeat (first | refine blk_drewN ?_ _ | refine blk_drew ?_ | refine blk_alloc ?_ _)); refine blk_put (cs := #[.int .i64 1, .string x9_2, .string (⟨#[]⟩ : ByteArray), .slice none 0 0, .bool false]) ?_ 3 _ rfl; (with_reducible repeat (first | refine blk_drewN ?_ _ | refine blk_drew ?_ | refine blk_alloc ?_ _)); refine blk_put (cs := #[.int .i64 1, .string x9_2, .string (⟨#[]⟩ : ByteArray), .slice none 0 0, .bool false]) ?_ 2 _ rfl; (with_reducible repeat (first | refine blk_drewN ?_ _ | refine blk_drew ?_ | refine blk_alloc ?_ _)); refine blk_put (cs := #[.int .i64 1, .string (⟨#[]⟩ : ByteArray), .string (⟨#[]⟩ : ByteArray), .slice none 0 0, .bool false]) ?_ 1 _ rfl; (with_reducible repeat (first | refine blk_drewN ?_ _ | refine blk_drew ?_ | refine blk_alloc ?_ _)); refine blk_put (cs := #[.int .i64 0, .string (⟨#[]⟩ : ByteArray), .string (⟨#[]⟩ : ByteArray), .slice none 0 0, .bool false]) ?_ 0 _ rfl; (with_reducible repeat (first | refine blk_drewN ?_ _ | refine blk_drew ?_ | refine blk_alloc ?_ _)); exact BK328.out⟩, ⟨by repeat (first | (with_reducible first | exact HB.out | apply below_alloc | apply pw_below_drewN | apply below_drew1 | refine below_set ?_ GE328.out) | exact HB.out)⟩⟩
                case rest =>
                  clear HC28
                  try clear c1
                  try clear hcv1
                  try clear c2
                  try clear p2
                  try clear hcv2
                  try clear c3
                  try clear p3
                  try clear q3
                  try clear hx3
                  try clear p6
                  try clear c7
                  try clear c7b0
                  try clear c7b1
                  try clear c8
                  try clear c9
                  try clear c9b0
                  try clear c10
                  try clear c10b0
                  try clear c11
                  try clear c11b0
                  try clear c11b1
                  try clear c11b2
                  try clear c12
                  try clear c12b0
                  try clear c13
                  try clear c13b0
                  try clear c13b1
                  try clear c13b2
                  try clear hcv16
                  try clear c17
                  try clear hcv19
                  try clear c20
                  try clear c20b0
                  try clear c20b1
                  try clear c20b2
                  try clear hcv23
                  try clear hcv26
                  try clear c27
                  try clear c27b0
                  try clear c27b1
                  try clear c27b2
                  try clear c31
                  try clear p31
                  try clear q31
                  try clear hx31
                  try clear c32
                  try clear c32b0
                  try clear c32b1
                  try clear c32b2
                  try clear p32
                  try clear q32
                  try clear hx32
                  try clear hcz30_0
                  try clear hcz30_1
                  try clear hcz30_2
                  try clear hcz30_3
                  try clear hcz30_4
                  try clear hcz33_0
                  try clear hcz33_1
                  try clear hcz33_2
                  try clear hcz33_3
                  try clear hcz33_4
                  try clear hfz30_0
                  try clear hfz30_1
                  try clear hfz30_2
                  try clear hfz30_3
                  try clear hfz30_4
                  try clear hfz33_0
                  try clear hfz33_1
                  try clear hfz33_2
                  try clear hfz33_3
                  try clear hfz33_4
                  try clear hx317_0
                  try clear hx321_0
                  try clear p2
                  try clear p317
                  try clear p321
                  try clear q317
                  try clear q321
                  obtain ⟨kq, x12_27, x329000_27, x329001_27, x329002_27, x329004_27, rfl, HA, HJ27, BK328, HB⟩ := hcut
                  cases kq with
                  | zero => exact absurd HA.out (by simp [flaillaw09_TagWritten.j2])
                  | succ kj27 =>
                    have H := HA.out
                    clear HA
                    simp only [flaillaw09_TagWritten.j2] at H
                    have HC34 := Aside0.mk H
                    clear H
                    go_upto_if 74 with (fail)
                    go_cut [12] (fun v12 wc => ∃ (kq : Nat) (x12_33 : ByteArray), v12 = .string x12_33 ∧ Aside0 (flaillaw09_TagWritten.j3 kq t316 x12_33 x329000_27 x329001_27 x329002_27 x329004_27 = some r) ∧ Aside0 (kq ≤ kj27) ∧ Aside0 (wc.heap[gb328]? = some (.cells #[.int .i64 x329000_27, .string x329001_27, .string x329002_27, (.slice none 0 0), .bool x329004_27] 39 (0, 0))) ∧ Aside0 (Below w.heap.size w wc))
                    case first =>
                      have H := HC34.out
                      clear HC34
                      by_cases c35 : a2 = true
                      · subst c35
                        have H1 : (if x12_27.size + 1 ≤ 9223372036854775807 then (flaillaw09_TagWritten.j3 kj27 t316 (x12_27 ++ (⟨#[47]⟩ : ByteArray)) x329000_27 x329001_27 x329002_27 x329004_27) else (none)) = some r := by rw [if_pos rfl] at H; exact H
                        clear H
                        have H := H1
                        clear H1
                        by_cases c36 : x12_27.size + 1 ≤ 9223372036854775807
                        · rw [if_pos c36] at H
                          have c36b0 := eq_true c36
                          have c36b1 : decide (x12_27.size + 1 ≤ 9223372036854775807) = true := decide_eq_true c36
                          try have c36b2 : (9223372036854775807 < x12_27.size + 1) = False := eq_false (Nat.not_lt.2 c36)
                          have H' := Aside0.mk H
                          clear H
                          go_wp2
                          go_meet
                          case rel => exact ⟨_, (x12_27 ++ (⟨#[47]⟩ : ByteArray)), (by first | rfl | (simp; done) | (simp [*]; done)), H', ⟨by have := HJ4.out; have := HK2.out; have := HJ27.out; first | omega | exact Nat.le_refl _⟩, ⟨by (with_reducible repeat (first | refine blk_drewN ?_ _ | refine blk_drew ?_ | refine blk_alloc ?_ _)); exact BK328.out⟩, ⟨by repeat (first | (with_reducible first | exact HB.out | apply below_alloc | apply pw_below_drewN | apply below_drew1 | refine below_set ?_ GE328.out) | exact HB.out)⟩⟩
                        · rw [if_neg c36] at H
                          exact absurd H (by simp)
                      · replace c35 := Bool.eq_false_iff.mpr c35
                        subst c35
                        have H1 : (flaillaw09_TagWritten.j3 kj27 t316 x12_27 x329000_27 x329001_27 x329002_27 x329004_27) = some r := by rw [if_neg (show ¬ (false = true) by decide)] at H; exact H
                        clear H
                        have H := H1
                        clear H1
                        have H' := Aside0.mk H
                        clear H
                        go_wp2
                        go_meet
                        case rel => exact ⟨_, (x12_27), (by first | rfl | (simp; done) | (simp [*]; done)), H', ⟨by have := HJ4.out; have := HK2.out; have := HJ27.out; first | omega | exact Nat.le_refl _⟩, ⟨by (with_reducible repeat (first | refine blk_drewN ?_ _ | refine blk_drew ?_ | refine blk_alloc ?_ _)); exact BK328.out⟩, ⟨by repeat (first | (with_reducible first | exact HB.out | apply below_alloc | apply pw_below_drewN | apply below_drew1 | refine below_set ?_ GE328.out) | exact HB.out)⟩⟩
                    case rest =>
                      clear HC34
                      try clear c1
                      try clear hcv1
                      try clear c2
                      try clear p2
                      try clear hcv2
                      try clear c3
                      try clear p3
                      try clear q3
                      try clear hx3
                      try clear p6
                      try clear c7
                      try clear c7b0
                      try clear c7b1
                      try clear c8
                      try clear c9
                      try clear c9b0
                      try clear c10
                      try clear c10b0
                      try clear c11
                      try clear c11b0
                      try clear c11b1
                      try clear c11b2
                      try clear c12
                      try clear c12b0
                      try clear c13
                      try clear c13b0
                      try clear c13b1
                      try clear c13b2
                      try clear hcv16
                      try clear c17
                      try clear hcv19
                      try clear c20
                      try clear c20b0
                      try clear c20b1
                      try clear c20b2
                      try clear hcv23
                      try clear hcv26
                      try clear c27
                      try clear c27b0
                      try clear c27b1
                      try clear c27b2
                      try clear c31
                      try clear p31
                      try clear q31
                      try clear hx31
                      try clear c32
                      try clear c32b0
                      try clear c32b1
                      try clear c32b2
                      try clear p32
                      try clear q32
                      try clear hx32
                      try clear c35
                      try clear c36
                      try clear c36b0
                      try clear c36b1
                      try clear c36b2
                      try clear hcz30_0
                      try clear hcz30_1
                      try clear hcz30_2
                      try clear hcz30_3
                      try clear hcz30_4
                      try clear hcz33_0
                      try clear hcz33_1
                      try clear hcz33_2
                      try clear hcz33_3
                      try clear hcz33_4
                      try clear hfz30_0
                      try clear hfz30_1
                      try clear hfz30_2
                      try clear hfz30_3
                      try clear hfz30_4
                      try clear hfz33_0
                      try clear hfz33_1
                      try clear hfz33_2
                      try clear hfz33_3
                      try clear hfz33_4
                      try clear hx317_0
                      try clear hx321_0
                      try clear p2
                      try clear p3
                      try clear p31
                      try clear p317
                      try clear p32
                      try clear p321
                      try clear p6
                      try clear q3
                      try clear q31
                      try clear q317
                      try clear q32
                      try clear q321
                      obtain ⟨kq, x12_33, rfl, HA, HJ33, BK328, HB⟩ := hcut
                      cases kq with
                      | zero => exact absurd HA.out (by simp [flaillaw09_TagWritten.j3])
                      | succ kj33 =>
                        have H := HA.out
                        clear HA
                        simp only [flaillaw09_TagWritten.j3] at H
                        by_cases c37 : x12_33.size + 2 ≤ 9223372036854775807
                        · rw [if_pos c37] at H
                          have c37b0 := eq_true c37
                          have c37b1 : decide (x12_33.size + 2 ≤ 9223372036854775807) = true := decide_eq_true c37
                          try have c37b2 : (9223372036854775807 < x12_33.size + 2) = False := eq_false (Nat.not_lt.2 c37)
                          replace H := Option.bind_eq_some_iff.mp H
                          obtain ⟨⟨t329, t330, t331, t332, t335, t336, t337⟩, A380, H⟩ := H
                          replace H : ((tag_Read.f x12_33 0).bind fun bt339 => (if t316 = true then (if t337 = true then ((flailref09_Same.f kj33 t329 t330 t331 t332 t335 x329000_27 x329001_27 x329002_27 ([] : List (S27)) x329004_27).bind fun t349 => (if t349 = true then (if t336 = (wrap64 ((x12_33.size : Int) + 1)) then (if bt339.2.2.2.2.2.2 = true then (some false) else (if bt339.2.2.2.2.2.1 = (x12_33.size : Int) then ((flailref09_Same.f kj33 bt339.1 bt339.2.1 bt339.2.2.1 bt339.2.2.2.1 bt339.2.2.2.2.1 0 (⟨#[]⟩ : ByteArray) (⟨#[]⟩ : ByteArray) ([] : List (S27)) false).bind fun t350 => (some t350)) else (some false))) else (some false)) else (some false))) else (some false)) else (some false))) = some r := H
                          have A38 := Aside0.mk A380
                          clear A380
                          replace H := Option.bind_eq_some_iff.mp H
                          obtain ⟨⟨t339, t340, t341, t342, t345, t346, t347⟩, A390, H⟩ := H
                          replace H : (if t316 = true then (if t337 = true then ((flailref09_Same.f kj33 t329 t330 t331 t332 t335 x329000_27 x329001_27 x329002_27 ([] : List (S27)) x329004_27).bind fun t349 => (if t349 = true then (if t336 = (wrap64 ((x12_33.size : Int) + 1)) then (if t347 = true then (some false) else (if t346 = (x12_33.size : Int) then ((flailref09_Same.f kj33 t339 t340 t341 t342 t345 0 (⟨#[]⟩ : ByteArray) (⟨#[]⟩ : ByteArray) ([] : List (S27)) false).bind fun t350 => (some t350)) else (some false))) else (some false)) else (some false))) else (some false)) else (some false)) = some r := H
                          have A39 := Aside0.mk A390
                          clear A390
                          by_cases c40 : t316 = true
                          · subst c40
                            have H1 : (if t337 = true then ((flailref09_Same.f kj33 t329 t330 t331 t332 t335 x329000_27 x329001_27 x329002_27 ([] : List (S27)) x329004_27).bind fun t349 => (if t349 = true then (if t336 = (wrap64 ((x12_33.size : Int) + 1)) then (if t347 = true then (some false) else (if t346 = (x12_33.size : Int) then ((flailref09_Same.f kj33 t339 t340 t341 t342 t345 0 (⟨#[]⟩ : ByteArray) (⟨#[]⟩ : ByteArray) ([] : List (S27)) false).bind fun t350 => (some t350)) else (some false))) else (some false)) else (some false))) else (some false)) = some r := by rw [if_pos rfl] at H; exact H
                            clear H
                            have H := H1
                            clear H1
                            by_cases c41 : t337 = true
                            · subst c41
                              have H1 : ((flailref09_Same.f kj33 t329 t330 t331 t332 t335 x329000_27 x329001_27 x329002_27 ([] : List (S27)) x329004_27).bind fun t349 => (if t349 = true then (if t336 = (wrap64 ((x12_33.size : Int) + 1)) then (if t347 = true then (some false) else (if t346 = (x12_33.size : Int) then ((flailref09_Same.f kj33 t339 t340 t341 t342 t345 0 (⟨#[]⟩ : ByteArray) (⟨#[]⟩ : ByteArray) ([] : List (S27)) false).bind fun t350 => (some t350)) else (some false))) else (some false)) else (some false))) = some r := by rw [if_pos rfl] at H; exact H
                              clear H
                              have H := H1
                              clear H1
                              replace H := Option.bind_eq_some_iff.mp H
                              obtain ⟨t349, A420, H⟩ := H
                              replace H : (if t349 = true then (if t336 = (wrap64 ((x12_33.size : Int) + 1)) then (if t347 = true then (some false) else (if t346 = (x12_33.size : Int) then ((flailref09_Same.f kj33 t339 t340 t341 t342 t345 0 (⟨#[]⟩ : ByteArray) (⟨#[]⟩ : ByteArray) ([] : List (S27)) false).bind fun t350 => (some t350)) else (some false))) else (some false)) else (some false)) = some r := H
                              have A42 := Aside0.mk A420
                              clear A420
                              by_cases c43 : t349 = true
                              · subst c43
                                have H1 : (if t336 = (wrap64 ((x12_33.size : Int) + 1)) then (if t347 = true then (some false) else (if t346 = (x12_33.size : Int) then ((flailref09_Same.f kj33 t339 t340 t341 t342 t345 0 (⟨#[]⟩ : ByteArray) (⟨#[]⟩ : ByteArray) ([] : List (S27)) false).bind fun t350 => (some t350)) else (some false))) else (some false)) = some r := by rw [if_pos rfl] at H; exact H
                                clear H
                                have H := H1
                                clear H1
                                by_cases c44 : t336 = (wrap64 ((x12_33.size : Int) + 1))
                                · rw [if_pos c44] at H
                                  have c44b0 : (t336 == (wrap64 ((x12_33.size : Int) + 1))) = true := beq_iff_eq.mpr c44
                                  have c44b1 : (t336 != (wrap64 ((x12_33.size : Int) + 1))) = false := bne_eq_false_iff_eq.mpr c44
                                  (try (have c44b2 : (t336 == (((x12_33.size : Int) + 1))) = true := by have h_ := c44; rw [IntWalk.wrap64_in ((x12_33.size : Int) + 1) ⟨by omega, by omega⟩] at h_; exact beq_iff_eq.mpr h_))
                                  (try (have c44b3 : (t336 != (((x12_33.size : Int) + 1))) = false := by have h_ := c44; rw [IntWalk.wrap64_in ((x12_33.size : Int) + 1) ⟨by omega, by omega⟩] at h_; exact bne_eq_false_iff_eq.mpr h_))
                                  clear c44
                                  by_cases c45 : t347 = true
                                  · subst c45
                                    have H1 : (some false) = some r := by rw [if_pos rfl] at H; exact H
                                    clear H
                                    have H := H1
                                    clear H1
                                    exact absurd ((Option.some.inj H).trans HT.out) (by decide)
                                  · replace c45 := Bool.eq_false_iff.mpr c45
                                    subst c45
                                    have H1 : (if t346 = (x12_33.size : Int) then ((flailref09_Same.f kj33 t339 t340 t341 t342 t345 0 (⟨#[]⟩ : ByteArray) (⟨#[]⟩ : ByteArray) ([] : List (S27)) false).bind fun t350 => (some t350)) else (some false)) = some r := by rw [if_neg (show ¬ (false = true) by decide)] at H; exact H
                                    clear H
                                    have H := H1
                                    clear H1
                                    by_cases c46 : t346 = (x12_33.size : Int)
                                    · rw [if_pos c46] at H
                                      have c46b0 : (t346 == (x12_33.size : Int)) = true := beq_iff_eq.mpr c46
                                      have c46b1 : (t346 != (x12_33.size : Int)) = false := bne_eq_false_iff_eq.mpr c46
                                      clear c46
                                      replace H := Option.bind_eq_some_iff.mp H
                                      obtain ⟨t350, A470, H⟩ := H
                                      replace H : (some t350) = some r := H
                                      have A47 := Aside0.mk A470
                                      clear A470
                                      obtain rfl := Option.some.inj H
                                      go_wp2_with (first | ((with_reducible refine gate_callee (f := 18) rfl ?_); refine goesL_ (some 80) rfl rfl Tryd.func18 (by kernel_rfl) rfl #[.string (x12_33 ++ (⟨#[62, 120]⟩ : ByteArray)), .int .i64 0] rfl (by (try simp only [List.map_toArray, List.map_cons, List.map_nil]); first | done | rfl | (simp only [List.length_drop, List.length_take]; rfl)) ?_; (with_reducible refine (tag_Read.calls (x12_33 ++ (⟨#[62, 120]⟩ : ByteArray)) 0 t329 t330 t331 t332 t335 t336 true _ ?side1 A38.out).mono ?_); (case side1 => first | (with_reducible exact HG.out) | exact Gl.below HG.out (by repeat (first | (with_reducible first | exact HB.out | apply below_alloc | apply pw_below_drewN | apply below_drew1 | refine below_set ?_ GE328.out) | exact HB.out)) | exact HG.out); rintro e w48 ⟨v333, rfl, ho0, hb⟩; refine ⟨_, rfl, ?_⟩; have n0_ := Aside0.mk (Kd.R_lower ho0 (below_size (by repeat (first | (with_reducible first | exact HB.out | apply below_alloc | apply pw_below_drewN | apply below_drew1 | refine below_set ?_ GE328.out) | exact HB.out)))); have n1_ := Aside0.mk (blk_below (g := gb328) (o := .cells #[.int .i64 x329000_27, .string x329001_27, .string x329002_27, .slice none 0 0, .bool x329004_27] 39 (0, 0)) (by (with_reducible repeat (first | refine blk_drewN ?_ _ | refine blk_drew ?_ | refine blk_alloc ?_ _)); exact BK328.out) hb); have n2_ := Aside0.mk (below_step (by repeat (first | (with_reducible first | exact HB.out | apply below_alloc | apply pw_below_drewN | apply below_drew1 | refine below_set ?_ GE328.out) | exact HB.out)) hb); clear BK328; clear HB; have HO334 := n0_; have BK328 := n1_; have HB := n2_; clear n0_ n1_ n2_; (try clear hb); (try clear hb2); (try clear hk); (try clear hi); (try clear ho0)) | ((with_reducible refine gate_dst (N := 14) rfl ?_); (try (refine gate_guard (by rfl) ?_; dsimp only)); refine box_event ?hg (N := 14) ?hd (cs := #[.int .i64 0, .string (⟨#[]⟩ : ByteArray), .string (⟨#[]⟩ : ByteArray), .slice none 0 0, .bool false]) (t := 39) ?hr ?_; (case hd => rfl); (case hg => rfl); (case hr => first | (go_simp; done) | (go_simp; rfl)); intro gb338 hg w49 hbox hb; have n0_ := Aside0.mk (Kd.R_below (by (with_reducible repeat (first | apply Kd.R_alloc | apply Kd.R_drewN | apply Kd.R_drew)); exact HO334.out) hb); have n1_ := Aside0.mk (blk_below (g := gb328) (o := .cells #[.int .i64 x329000_27, .string x329001_27, .string x329002_27, .slice none 0 0, .bool x329004_27] 39 (0, 0)) (by (with_reducible repeat (first | refine blk_drewN ?_ _ | refine blk_drew ?_ | refine blk_alloc ?_ _)); exact BK328.out) hb); have n2_ := Aside0.mk (below_step (by repeat (first | (with_reducible first | exact HB.out | apply below_alloc | apply pw_below_drewN | apply below_drew1 | refine below_set ?_ GE328.out) | exact HB.out)) hb); have n3_ := Aside0.mk (hbox); have n4_ := Aside0.mk ((by rw [hg]; exact (below_size (by repeat (first | (with_reducible first | exact HB.out | apply below_alloc | apply pw_below_drewN | apply below_drew1 | refine below_set ?_ GE328.out) | exact HB.out))) : w.heap.size ≤ gb338)); have n5_ := Aside0.mk ((by rw [hg]; exact (below_size (by repeat (first | (with_reducible first | exact HB.out | apply below_alloc | apply pw_below_drewN | apply below_drew1 | refine below_set ?_ GE328.out) | exact HB.out))) : w.heap.size ≤ gb338)); have n6_ := Aside0.mk ((by rw [hg]; exact Nat.ne_of_lt (blk_lt (g := gb328) (o := .cells #[.int .i64 x329000_27, .string x329001_27, .string x329002_27, .slice none 0 0, .bool x329004_27] 39 (0, 0)) (by (with_reducible repeat (first | refine blk_drewN ?_ _ | refine blk_drew ?_ | refine blk_alloc ?_ _)); exact BK328.out)) : gb328 ≠ gb338)); have n7_ := Aside0.mk ((by rw [hg]; exact Nat.ne_of_gt (blk_lt (g := gb328) (o := .cells #[.int .i64 x329000_27, .string x329001_27, .string x329002_27, .slice none 0 0, .bool x329004_27] 39 (0, 0)) (by (with_reducible repeat (first | refine blk_drewN ?_ _ | refine blk_drew ?_ | refine blk_alloc ?_ _)); exact BK328.out)) : gb338 ≠ gb328)); clear HO334; clear BK328; clear HB; have HO334 := n0_; have BK328 := n1_; have HB := n2_; have BK338 := n3_; have GW338 := n4_; have GE338 := n5_; have NB328_338 := n6_; have NB338_328 := n7_; clear n0_ n1_ n2_ n3_ n4_ n5_ n6_ n7_; clear hb hbox hg; have hnb50 := NB338_328.out; have hnc50 := NB328_338.out; have hcz51_0 : w49.cell? ⟨gb338, 0, none⟩ = some (.int .i64 0) := (blk_cell BK338.out 0).trans rfl; have hcz51_1 : w49.cell? ⟨gb338, 1, none⟩ = some (.string (⟨#[]⟩ : ByteArray)) := (blk_cell BK338.out 1).trans rfl; have hcz51_2 : w49.cell? ⟨gb338, 2, none⟩ = some (.string (⟨#[]⟩ : ByteArray)) := (blk_cell BK338.out 2).trans rfl; have hcz51_3 : w49.cell? ⟨gb338, 3, none⟩ = some (.slice none 0 0) := (blk_cell BK338.out 3).trans rfl; have hcz51_4 : w49.cell? ⟨gb338, 4, none⟩ = some (.bool false) := (blk_cell BK338.out 4).trans rfl; have hfz51_0 := blk_frozen BK338.out 0; have hfz51_1 := blk_frozen BK338.out 1; have hfz51_2 := blk_frozen BK338.out 2; have hfz51_3 := blk_frozen BK338.out 3; have hfz51_4 := blk_frozen BK338.out 4; obtain ⟨Ao52, co52, eo52⟩ := Kd.R_slice HO334.out; subst eo52) | ((with_reducible refine gate_callee (f := 18) rfl ?_); refine goesL_ (some 86) rfl rfl Tryd.func18 (by kernel_rfl) rfl #[.string x12_33, .int .i64 0] rfl (by (try simp only [List.map_toArray, List.map_cons, List.map_nil]); first | done | rfl | (simp only [List.length_drop, List.length_take]; rfl)) ?_; (with_reducible refine (tag_Read.calls x12_33 0 t339 t340 t341 t342 t345 t346 false _ ?side1 A39.out).mono ?_); (case side1 => first | (with_reducible exact HG.out) | exact Gl.below HG.out (by repeat (first | (with_reducible first | exact HB.out | apply below_alloc | apply pw_below_drewN | apply below_drew1 | refine below_set ?_ GE328.out | refine below_set ?_ GE338.out) | exact HB.out)) | exact HG.out); rintro e w53 ⟨v343, rfl, ho0, hb⟩; refine ⟨_, rfl, ?_⟩; have n0_ := Aside0.mk (Kd.R_elder' (by (with_reducible repeat (first | apply Kd.R_alloc | apply Kd.R_drewN | apply Kd.R_drew)); exact (Kd.R_mono (Kd.R_far (p := ⟨gb338, 4, none⟩) (Kd.R_far (p := ⟨gb338, 3, none⟩) (Kd.R_far (p := ⟨gb338, 2, none⟩) (Kd.R_far (p := ⟨gb338, 1, none⟩) (Kd.R_far (p := ⟨gb338, 0, none⟩) (Kd.R_types HO334.out BK338.out (by decide)) (fun _ hk => hk.2) (.int .i64 t329)) (fun _ hk => hk.2) (.string t330)) (fun _ hk => hk.2) (.string t331)) (fun _ hk => hk.2) (.slice Ao52 t332.length co52)) (fun _ hk => hk.2) (.bool t335)) (fun _ h_ => h_.1))) (Kd.R_base ho0) hb); have n1_ := Aside0.mk (Kd.R_lower (Kd.R_new' ho0 (Kd.R_lt (by (with_reducible repeat (first | apply Kd.R_alloc | apply Kd.R_drewN | apply Kd.R_drew)); exact (Kd.R_mono (Kd.R_far (p := ⟨gb338, 4, none⟩) (Kd.R_far (p := ⟨gb338, 3, none⟩) (Kd.R_far (p := ⟨gb338, 2, none⟩) (Kd.R_far (p := ⟨gb338, 1, none⟩) (Kd.R_far (p := ⟨gb338, 0, none⟩) (Kd.R_types HO334.out BK338.out (by decide)) (fun _ hk => hk.2) (.int .i64 t329)) (fun _ hk => hk.2) (.string t330)) (fun _ hk => hk.2) (.string t331)) (fun _ hk => hk.2) (.slice Ao52 t332.length co52)) (fun _ hk => hk.2) (.bool t335)) (fun _ h_ => h_.1))))) (below_size (by repeat (first | (with_reducible first | exact HB.out | apply below_alloc | apply pw_below_drewN | apply below_drew1 | refine below_set ?_ GE328.out | refine below_set ?_ GE338.out) | exact HB.out)))); have n2_ := Aside0.mk (blk_below (g := gb328) (o := .cells #[.int .i64 x329000_27, .string x329001_27, .string x329002_27, .slice none 0 0, .bool x329004_27] 39 (0, 0)) (by (with_reducible repeat (first | refine blk_drewN ?_ _ | refine blk_drew ?_ | refine blk_alloc ?_ _)); refine blk_far ?_ NB328_338.out _; (with_reducible repeat (first | refine blk_drewN ?_ _ | refine blk_drew ?_ | refine blk_alloc ?_ _)); refine blk_far ?_ NB328_338.out _; (with_reducible repeat (first | refine blk_drewN ?_ _ | refine blk_drew ?_ | refine blk_alloc ?_ _)); refine blk_far ?_ NB328_338.out _; (with_reducible repeat (first | refine blk_drewN ?_ _ | refine blk_drew ?_ | refine blk_alloc ?_ _)); refine blk_far ?_ NB328_338.out _; (with_reducible repeat (first | refine blk_drewN ?_ _ | refine blk_drew ?_ | refine blk_alloc ?_ _)); refine blk_far ?_ NB328_338.out _; (with_reducible repeat (first | refine blk_drewN ?_ _ | refine blk_drew ?_ | refine blk_alloc ?_ _)); exact BK328.out) hb); have n3_ := Aside0.mk (blk_below (g := gb338) (o := .cells #[.int .i64 t329, .string t330, .string t331, .slice Ao52 t332.length co52, .bool t335] 39 (0, 0)) (by (with_reducible repeat (first | refine blk_drewN ?_ _ | refine blk_drew ?_ | refine blk_alloc ?_ _)); refine blk_put (cs := #[.int .i64 t329, .string t330, .string t331, .slice Ao52 t332.length co52, .bool false]) ?_ 4 _ rfl; (with_reducible repeat (first | refine blk_drewN ?_ _ | refine blk_drew ?_ | refine blk_alloc ?_ _)); refine blk_put (cs := #[.int .i64 t329, .string t330, .string t331, .slice none 0 0, .bool false]) ?_ 3 _ rfl; (with_reducible repeat (first | refine blk_drewN ?_ _ | refine blk_drew ?_ | refine blk_alloc ?_ _)); refine blk_put (cs := #[.int .i64 t329, .string t330, .string (⟨#[]⟩ : ByteArray), .slice none 0 0, .bool false]) ?_ 2 _ rfl; (with_reducible repeat (first | refine blk_drewN ?_ _ | refine blk_drew ?_ | refine blk_alloc ?_ _)); refine blk_put (cs := #[.int .i64 t329, .string (⟨#[]⟩ : ByteArray), .string (⟨#[]⟩ : ByteArray), .slice none 0 0, .bool false]) ?_ 1 _ rfl; (with_reducible repeat (first | refine blk_drewN ?_ _ | refine blk_drew ?_ | refine blk_alloc ?_ _)); refine blk_put (cs := #[.int .i64 0, .string (⟨#[]⟩ : ByteArray), .string (⟨#[]⟩ : ByteArray), .slice none 0 0, .bool false]) ?_ 0 _ rfl; (with_reducible repeat (first | refine blk_drewN ?_ _ | refine blk_drew ?_ | refine blk_alloc ?_ _)); exact BK338.out) hb); have n4_ := Aside0.mk (below_step (by repeat (first | (with_reducible first | exact HB.out | apply below_alloc | apply pw_below_drewN | apply below_drew1 | refine below_set ?_ GE328.out | refine below_set ?_ GE338.out) | exact HB.out)) hb); clear HO334; clear BK328; clear BK338; clear HB; have HO334 := n0_; have HO344 := n1_; have BK328 := n2_; have BK338 := n3_; have HB := n4_; clear n0_ n1_ n2_ n3_ n4_; (try clear hb); (try clear hb2); (try clear hk); (try clear hi); (try clear ho0)) | ((with_reducible refine gate_dst (N := 17) rfl ?_); (try (refine gate_guard (by rfl) ?_; dsimp only)); refine box_event ?hg (N := 17) ?hd (cs := #[.int .i64 0, .string (⟨#[]⟩ : ByteArray), .string (⟨#[]⟩ : ByteArray), .slice none 0 0, .bool false]) (t := 39) ?hr ?_; (case hd => rfl); (case hg => rfl); (case hr => first | (go_simp; done) | (go_simp; rfl)); intro gb348 hg w54 hbox hb; have n0_ := Aside0.mk (Kd.R_below (by (with_reducible repeat (first | apply Kd.R_alloc | apply Kd.R_drewN | apply Kd.R_drew)); exact HO334.out) hb); have n1_ := Aside0.mk (Kd.R_below (by (with_reducible repeat (first | apply Kd.R_alloc | apply Kd.R_drewN | apply Kd.R_drew)); exact HO344.out) hb); have n2_ := Aside0.mk (blk_below (g := gb328) (o := .cells #[.int .i64 x329000_27, .string x329001_27, .string x329002_27, .slice none 0 0, .bool x329004_27] 39 (0, 0)) (by (with_reducible repeat (first | refine blk_drewN ?_ _ | refine blk_drew ?_ | refine blk_alloc ?_ _)); exact BK328.out) hb); have n3_ := Aside0.mk (blk_below (g := gb338) (o := .cells #[.int .i64 t329, .string t330, .string t331, .slice Ao52 t332.length co52, .bool t335] 39 (0, 0)) (by (with_reducible repeat (first | refine blk_drewN ?_ _ | refine blk_drew ?_ | refine blk_alloc ?_ _)); exact BK338.out) hb); have n4_ := Aside0.mk (below_step (by repeat (first | (with_reducible first | exact HB.out | apply below_alloc | apply pw_below_drewN | apply below_drew1 | refine below_set ?_ GE328.out | refine below_set ?_ GE338.out) | exact HB.out)) hb); have n5_ := Aside0.mk (hbox); have n6_ := Aside0.mk ((by rw [hg]; exact (below_size (by repeat (first | (with_reducible first | exact HB.out | apply below_alloc | apply pw_below_drewN | apply below_drew1 | refine below_set ?_ GE328.out | refine below_set ?_ GE338.out) | exact HB.out))) : w.heap.size ≤ gb348)); have n7_ := Aside0.mk ((by rw [hg]; exact (below_size (by repeat (first | (with_reducible first | exact HB.out | apply below_alloc | apply pw_below_drewN | apply below_drew1 | refine below_set ?_ GE328.out | refine below_set ?_ GE338.out) | exact HB.out))) : w.heap.size ≤ gb348)); have n8_ := Aside0.mk ((by rw [hg]; exact Nat.ne_of_lt (blk_lt (g := gb328) (o := .cells #[.int .i64 x329000_27, .string x329001_27, .string x329002_27, .slice none 0 0, .bool x329004_27] 39 (0, 0)) (by (with_reducible repeat (first | refine blk_drewN ?_ _ | refine blk_drew ?_ | refine blk_alloc ?_ _)); exact BK328.out)) : gb328 ≠ gb348)); have n9_ := Aside0.mk ((by rw [hg]; exact Nat.ne_of_gt (blk_lt (g := gb328) (o := .cells #[.int .i64 x329000_27, .string x329001_27, .string x329002_27, .slice none 0 0, .bool x329004_27] 39 (0, 0)) (by (with_reducible repeat (first | refine blk_drewN ?_ _ | refine blk_drew ?_ | refine blk_alloc ?_ _)); exact BK328.out)) : gb348 ≠ gb328)); have n10_ := Aside0.mk ((by rw [hg]; exact Nat.ne_of_lt (blk_lt (g := gb338) (o := .cells #[.int .i64 t329, .string t330, .string t331, .slice Ao52 t332.length co52, .bool t335] 39 (0, 0)) (by (with_reducible repeat (first | refine blk_drewN ?_ _ | refine blk_drew ?_ | refine blk_alloc ?_ _)); exact BK338.out)) : gb338 ≠ gb348)); have n11_ := Aside0.mk ((by rw [hg]; exact Nat.ne_of_gt (blk_lt (g := gb338) (o := .cells #[.int .i64 t329, .string t330, .string t331, .slice Ao52 t332.length co52, .bool t335] 39 (0, 0)) (by (with_reducible repeat (first | refine blk_drewN ?_ _ | refine blk_drew ?_ | refine blk_alloc ?_ _)); exact BK338.out)) : gb348 ≠ gb338)); clear HO334; clear HO344; clear BK328; clear BK338; clear HB; have HO334 := n0_; have HO344 := n1_; have BK328 := n2_; have BK338 := n3_; have HB := n4_; have BK348 := n5_; have GW348 := n6_; have GE348 := n7_; have NB328_348 := n8_; have NB348_328 := n9_; have NB338_348 := n10_; have NB348_338 := n11_; clear n0_ n1_ n2_ n3_ n4_ n5_ n6_ n7_ n8_ n9_ n10_ n11_; clear hb hbox hg; have hnb55 := NB348_328.out; have hnc55 := NB328_348.out; have hnb56 := NB348_338.out; have hnc56 := NB338_348.out; have hcz57_0 : w54.cell? ⟨gb348, 0, none⟩ = some (.int .i64 0) := (blk_cell BK348.out 0).trans rfl; have hcz57_1 : w54.cell? ⟨gb348, 1, none⟩ = some (.string (⟨#[]⟩ : ByteArray)) := (blk_cell BK348.out 1).trans rfl; have hcz57_2 : w54.cell? ⟨gb348, 2, none⟩ = some (.string (⟨#[]⟩ : ByteArray)) := (blk_cell BK348.out 2).trans rfl; have hcz57_3 : w54.cell? ⟨gb348, 3, none⟩ = some (.slice none 0 0) := (blk_cell BK348.out 3).trans rfl; have hcz57_4 : w54.cell? ⟨gb348, 4, none⟩ = some (.bool false) := (blk_cell BK348.out 4).trans rfl; have hfz57_0 := blk_frozen BK348.out 0; have hfz57_1 := blk_frozen BK348.out 1; have hfz57_2 := blk_frozen BK348.out 2; have hfz57_3 := blk_frozen BK348.out 3; have hfz57_4 := blk_frozen BK348.out 4; obtain ⟨Ao58, co58, eo58⟩ := Kd.R_slice HO344.out; subst eo58; have hcz59_0 : w54.cell? ⟨gb338, 0, none⟩ = some (.int .i64 t329) := (blk_cell BK338.out 0).trans rfl; have hcz59_1 : w54.cell? ⟨gb338, 1, none⟩ = some (.string t330) := (blk_cell BK338.out 1).trans rfl; have hcz59_2 : w54.cell? ⟨gb338, 2, none⟩ = some (.string t331) := (blk_cell BK338.out 2).trans rfl; have hcz59_3 : w54.cell? ⟨gb338, 3, none⟩ = some (.slice Ao52 t332.length co52) := (blk_cell BK338.out 3).trans rfl; have hcz59_4 : w54.cell? ⟨gb338, 4, none⟩ = some (.bool t335) := (blk_cell BK338.out 4).trans rfl; have hfz59_0 := blk_frozen BK338.out 0; have hfz59_1 := blk_frozen BK338.out 1; have hfz59_2 := blk_frozen BK338.out 2; have hfz59_3 := blk_frozen BK338.out 3; have hfz59_4 := blk_frozen BK338.out 4; have hcz60_0 : w54.cell? ⟨gb328, 0, none⟩ = some (.int .i64 x329000_27) := (blk_cell BK328.out 0).trans rfl; have hcz60_1 : w54.cell? ⟨gb328, 1, none⟩ = some (.string x329001_27) := (blk_cell BK328.out 1).trans rfl; have hcz60_2 : w54.cell? ⟨gb328, 2, none⟩ = some (.string x329002_27) := (blk_cell BK328.out 2).trans rfl; have hcz60_3 : w54.cell? ⟨gb328, 3, none⟩ = some (.slice none 0 0) := (blk_cell BK328.out 3).trans rfl; have hcz60_4 : w54.cell? ⟨gb328, 4, none⟩ = some (.bool x329004_27) := (blk_cell BK328.out 4).trans rfl; have hfz60_0 := blk_frozen BK328.out 0; have hfz60_1 := blk_frozen BK328.out 1; have hfz60_2 := blk_frozen BK328.out 2; have hfz60_3 := blk_frozen BK328.out 3; have hfz60_4 := blk_frozen BK328.out 4) | (go_at_call 19; (refine (flailref09_Same.calls kj33 t329 t330 t331 _ _ t332 t335 x329000_27 x329001_27 x329002_27 _ _ ([] : List (S27)) x329004_27 true _ ?side1 ?side2 ?side3 ?side4 A42.out).mono ?_); (case side1 => refine (Kd.R_reads' (e := 27) (base := w.heap.size) (ok := fun k_ => (True ∧ some k_ ≠ (.slice Ao58 t342.length co58 : Value).ownBlock)) (n := t332.length) (c := co52) ?_).2.2; exact (by (with_reducible repeat (first | apply Kd.R_alloc | apply Kd.R_drewN | apply Kd.R_drew)); exact (Kd.R_mono (Kd.R_far (p := ⟨gb348, 4, none⟩) (Kd.R_far (p := ⟨gb348, 3, none⟩) (Kd.R_far (p := ⟨gb348, 2, none⟩) (Kd.R_far (p := ⟨gb348, 1, none⟩) (Kd.R_far (p := ⟨gb348, 0, none⟩) (Kd.R_types HO334.out BK348.out (by decide)) (fun _ hk => hk.2) (.int .i64 t339)) (fun _ hk => hk.2) (.string t340)) (fun _ hk => hk.2) (.string t341)) (fun _ hk => hk.2) (.slice Ao58 t342.length co58)) (fun _ hk => hk.2) (.bool t345)) (fun _ h_ => h_.1)))); (case side2 => exact (Kd.R_reads' HO334.out).2.1); (case side3 => exact Kd.C_nil _ _); (case side4 => exact Nat.le_refl _); rintro e w61 ⟨rfl, hb⟩; have n0_ := Aside0.mk (Kd.R_below (by (with_reducible repeat (first | apply Kd.R_alloc | apply Kd.R_drewN | apply Kd.R_drew)); exact (Kd.R_mono (Kd.R_far (p := ⟨gb348, 4, none⟩) (Kd.R_far (p := ⟨gb348, 3, none⟩) (Kd.R_far (p := ⟨gb348, 2, none⟩) (Kd.R_far (p := ⟨gb348, 1, none⟩) (Kd.R_far (p := ⟨gb348, 0, none⟩) (Kd.R_types HO334.out BK348.out (by decide)) (fun _ hk => hk.2) (.int .i64 t339)) (fun _ hk => hk.2) (.string t340)) (fun _ hk => hk.2) (.string t341)) (fun _ hk => hk.2) (.slice Ao58 t342.length co58)) (fun _ hk => hk.2) (.bool t345)) (fun _ h_ => h_.1))) hb); have n1_ := Aside0.mk (Kd.R_below (by (with_reducible repeat (first | apply Kd.R_alloc | apply Kd.R_drewN | apply Kd.R_drew)); exact (Kd.R_mono (Kd.R_far (p := ⟨gb348, 4, none⟩) (Kd.R_far (p := ⟨gb348, 3, none⟩) (Kd.R_far (p := ⟨gb348, 2, none⟩) (Kd.R_far (p := ⟨gb348, 1, none⟩) (Kd.R_far (p := ⟨gb348, 0, none⟩) (Kd.R_types HO344.out BK348.out (by decide)) (fun _ hk => hk.2) (.int .i64 t339)) (fun _ hk => hk.2) (.string t340)) (fun _ hk => hk.2) (.string t341)) (fun _ hk => hk.2) (.slice Ao58 t342.length co58)) (fun _ hk => hk.2) (.bool t345)) (fun _ h_ => h_.1))) hb); have n2_ := Aside0.mk (blk_below (g := gb328) (o := .cells #[.int .i64 x329000_27, .string x329001_27, .string x329002_27, .slice none 0 0, .bool x329004_27] 39 (0, 0)) (by (with_reducible repeat (first | refine blk_drewN ?_ _ | refine blk_drew ?_ | refine blk_alloc ?_ _)); refine blk_far ?_ NB328_348.out _; (with_reducible repeat (first | refine blk_drewN ?_ _ | refine blk_drew ?_ | refine blk_alloc ?_ _)); refine blk_far ?_ NB328_348.out _; (with_reducible repeat (first | refine blk_drewN ?_ _ | refine blk_drew ?_ | refine blk_alloc ?_ _)); refine blk_far ?_ NB328_348.out _; (with_reducible repeat (first | refine blk_drewN ?_ _ | refine blk_drew ?_ | refine blk_alloc ?_ _)); refine blk_far ?_ NB328_348.out _; (with_reducible repeat (first | refine blk_drewN ?_ _ | refine blk_drew ?_ | refine blk_alloc ?_ _)); refine blk_far ?_ NB328_348.out _; (with_reducible repeat (first | refine blk_drewN ?_ _ | refine blk_drew ?_ | refine blk_alloc ?_ _)); exact BK328.out) hb); have n3_ := Aside0.mk (blk_below (g := gb338) (o := .cells #[.int .i64 t329, .string t330, .string t331, .slice Ao52 t332.length co52, .bool t335] 39 (0, 0)) (by (with_reducible repeat (first | refine blk_drewN ?_ _ | refine blk_drew ?_ | refine blk_alloc ?_ _)); refine blk_far ?_ NB338_348.out _; (with_reducible repeat (first | refine blk_drewN ?_ _ | refine blk_drew ?_ | refine blk_alloc ?_ _)); refine blk_far ?_ NB338_348.out _; (with_reducible repeat (first | refine blk_drewN ?_ _ | refine blk_drew ?_ | refine blk_alloc ?_ _)); refine blk_far ?_ NB338_348.out _; (with_reducible repeat (first | refine blk_drewN ?_ _ | refine blk_drew ?_ | refine blk_alloc ?_ _)); refine blk_far ?_ NB338_348.out _; (with_reducible repeat (first | refine blk_drewN ?_ _ | refine blk_drew ?_ | refine blk_alloc ?_ _)); refine blk_far ?_ NB338_348.out _; (with_reducible repeat (first | refine blk_drewN ?_ _ | refine blk_drew ?_ | refine blk_alloc ?_ _)); exact BK338.out) hb); have n4_ := Aside0.mk (blk_below (g := gb348) (o := .cells #[.int .i64 t339, .string t340, .string t341, .slice Ao58 t342.length co58, .bool t345] 39 (0, 0)) (by (with_reducible repeat (first | refine blk_drewN ?_ _ | refine blk_drew ?_ | refine blk_alloc ?_ _)); refine blk_put (cs := #[.int .i64 t339, .string t340, .string t341, .slice Ao58 t342.length co58, .bool false]) ?_ 4 _ rfl; (with_reducible repeat (first | refine blk_drewN ?_ _ | refine blk_drew ?_ | refine blk_alloc ?_ _)); refine blk_put (cs := #[.int .i64 t339, .string t340, .string t341, .slice none 0 0, .bool false]) ?_ 3 _ rfl; (with_reducible repeat (first | refine blk_drewN ?_ _ | refine blk_drew ?_ | refine blk_alloc ?_ _)); refine blk_put (cs := #[.int .i64 t339, .string t340, .string (⟨#[]⟩ : ByteArray), .slice none 0 0, .bool false]) ?_ 2 _ rfl; (with_reducible repeat (first | refine blk_drewN ?_ _ | refine blk_drew ?_ | refine blk_alloc ?_ _)); refine blk_put (cs := #[.int .i64 t339, .string (⟨#[]⟩ : ByteArray), .string (⟨#[]⟩ : ByteArray), .slice none 0 0, .bool false]) ?_ 1 _ rfl; (with_reducible repeat (first | refine blk_drewN ?_ _ | refine blk_drew ?_ | refine blk_alloc ?_ _)); refine blk_put (cs := #[.int .i64 0, .string (⟨#[]⟩ : ByteArray), .string (⟨#[]⟩ : ByteArray), .slice none 0 0, .bool false]) ?_ 0 _ rfl; (with_reducible repeat (first | refine blk_drewN ?_ _ | refine blk_drew ?_ | refine blk_alloc ?_ _)); exact BK348.out) hb); have n5_ := Aside0.mk (below_step (by repeat (first | (with_reducible first | exact HB.out | apply below_alloc | apply pw_below_drewN | apply below_drew1 | refine below_set ?_ GE328.out | refine below_set ?_ GE338.out | refine below_set ?_ GE348.out) | exact HB.out)) hb); clear HO334; clear HO344; clear BK328; clear BK338; clear BK348; clear HB; have HO334 := n0_; have HO344 := n1_; have BK328 := n2_; have BK338 := n3_; have BK348 := n4_; have HB := n5_; clear n0_ n1_ n2_ n3_ n4_ n5_; (try clear hb); (try clear hb2); (try clear hk); (try clear hi); have hcz62_0 : w61.cell? ⟨gb348, 0, none⟩ = some (.int .i64 t339) := (blk_cell BK348.out 0).trans rfl; have hcz62_1 : w61.cell? ⟨gb348, 1, none⟩ = some (.string t340) := (blk_cell BK348.out 1).trans rfl; have hcz62_2 : w61.cell? ⟨gb348, 2, none⟩ = some (.string t341) := (blk_cell BK348.out 2).trans rfl; have hcz62_3 : w61.cell? ⟨gb348, 3, none⟩ = some (.slice Ao58 t342.length co58) := (blk_cell BK348.out 3).trans rfl; have hcz62_4 : w61.cell? ⟨gb348, 4, none⟩ = some (.bool t345) := (blk_cell BK348.out 4).trans rfl; have hfz62_0 := blk_frozen BK348.out 0; have hfz62_1 := blk_frozen BK348.out 1; have hfz62_2 := blk_frozen BK348.out 2; have hfz62_3 := blk_frozen BK348.out 3; have hfz62_4 := blk_frozen BK348.out 4; clear A42) | (go_at_call 19; (refine (flailref09_Same.calls kj33 t339 t340 t341 _ _ t342 t345 0 (⟨#[]⟩ : ByteArray) (⟨#[]⟩ : ByteArray) _ _ ([] : List (S27)) false t350 _ ?side1 ?side2 ?side3 ?side4 A47.out).mono ?_); (case side1 => repeat (first | exact (Kd.R_reads' HO344.out).2.2 | (with_reducible refine Kd.C_alloc ?_ _) | (with_reducible refine Kd.C_drewN ?_ _) | (with_reducible refine Kd.C_drew ?_))); (case side2 => exact (Kd.R_reads' HO344.out).2.1); (case side3 => exact Kd.C_nil _ _); (case side4 => exact Nat.le_refl _); rintro e w63 ⟨rfl, hb⟩; have n0_ := Aside0.mk (Kd.R_below (by (with_reducible repeat (first | apply Kd.R_alloc | apply Kd.R_drewN | apply Kd.R_drew)); exact HO334.out) hb); have n1_ := Aside0.mk (Kd.R_below (by (with_reducible repeat (first | apply Kd.R_alloc | apply Kd.R_drewN | apply Kd.R_drew)); exact HO344.out) hb); have n2_ := Aside0.mk (blk_below (g := gb328) (o := .cells #[.int .i64 x329000_27, .string x329001_27, .string x329002_27, .slice none 0 0, .bool x329004_27] 39 (0, 0)) (by (with_reducible repeat (first | refine blk_drewN ?_ _ | refine blk_drew ?_ | refine blk_alloc ?_ _)); exact BK328.out) hb); have n3_ := Aside0.mk (blk_below (g := gb338) (o := .cells #[.int .i64 t329, .string t330, .string t331, .slice Ao52 t332.length co52, .bool t335] 39 (0, 0)) (by (with_reducible repeat (first | refine blk_drewN ?_ _ | refine blk_drew ?_ | refine blk_alloc ?_ _)); exact BK338.out) hb); have n4_ := Aside0.mk (blk_below (g := gb348) (o := .cells #[.int .i64 t339, .string t340, .string t341, .slice Ao58 t342.length co58, .bool t345] 39 (0, 0)) (by (with_reducible repeat (first | refine blk_drewN ?_ _ | refine blk_drew ?_ | refine blk_alloc ?_ _)); exact BK348.out) hb); have n5_ := Aside0.mk (below_step (by repeat (first | (with_reducible first | exact HB.out | apply below_alloc | apply pw_below_drewN | apply below_drew1 | refine below_set ?_ GE328.out | refine below_set ?_ GE338.out | refine below_set ?_ GE348.out) | exact HB.out)) hb); clear HO334; clear HO344; clear BK328; clear BK338; clear BK348; clear HB; have HO334 := n0_; have HO344 := n1_; have BK328 := n2_; have BK338 := n3_; have BK348 := n4_; have HB := n5_; clear n0_ n1_ n2_ n3_ n4_ n5_; (try clear hb); (try clear hb2); (try clear hk); (try clear hi); clear A47))
                                      go_ret
                                      exact ⟨by first | rfl | (simp [errW_none, errW_some] <;> rfl) | (simp [*, errW_none, errW_some] <;> rfl), by repeat (first | (with_reducible first | exact HB.out | apply below_alloc | apply pw_below_drewN | apply below_drew1 | refine below_set ?_ GE328.out | refine below_set ?_ GE338.out | refine below_set ?_ GE348.out) | exact HB.out)⟩
                                    · rw [if_neg c46] at H
                                      have c46b0 : (t346 == (x12_33.size : Int)) = false := beq_eq_false_iff_ne.mpr c46
                                      have c46b1 : (t346 != (x12_33.size : Int)) = true := bne_iff_ne.mpr c46
                                      exact absurd ((Option.some.inj H).trans HT.out) (by decide)
                                · rw [if_neg c44] at H
                                  have c44b0 : (t336 == (wrap64 ((x12_33.size : Int) + 1))) = false := beq_eq_false_iff_ne.mpr c44
                                  have c44b1 : (t336 != (wrap64 ((x12_33.size : Int) + 1))) = true := bne_iff_ne.mpr c44
                                  (try (have c44b2 : (t336 == (((x12_33.size : Int) + 1))) = false := by have h_ := c44; rw [IntWalk.wrap64_in ((x12_33.size : Int) + 1) ⟨by omega, by omega⟩] at h_; exact beq_eq_false_iff_ne.mpr h_))
                                  (try (have c44b3 : (t336 != (((x12_33.size : Int) + 1))) = true := by have h_ := c44; rw [IntWalk.wrap64_in ((x12_33.size : Int) + 1) ⟨by omega, by omega⟩] at h_; exact bne_iff_ne.mpr h_))
                                  exact absurd ((Option.some.inj H).trans HT.out) (by decide)
                              · replace c43 := Bool.eq_false_iff.mpr c43
                                subst c43
                                have H1 : (some false) = some r := by rw [if_neg (show ¬ (false = true) by decide)] at H; exact H
                                clear H
                                have H := H1
                                clear H1
                                exact absurd ((Option.some.inj H).trans HT.out) (by decide)
                            · replace c41 := Bool.eq_false_iff.mpr c41
                              subst c41
                              have H1 : (some false) = some r := by rw [if_neg (show ¬ (false = true) by decide)] at H; exact H
                              clear H
                              have H := H1
                              clear H1
                              exact absurd ((Option.some.inj H).trans HT.out) (by decide)
                          · replace c40 := Bool.eq_false_iff.mpr c40
                            subst c40
                            have H1 : (some false) = some r := by rw [if_neg (show ¬ (false = true) by decide)] at H; exact H
                            clear H
                            have H := H1
                            clear H1
                            exact absurd ((Option.some.inj H).trans HT.out) (by decide)
                        · rw [if_neg c37] at H
                          exact absurd H (by simp)
              · rw [if_neg c27] at H
                exact absurd H (by simp)

/-- THE ONE PURE STATEMENT of flaillaw09_TagWritten: yours. -/
def flaillaw09_TagWritten.Pure : Prop := ∀ (l0 : List Int) (a1 : Bool) (a2 : Bool), l0.length ≤ maxLen → l0.length * 1 ≤ 140737488351232 → (∀ x ∈ l0, (Lit.int .u8 x).wf = true) → ∃ k, flaillaw09_TagWritten.f k l0 a1 a2 = some true
theorem flaillaw09_TagWritten.walk (P : flaillaw09_TagWritten.Pure) (a0 : Option Addr) (len0 cap0 : Nat) (z0 : List Int) (a1 : Bool) (a2 : Bool) (w : World) (hG : Gl w) (w0 : (a0 = none ∧ len0 = 0 ∧ cap0 = 0 ∧ z0 = []) ∨ ∃ x, a0 = some x ∧ len0 ≤ cap0 ∧ cap0 ≤ maxLen ∧ z0.length = cap0 ∧ (∀ i, i < z0.length → w.cell? (x.add i) = some (.int .u8 (z0.getD i 0))) ∧ ∀ n ∈ z0, (Lit.int .u8 n).wf = true) (y0 : len0 * 1 ≤ 140737488351232) :
    Calls Tryd.prog 9 #[.slice a0 len0 cap0, .bool a1, .bool a2] w fun e w' => e = .returned (.bool true) ∧ Below w.heap.size w w' := by
  obtain ⟨l0, rfl, hr0, hm0, hw0, hc0⟩ := ReadsInt.ofRowC w0
  obtain ⟨k, h⟩ := P l0 a1 a2 hm0 y0 hw0
  refine (flaillaw09_TagWritten.calls k _ _ l0 a1 a2 true w hG (Kd.C_of_reads (d := (0 : Int)) (h1 := fun _ => rfl) hr0) hc0 h rfl).mono ?_
  rintro e w' ⟨rfl, hd⟩
  exact ⟨rfl, hd⟩

end Go.Proofs.YtfhjfidkcdcjnaaDoor.Q

/- TagWritten: the pure statement. -/
namespace Go.Proofs.YtfhjfidkcdcjnaaDoor.Fl
open Go
set_option linter.unusedVariables false
/-- The letter that a number tells, as it is written, and small. -/
def sC (x : Nat) : UInt8 := UInt8.ofNat (if 128 ≤ x then 65 + x % 26 else 97 + x % 26)
def lC (x : Nat) : UInt8 := UInt8.ofNat (97 + x % 26)
theorem sC_facts (x : Nat) (h : x < 256) : letter (sC x) = true ∧ lw (sC x) = lC x ∧ lC x ≠ 0 := by
  have := List.all_eq_true.1 (show ((List.range 256).all fun x => letter (sC x) && (lw (sC x) == lC x) && (lC x != 0)) = true by decide +kernel) x (List.mem_range.2 h)
  simpa [and_assoc] using this
theorem letters (zs : List Nat) (h : ∀ x ∈ zs, x < 256) : (∀ c ∈ zs.map sC, nm c = true) ∧ clean (lower (zs.map sC)) = zs.map lC := by
  refine ⟨fun c hc => ?_, ?_⟩
  · obtain ⟨x, hx, rfl⟩ := List.mem_map.1 hc
    exact letter_nm _ (sC_facts x (h x hx)).1
  · have e : lower (zs.map sC) = zs.map lC := by
      unfold lower
      rw [List.map_map]
      exact List.map_congr_left fun x hx => (sC_facts x (h x hx)).2.1
    rw [e]
    refine clean_same (List.count_eq_zero.2 fun hm => ?_)
    obtain ⟨x, hx, e0⟩ := List.mem_map.1 hm
    exact (sC_facts x (h x hx)).2.2 e0
theorem readL_ends (m : Bs) : readL (62 :: m) = some ([], false, m) ∧ readL (47 :: 62 :: m) = some ([], true, m) ∧ readL [] = none ∧ readL [47] = none := by
  refine ⟨?_, ?_, ?_, ?_⟩
  · unfold readL readN
    rw [List.dropWhile_cons, show space 62 = false from by decide]; rfl
  · unfold readL readN
    rw [List.dropWhile_cons, show space 47 = false from by decide]; rfl
  · unfold readL readN; rfl
  · unfold readL readN
    rw [List.dropWhile_cons, show space 47 = false from by decide]
    simp [headIs, readN]
/-- A written tag, ahead of m. -/
theorem tagL_written (stop : Bool) (x : Nat) (zs : List Nat) (h : ∀ y ∈ x :: zs, y < 256) (m : Bs) (hm : Hd nm m) (pre : Bs) (hpre : pre = if stop = true then [60, 47] else [60]) :
    nameL (pre ++ ((x :: zs).map sC ++ m)) ≠ 0 ∧ tagL (pre ++ ((x :: zs).map sC ++ m)) = (readL m).map fun y => if stop = true then ⟨2, (x :: zs).map lC, [], false, y.2.2⟩ else ⟨1, (x :: zs).map lC, y.1, y.2.1, y.2.2⟩ := by
  obtain ⟨h1, h2⟩ := letters (x :: zs) h
  have hx := (sC_facts x (h x (by simp))).1
  have e := all_app (p := nm) (a := zs.map sC) (m := m) (fun c hc => h1 c (by simp only [List.map_cons, List.mem_cons]; exact Or.inr hc)) hm
  cases stop with
  | true =>
    subst hpre
    rw [show (if true = true then [60, 47] else [60] : Bs) ++ ((x :: zs).map sC ++ m) = 60 :: 47 :: sC x :: (zs.map sC ++ m) from rfl]
    refine ⟨by rw [nameL_two hx]; decide, ?_⟩
    rw [tagL_two hx, e.1, e.2, show sC x :: zs.map sC = (x :: zs).map sC from rfl, h2]
    rfl
  | false =>
    subst hpre
    rw [show (if false = true then [60, 47] else [60] : Bs) ++ ((x :: zs).map sC ++ m) = 60 :: sC x :: (zs.map sC ++ m) from rfl]
    refine ⟨by rw [nameL_one hx]; decide, ?_⟩
    rw [tagL_one hx, e.1, e.2, show sC x :: zs.map sC = (x :: zs).map sC from rfl, h2]
    rfl
end Go.Proofs.YtfhjfidkcdcjnaaDoor.Fl
namespace Go.Proofs.YtfhjfidkcdcjnaaDoor.Pure
open Go Go.RowKit Go.Proofs.YtfhjfidkcdcjnaaDoor.Q Go.Proofs.YtfhjfidkcdcjnaaDoorW.PrintWords Go.Proofs.YtfhjfidkcdcjnaaDoorW.PrintLast Go.Proofs.YtfhjfidkcdcjnaaDoorW.PrintMore
set_option linter.unusedVariables false
set_option linter.unusedSimpArgs false

theorem tw_big {n : Nat} (h : n < 4294967296) : n ≤ 9223372036854775807 := Nat.le_trans (Nat.le_of_lt h) (Nat.le_of_ble_eq_true rfl)
theorem tw_inc (a : Nat) (h : a < 2147483648) : wrap64 ((a : Int) + 1) = ((a + 1 : Nat) : Int) := by rw [Fl.wrap_in _ (by omega) (by omega)]; omega
theorem tw_j3 (stop stroke : Bool) (x : Nat) (zs : List Nat) (h : ∀ y ∈ x :: zs, y < 256) (hl : zs.length < 60) (text : ByteArray) (kind : Int) (self : Bool)
    (hk : kind = if stop = true then 2 else 1) (hse : self = if stop = true then false else stroke)
    (ht : Fl.toL text = (if stop = true then [60, 47] else [60]) ++ ((x :: zs).map Fl.sC ++ if stroke = true then [47] else [])) :
    Ev (fun k => flaillaw09_TagWritten.j3 k true text kind (Fl.ofL ((x :: zs).map Fl.lC)) ⟨#[]⟩ self) true := by
  have hts : text.size < 100 ∧ 1 ≤ text.size := by
    have := congrArg List.length ht
    rw [Fl.toL_length, List.length_append, List.length_append, List.length_map, List.length_cons] at this
    have h1 : (if stop = true then [60, 47] else [60] : Fl.Bs).length ≤ 2 ∧ 1 ≤ (if stop = true then [60, 47] else [60] : Fl.Bs).length := by cases stop <;> decide
    have h2 : (if stroke = true then [47] else [] : Fl.Bs).length ≤ 1 := by cases stroke <;> decide
    omega
  obtain ⟨T, hT⟩ : ∃ T, text ++ (⟨#[62, 120]⟩ : ByteArray) = T := ⟨_, rfl⟩
  have hTs : T.size = text.size + 2 := by rw [← hT, ByteArray.size_append]; rfl
  have hTl : Fl.toL T = (if stop = true then [60, 47] else [60]) ++ ((x :: zs).map Fl.sC ++ ((if stroke = true then [47] else []) ++ [62, 120])) := by
    rw [← hT, toL_append, ht]
    simp [Fl.toL]
  obtain ⟨r1, r2, r3, r4⟩ := Fl.readL_ends [120]
  have hm1 : Fl.readL ((if stroke = true then [47] else []) ++ [62, 120]) = some ([], stroke, [120]) := by
    cases stroke
    · exact r1
    · exact r2
  have hm2 : Fl.readL (if stroke = true then [47] else []) = none := by
    cases stroke
    · exact r3
    · exact r4
  have hd1 : Fl.Hd Fl.nm ((if stroke = true then [47] else []) ++ [62, 120]) := by cases stroke <;> exact Fl.Hd.cons (by decide) _
  have hd2 : Fl.Hd Fl.nm (if stroke = true then [47] else []) := by
    cases stroke
    · exact Fl.Hd.nil _
    · exact Fl.Hd.cons (by decide) _
  obtain ⟨a1, a2⟩ := Fl.tagL_written stop x zs h _ hd1 _ rfl
  obtain ⟨b1, b2⟩ := Fl.tagL_written stop x zs h _ hd2 _ rfl
  rw [hm1] at a2
  rw [hm2] at b2
  have pT := tag_in (s := T) (i := 0) (by omega) (by omega) (by rw [List.drop_zero, hTl]; exact a1)
  have pU := tag_in (s := text) (i := 0) (by omega) (by omega) (by rw [List.drop_zero, ht]; exact b1)
  rw [List.drop_zero, hTl, a2] at pT
  rw [List.drop_zero, ht, b2] at pU
  have pT' : tag_Read.f T 0 = some (kind, Fl.ofL ((x :: zs).map Fl.lC), ⟨#[]⟩, [], self, ((text.size + 1 : Nat) : Int), true) := by
    have hsz : T.size - ([120] : Fl.Bs).length = text.size + 1 := by rw [hTs]; rfl
    rw [show (0 : Int) = ((0 : Nat) : Int) from rfl, pT, hk, hse]
    cases stop with
    | true => simp only [Option.map_some, if_true, List.map_nil, hsz]; rfl
    | false => simp only [Option.map_some, Bool.false_eq_true, if_false, List.map_nil, hsz]; rfl
  have pU' : tag_Read.f text 0 = some (0, ⟨#[]⟩, ⟨#[]⟩, [], false, (text.size : Int), false) := by
    rw [show (0 : Int) = ((0 : Nat) : Int) from rfl, pU]
    rfl
  have s1 := same9_ev kind (Fl.ofL ((x :: zs).map Fl.lC)) ⟨#[]⟩ [] self (by decide)
  have s2 := same9_ev 0 ⟨#[]⟩ ⟨#[]⟩ [] false (by decide)
  have c0 := tw_big (n := text.size + 2) (by omega)
  have w1 := tw_inc text.size (by omega)
  refine Ev.step (f := fun k => (flailref09_Same.f k kind (Fl.ofL ((x :: zs).map Fl.lC)) ⟨#[]⟩ [] self kind (Fl.ofL ((x :: zs).map Fl.lC)) ⟨#[]⟩ [] self).bind fun t => if t = true then ((flailref09_Same.f k 0 ⟨#[]⟩ ⟨#[]⟩ [] false 0 ⟨#[]⟩ ⟨#[]⟩ [] false).bind fun t => some t) else some false) (fun k => ?_) ?_
  · simp only [flaillaw09_TagWritten.j3]
    rw [if_pos c0, hT, pT', pU', w1]
    simp
  · refine Ev.bind (f := fun k t => if t = true then ((flailref09_Same.f k 0 ⟨#[]⟩ ⟨#[]⟩ [] false 0 ⟨#[]⟩ ⟨#[]⟩ [] false).bind fun t => some t) else some false) s1 ?_
    simp only [if_true]
    exact Ev.bind (f := fun _ t => some t) s2 (Ev.now true)
theorem tw_end (ns : List Int) (stop stroke : Bool) (x : Nat) (zs : List Nat) (h : ∀ y ∈ x :: zs, y < 256) (hl : zs.length < 60) (hns : ns.length = zs.length + 1) :
    Ev (fun k => flaillaw09_TagWritten.l0 k ns stop stroke true (Fl.ofL ((x :: zs).map Fl.sC)) (Fl.ofL ((x :: zs).map Fl.lC)) ((ns.length : Nat) : Int)) true := by
  have hsz : (Fl.ofL ((x :: zs).map Fl.sC)).size = zs.length + 1 := by rw [Fl.ofL_size]; simp
  have c0 : ¬ (((ns.length : Nat) : Int) < (ns.length : Int)) := by omega
  have b1 := tw_big (n := 1 + (Fl.ofL ((x :: zs).map Fl.sC)).size) (by omega)
  have b2 := tw_big (n := 2 + (Fl.ofL ((x :: zs).map Fl.sC)).size) (by omega)
  obtain ⟨text, htext⟩ : ∃ text, (if stop = true then (⟨#[60, 47]⟩ : ByteArray) else ⟨#[60]⟩) ++ Fl.ofL ((x :: zs).map Fl.sC) = text := ⟨_, rfl⟩
  have htl : Fl.toL text = (if stop = true then [60, 47] else [60]) ++ (x :: zs).map Fl.sC := by
    rw [← htext, toL_append]
    cases stop <;> rfl
  have hts : text.size < 1000 := by
    have := congrArg List.length htl
    rw [Fl.toL_length, List.length_append, List.length_map, List.length_cons] at this
    have h1 : (if stop = true then [60, 47] else [60] : Fl.Bs).length ≤ 2 := by cases stop <;> decide
    omega
  have hj2 : Ev (fun k => flaillaw09_TagWritten.j2 k stroke true text (if stop = true then 2 else 1) (Fl.ofL ((x :: zs).map Fl.lC)) ⟨#[]⟩ (if stop = true then false else stroke)) true := by
    have b3 := tw_big (n := text.size + 1) (by omega)
    cases stroke with
    | true =>
      have hj3 := tw_j3 stop true x zs h hl (text ++ (⟨#[47]⟩ : ByteArray)) (if stop = true then 2 else 1) (if stop = true then false else true) rfl rfl (by rw [toL_append, htl, List.append_assoc]; rfl)
      refine Ev.step (f := fun k => flaillaw09_TagWritten.j3 k true (text ++ (⟨#[47]⟩ : ByteArray)) (if stop = true then 2 else 1) (Fl.ofL ((x :: zs).map Fl.lC)) ⟨#[]⟩ (if stop = true then false else true)) (fun k => ?_) hj3
      simp only [flaillaw09_TagWritten.j2]
      rw [if_pos trivial, if_pos b3]
    | false =>
      have hj3 := tw_j3 stop false x zs h hl text (if stop = true then 2 else 1) (if stop = true then false else false) rfl rfl (by rw [htl]; simp)
      refine Ev.step (f := fun k => flaillaw09_TagWritten.j3 k true text (if stop = true then 2 else 1) (Fl.ofL ((x :: zs).map Fl.lC)) ⟨#[]⟩ (if stop = true then false else false)) (fun k => ?_) hj3
      simp only [flaillaw09_TagWritten.j2]
      rw [if_neg (by simp)]
  refine Ev.step (f := fun k => flaillaw09_TagWritten.j2 k stroke true text (if stop = true then 2 else 1) (Fl.ofL ((x :: zs).map Fl.lC)) ⟨#[]⟩ (if stop = true then false else stroke)) (fun k => ?_) hj2
  simp only [flaillaw09_TagWritten.l0]
  rw [if_neg c0, if_pos b1]
  cases stop with
  | true => rw [if_pos rfl, if_pos b2, ← htext]; rfl
  | false => rw [if_neg (by simp), ← htext]; rfl
theorem tw_l0 (ns : List Int) (hx : ∀ x ∈ ns, 0 ≤ x ∧ x ≤ 255) (hl : ns.length ≤ 60) (hne : ns.length ≠ 0) (stop stroke : Bool) :
    ∀ (d i : Nat), i + d = ns.length → Ev (fun k => flaillaw09_TagWritten.l0 k ns stop stroke true (Fl.ofL (((ns.take i).map Int.toNat).map Fl.sC)) (Fl.ofL (((ns.take i).map Int.toNat).map Fl.lC)) (i : Int)) true := by
  intro d
  induction d with
  | zero =>
    intro i hi
    obtain rfl : i = ns.length := by omega
    rw [List.take_of_length_le (Nat.le_refl _)]
    obtain ⟨y, ys, rfl⟩ : ∃ y ys, ns = y :: ys := by
      cases ns with
      | nil => exact absurd rfl hne
      | cons y ys => exact ⟨y, ys, rfl⟩
    exact tw_end (y :: ys) stop stroke y.toNat (ys.map Int.toNat) (fun z hz => by
      have hz' : z ∈ (y :: ys).map Int.toNat := hz
      obtain ⟨u, hu, rfl⟩ := List.mem_map.1 hz'
      have := hx u hu; omega) (by rw [List.length_map]; simp only [List.length_cons] at hl; omega) (by rw [List.length_map]; rfl)
  | succ d ih =>
    intro i hi
    have hil : i < ns.length := by omega
    have hr : rd ns (i : Int) = ns[i] := by unfold rd; rw [Int.toNat_natCast, List.getD, List.getElem?_eq_getElem hil]; rfl
    have hxi := hx ns[i] (List.getElem_mem _)
    obtain ⟨m, hm⟩ : ∃ m : Nat, ns[i] = m := ⟨ns[i].toNat, by omega⟩
    have hm256 : m < 256 := by omega
    have htk : (ns.take (i + 1)).map Int.toNat = (ns.take i).map Int.toNat ++ [m] := by
      rw [List.take_succ_eq_append_getElem hil, List.map_append, hm]; rfl
    have hlow : strOfNums [(97 + Int.tmod (rd ns (i : Int)) 26) % 256] = Fl.ofL [Fl.lC m] := by
      have e2 : (97 + Int.tmod (rd ns (i : Int)) 26) % 256 = ((97 + m % 26 : Nat) : Int) := by
        rw [hr, hm, Int.tmod_eq_emod_of_nonneg (by omega)]; omega
      rw [e2]; rfl
    have hup : strOfNums [(65 + Int.tmod (rd ns (i : Int)) 26) % 256] = Fl.ofL [UInt8.ofNat (65 + m % 26)] := by
      have e2 : (65 + Int.tmod (rd ns (i : Int)) 26) % 256 = ((65 + m % 26 : Nat) : Int) := by
        rw [hr, hm, Int.tmod_eq_emod_of_nonneg (by omega)]; omega
      rw [e2]; rfl
    have hlen : ((ns.take i).map Int.toNat).length ≤ 60 := by rw [List.length_map, List.length_take]; omega
    have z1 : (Fl.ofL (((ns.take i).map Int.toNat).map Fl.lC)).size ≤ 60 := by rw [Fl.ofL_size, List.length_map]; exact hlen
    have z2 : (Fl.ofL (((ns.take i).map Int.toNat).map Fl.sC)).size ≤ 60 := by rw [Fl.ofL_size, List.length_map]; exact hlen
    have e1 : Fl.ofL (((ns.take i).map Int.toNat).map Fl.lC) ++ Fl.ofL [Fl.lC m] = Fl.ofL (((ns.take (i + 1)).map Int.toNat).map Fl.lC) := by
      apply Fl.toL_inj; rw [toL_append, htk, List.map_append]; rfl
    have e2 : ∀ c, c = Fl.sC m → Fl.ofL (((ns.take i).map Int.toNat).map Fl.sC) ++ Fl.ofL [c] = Fl.ofL (((ns.take (i + 1)).map Int.toNat).map Fl.sC) := by
      intro c hc
      apply Fl.toL_inj; rw [toL_append, htk, List.map_append, hc]; rfl
    have c0 : (i : Int) < (ns.length : Int) := by omega
    have c1 : (0 : Int) ≤ (i : Int) := by omega
    have b1 := tw_big (n := (Fl.ofL (((ns.take i).map Int.toNat).map Fl.lC)).size + 1) (by omega)
    have b2 := tw_big (n := (Fl.ofL (((ns.take i).map Int.toNat).map Fl.sC)).size + 1) (by omega)
    have wi := tw_inc i (by omega)
    refine Ev.step (f := fun k => flaillaw09_TagWritten.l0 k ns stop stroke true (Fl.ofL (((ns.take (i + 1)).map Int.toNat).map Fl.sC)) (Fl.ofL (((ns.take (i + 1)).map Int.toNat).map Fl.lC)) ((i + 1 : Nat) : Int)) (fun k => ?_) (ih (i + 1) (by omega))
    simp only [flaillaw09_TagWritten.l0, hlow, hup, Option.bind_some]
    rw [if_pos c0, if_pos c1, if_pos (show _ + (Fl.ofL [Fl.lC m]).size ≤ 9223372036854775807 from b1), hr, hm, wi, e1]
    by_cases h128 : 128 ≤ m
    · rw [if_pos (show ((m : Nat) : Int) ≥ 128 by omega), if_pos (show _ + (Fl.ofL [UInt8.ofNat (65 + m % 26)]).size ≤ 9223372036854775807 from b2), e2 _ (by unfold Fl.sC; rw [if_pos h128])]
    · rw [if_neg (show ¬ ((m : Nat) : Int) ≥ 128 by omega), if_pos (show _ + (Fl.ofL [Fl.lC m]).size ≤ 9223372036854775807 from b2), e2 _ (by unfold Fl.sC Fl.lC; rw [if_neg h128])]
theorem TagWritten : flaillaw09_TagWritten.Pure := by
  intro ns stop stroke _ _ hwf
  have hx : ∀ x ∈ ns, 0 ≤ x ∧ x ≤ 255 := fun x hx => by
    have := hwf x hx
    simp [Lit.wf, show IntKind.u8.min = 0 from rfl, show IntKind.u8.max = 255 from rfl] at this; omega
  apply Ev.rounds
  unfold flaillaw09_TagWritten.f
  refine Ev.bind awake9_ev ?_
  have hout : Ev (fun k => flaillaw09_TagWritten.j0 k ns stop stroke true true) true := by
    refine Ev.step (f := fun k => some true) (fun k => ?_) (Ev.now true)
    simp only [flaillaw09_TagWritten.j0]
    rw [if_pos trivial]
  by_cases hs : (ns.length : Int) > 60
  · simp only [if_pos hs]; exact hout
  · simp only [if_neg hs]
    by_cases hz : ns.length = 0
    · rw [show ((ns.length : Int) == 0) = true by rw [hz]; rfl]; exact hout
    · rw [show ((ns.length : Int) == 0) = false by rw [beq_eq_false_iff_ne]; omega]
      refine Ev.step (f := fun k => flaillaw09_TagWritten.l0 k ns stop stroke true (Fl.ofL (((ns.take 0).map Int.toNat).map Fl.sC)) (Fl.ofL (((ns.take 0).map Int.toNat).map Fl.lC)) ((0 : Nat) : Int)) (fun k => ?_) (tw_l0 ns hx (by omega) hz stop stroke ns.length 0 (by omega))
      simp only [flaillaw09_TagWritten.j0]
      rw [if_neg (by simp)]; rfl
end Go.Proofs.YtfhjfidkcdcjnaaDoor.Pure

/- The law TagWritten: its row and its card. -/
namespace Go.Proofs.YtfhjfidkcdcjnaaDoor.tagWritten
open Go.ChangeShapes Go.WideShapes Go.ChangeAt Go.RowKit
open Go.ChangeMaps (open_string shut_string)
set_option linter.unusedVariables false
def IsRow (k : IntKind) (w : World) (a : Option Addr) (len cap : Nat) (zs : List Int) : Prop :=
  (a = none ∧ len = 0 ∧ cap = 0 ∧ zs = []) ∨
  ∃ x, a = some x ∧ len ≤ cap ∧ cap ≤ maxLen ∧ zs.length = cap ∧ (∀ i, i < zs.length → w.cell? (x.add i) = some (.int k (zs.getD i 0))) ∧ ∀ n ∈ zs, (Lit.int k n).wf = true
set_option maxRecDepth 100000 in
theorem lifted (os : Os) (started : os.Started) (H : Type) (enc : TypeId × Value → H) :
    ReturnsInHanded {} Tryd.checked os 9 .any (fun w args => (Rows.tagWrittenSpec.pre enc Tryd.prog Tryd.f9 Rows.tagWrittenRow.domain false w args ∧ laidMetH Tryd.prog laid7 w) ∧ sizedMet enc Tryd.prog Tryd.f9 (OpenSpec.ofChange Rows.tagWrittenSpec) false w args) (Rows.tagWrittenSpec.post enc Tryd.prog Tryd.f9 false true false false) := by
  refine row_returns started (by kernel_rfl) Tryd.func9 #[.slice none 0 0, .bool false, .bool false] (by kernel_rfl) (by kernel_rfl) (by kernel_rfl) ?_
  intro W base args ds gs before hval0 hW hsz0 hG
  have hsz : (DataW.weightsEach Tryd.prog (Tryd.f9.params.toList ++ Rows.tagWrittenSpec.plain.varTypes Tryd.prog) (ds ++ gs)).all (· ≤ reachBytes) = true := hsz0
  have hval : ∀ (j : Nat) t v, Tryd.f9.params[j]? = some t → args[j]? = some v → Value.okWide Tryd.prog W .any base t v := hval0
  have hW' := hW
  obtain ⟨p, q, hA0, hV, rfl, hfz, hnd⟩ := hW
  have hA : DataW.TrodAll enc Tryd.prog W 0 (fun _ => true) true Tryd.f9.params.toList args.toList ds p := hA0
  rw [Tryd.params9] at hA hval hsz
  obtain ⟨v0, vs0, d0, ds0, p0, q0, hargs, rfl, rfl, h0, r0⟩ := trodAll_cons hA
  obtain ⟨v1, vs1, d1, ds1, p1, q1, rfl, rfl, rfl, h1, r1⟩ := trodAll_cons r0
  obtain ⟨v2, vs2, d2, ds2, p2, q2, rfl, rfl, rfl, h2, r2⟩ := trodAll_cons r1
  obtain ⟨rfl, rfl, rfl⟩ := trodAll_nil r2
  obtain rfl : args = #[v0, v1, v2] := by cases args; simp_all
  obtain ⟨rfl, rfl⟩ := trodVars_none hV
  obtain ⟨a0, len0, cap0, rfl⟩ := okWide_slice Tryd.underlying29 (hval 0 29 v0 rfl rfl)
  have k0 := h0
  have lt0 : ∀ x ∈ p0, x.block < W.heap.size := by obtain ⟨m, hm⟩ := k0; exact DataW.trod_lt m _ _ _ hm
  obtain ⟨z0, w0⟩ : ∃ zs, IsRow .u8 W a0 len0 cap0 zs := by
    obtain ⟨fuel, hf⟩ := h0
    rcases open_ints Tryd.underlying29 Tryd.underlying5 (by kernel_rfl) hf with ⟨hcs, _⟩ | ⟨x, l, c, zs, hcs, _, hl, hm, hz, _, hcell, hwz⟩
    · simp [Value.cells] at hcs
      obtain ⟨rfl, rfl, rfl⟩ := hcs
      exact ⟨[], .inl ⟨rfl, rfl, rfl, rfl⟩⟩
    · simp [Value.cells] at hcs
      obtain ⟨rfl, rfl, rfl⟩ := hcs
      exact ⟨zs, .inr ⟨x, rfl, hl, hm, by rw [hz]; rfl, hcell, hwz⟩⟩
  have y0 : len0 * 1 ≤ 140737488351232 := Go.Proofs.YtfhjfidkcdcjnaaDoorW.PrintWords.sized_ints hsz (j := 0) (t := 29) rfl rfl Tryd.underlying29 Tryd.underlying5 (by kernel_rfl) (by kernel_rfl) k0
  obtain ⟨a1, rfl, rfl, rfl⟩ := open_bool Tryd.underlying4 (hval 1 4 v1 rfl rfl) h1
  obtain ⟨a2, rfl, rfl, rfl⟩ := open_bool Tryd.underlying4 (hval 2 4 v2 rfl rfl) h2
  clear hA0 hval0 hsz0 hsz
  refine (Q.flaillaw09_TagWritten.walk Pure.TagWritten a0 len0 cap0 z0 a1 a2 W hG w0 y0).mono fun e W' ⟨he, bel⟩ => ?_
  subst he
  exact ⟨_, rfl, _, _, _, [], _, [], hW', trodAll_mk1 (shut_bool Tryd.underlying4 _), (trodAll_cons_mk (Below.trod laidOut (by kernel_rfl) (of_decide_eq_true (by kernel_rfl)) k0 bel lt0) (trodAll_cons_mk (shut_bool Tryd.underlying4 _) (trodAll_cons_mk (shut_bool Tryd.underlying4 _) trodAll_mk0))), rfl, bel.frame _, fun h => by cases h⟩
theorem over : Rows.tagWrittenRow.holds Tryd.pinned (OpenSpec.ofChange Rows.tagWrittenSpec) :=
  OpenClaim.holds_of_wide 9 Tryd.f9 rfl rfl rfl rfl rfl rfl rfl ⟨rfl, rfl, rfl, rfl, rfl⟩ rfl rfl rfl rfl rfl (by kernel_rfl) Tryd.func9 (by kernel_rfl)
    (of_decide_eq_true (by kernel_rfl)) (by unfold Func.isWrapper; first | (rw [if_pos (by decide +kernel)]; kernel_rfl) | (rw [if_neg (by decide +kernel)]; exact ⟨rfl, rfl⟩))
    (fun os started H enc _ => lifted os started H enc)
theorem proved : Rows.TagWrittenCardSaid :=
  Claim7.holds_tied_plain_at .later [] [.data, .data, .data, .data, .sentinel, .sentinel, .pinned] true Rows.tagWrittenCard.stood.harness true over (fun _ h => by cases h) (by kernel_rfl) (fun _ h => by cases h) tagWritten_row_tie rfl ⟨rfl, rfl⟩ (by kernel_rfl) rfl
    (card_in 9 Tryd.func9 (by kernel_rfl) [29, 4, 4] Tryd.params9 (by kernel_rfl) (by kernel_rfl)) (by kernel_rfl)
end Go.Proofs.YtfhjfidkcdcjnaaDoor.tagWritten
namespace Go.Proofs.YtfhjfidkcdcjnaaDoor
theorem tagWritten_holds : Rows.TagWrittenCardSaid := tagWritten.proved
#print axioms tagWritten_holds
end Go.Proofs.YtfhjfidkcdcjnaaDoor
