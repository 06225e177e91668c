/- The law AttrsUnlike, proved whole: its row and its card. -/
import Derived.Test.YtfhjfidkcdcjnaaDoorB3
import Derived.Test.YtfhjfidkcdcjnaaDoorTie
import Derived.Test.YtfhjfidkcdcjnaaDoorCards
set_option linter.unusedVariables false
set_option linter.unusedSimpArgs false
set_option linter.unusedSectionVars false

namespace Go.Proofs.YtfhjfidkcdcjnaaDoor.Q
open Go.RowKit Go.Proofs.YtfhjfidkcdcjnaaDoorW.PrintWords Go.Proofs.YtfhjfidkcdcjnaaDoorW.PrintLast Go.Proofs.YtfhjfidkcdcjnaaDoorW.PrintMore
attribute [local go_sem] max2_int min2_int max_two min_two max_three min_three max_four min_four   -- for this text's walks alone
set_option linter.unusedVariables false
set_option linter.unusedSimpArgs false

/-! ### flaillaw08_AttrsUnlike: function 3 -/
mutual
noncomputable def flaillaw08_AttrsUnlike.j0 : Nat → ByteArray → Bool → List (S27) → Bool → Int → Bool → Option (Bool)
  | 0, _, _, _, _, _, _ => none
  | k + 1, x0, x3, x4, x5, x6, x49 => if x49 = true then (some false) else (if 0 ≤ (wrap64 (x6 - 1)) then (if (wrap64 (x6 - 1)) < (x0.size : Int) then (if (bt x0 (wrap64 (x6 - 1))) = 62 then (if x5 = true then (flaillaw08_AttrsUnlike.j1 k x0 x3 x4 x5 x6 (decide (x6 < 2))) else (flaillaw08_AttrsUnlike.j1 k x0 x3 x4 x5 x6 false)) else (flaillaw08_AttrsUnlike.j1 k x0 x3 x4 x5 x6 true)) else (none)) else (none))
noncomputable def flaillaw08_AttrsUnlike.j1 : Nat → ByteArray → Bool → List (S27) → Bool → Int → Bool → Option (Bool)
  | 0, _, _, _, _, _, _ => none
  | k + 1, x0, x3, x4, x5, x6, x61 => if x61 = true then (some false) else (if x5 = true then (if 0 ≤ (wrap64 (x6 - 2)) then (if (wrap64 (x6 - 2)) < (x0.size : Int) then (flaillaw08_AttrsUnlike.j2 k x3 x4 ((bt x0 (wrap64 (x6 - 2))) != 47)) else (none)) else (none)) else (flaillaw08_AttrsUnlike.j2 k x3 x4 false))
noncomputable def flaillaw08_AttrsUnlike.j2 : Nat → Bool → List (S27) → Bool → Option (Bool)
  | 0, _, _, _ => none
  | k + 1, x3, x4, x69 => if x69 = true then (some false) else (flaillaw08_AttrsUnlike.l0 k x3 x4 0)
noncomputable def flaillaw08_AttrsUnlike.l0 : Nat → Bool → List (S27) → Int → Option (Bool)
  | 0, _, _, _ => none
  | k + 1, x3, x4, x8 => if x8 < (x4.length : Int) then (if 0 ≤ x8 then (if ((rd_T27 x4 x8).f0).toList = ([] : List UInt8) then (some false) else (flaillaw08_AttrsUnlike.l1 k x3 x4 x8 0)) else (none)) else (some x3)
noncomputable def flaillaw08_AttrsUnlike.l1 : Nat → Bool → List (S27) → Int → Int → Option (Bool)
  | 0, _, _, _, _ => none
  | k + 1, x3, x4, x8, x9 => if x9 < x8 then (if 0 ≤ x9 then (if x9 < (x4.length : Int) then (if 0 ≤ x8 then (if x8 < (x4.length : Int) then (if ((rd_T27 x4 x9).f0).toList = ((rd_T27 x4 x8).f0).toList then (some false) else (flaillaw08_AttrsUnlike.l1 k x3 x4 x8 (wrap64 (x9 + 1)))) else (none)) else (none)) else (none)) else (none)) else (flaillaw08_AttrsUnlike.l2 k x3 x4 x8 0)
noncomputable def flaillaw08_AttrsUnlike.l2 : Nat → Bool → List (S27) → Int → Int → Option (Bool)
  | 0, _, _, _, _ => none
  | k + 1, x3, x4, x8, x10 => if 0 ≤ x8 then (if x8 < (x4.length : Int) then (if x10 < (((rd_T27 x4 x8).f0).size : Int) then (if 0 ≤ x10 then (if (bt ((rd_T27 x4 x8).f0) x10) = 32 then (some false) else (if (bt ((rd_T27 x4 x8).f0) x10) = 10 then (some false) else (if (bt ((rd_T27 x4 x8).f0) x10) = 9 then (some false) else (if (bt ((rd_T27 x4 x8).f0) x10) = 12 then (some false) else (if (bt ((rd_T27 x4 x8).f0) x10) = 47 then (some false) else (if (bt ((rd_T27 x4 x8).f0) x10) = 62 then (some false) else (if (bt ((rd_T27 x4 x8).f0) x10) = 0 then (some false) else (if (bt ((rd_T27 x4 x8).f0) x10) = 61 then (if x10 > 0 then (some false) else (if (bt ((rd_T27 x4 x8).f0) x10) ≥ 65 then (if (bt ((rd_T27 x4 x8).f0) x10) ≤ 90 then (some false) else (flaillaw08_AttrsUnlike.l2 k x3 x4 x8 (wrap64 (x10 + 1)))) else (flaillaw08_AttrsUnlike.l2 k x3 x4 x8 (wrap64 (x10 + 1))))) else (if (bt ((rd_T27 x4 x8).f0) x10) ≥ 65 then (if (bt ((rd_T27 x4 x8).f0) x10) ≤ 90 then (some false) else (flaillaw08_AttrsUnlike.l2 k x3 x4 x8 (wrap64 (x10 + 1)))) else (flaillaw08_AttrsUnlike.l2 k x3 x4 x8 (wrap64 (x10 + 1)))))))))))) else (none)) else (flaillaw08_AttrsUnlike.l0 k x3 x4 (wrap64 (x8 + 1)))) else (none)) else (none)
end
noncomputable def flaillaw08_AttrsUnlike.f (k : Nat) (a0 : ByteArray) : Option (Bool) := (flaillaw08_awake.f k).bind fun t164 => (if (a0.size : Int) > 300 then (some t164) else ((attrs_Read.f a0 0).bind fun bt165 => (if bt165.2.2.2 = true then (if bt165.2.2.1 < 1 then (flaillaw08_AttrsUnlike.j0 k a0 t164 bt165.1 bt165.2.1 bt165.2.2.1 true) else (flaillaw08_AttrsUnlike.j0 k a0 t164 bt165.1 bt165.2.1 bt165.2.2.1 (decide (bt165.2.2.1 > (a0.size : Int))))) else (if t164 = true then (if (bt165.1.length : Int) = 0 then (if bt165.2.1 = true then (some false) else (some (bt165.2.2.1 == (a0.size : Int)))) else (some false)) else (some false)))))
theorem flaillaw08_AttrsUnlike.mono_l : ∀ k, (∀ y0 y1 y2 y3 y4 y5, LeO (flaillaw08_AttrsUnlike.j0 k y0 y1 y2 y3 y4 y5) (flaillaw08_AttrsUnlike.j0 (k + 1) y0 y1 y2 y3 y4 y5)) ∧ (∀ y0 y1 y2 y3 y4 y5, LeO (flaillaw08_AttrsUnlike.j1 k y0 y1 y2 y3 y4 y5) (flaillaw08_AttrsUnlike.j1 (k + 1) y0 y1 y2 y3 y4 y5)) ∧ (∀ y0 y1 y2, LeO (flaillaw08_AttrsUnlike.j2 k y0 y1 y2) (flaillaw08_AttrsUnlike.j2 (k + 1) y0 y1 y2)) ∧ (∀ y0 y1 y2, LeO (flaillaw08_AttrsUnlike.l0 k y0 y1 y2) (flaillaw08_AttrsUnlike.l0 (k + 1) y0 y1 y2)) ∧ (∀ y0 y1 y2 y3, LeO (flaillaw08_AttrsUnlike.l1 k y0 y1 y2 y3) (flaillaw08_AttrsUnlike.l1 (k + 1) y0 y1 y2 y3)) ∧ (∀ y0 y1 y2 y3, LeO (flaillaw08_AttrsUnlike.l2 k y0 y1 y2 y3) (flaillaw08_AttrsUnlike.l2 (k + 1) y0 y1 y2 y3))
  | 0 => ⟨fun _ _ _ _ _ _ r h => by simp [flaillaw08_AttrsUnlike.j0] at h, fun _ _ _ _ _ _ r h => by simp [flaillaw08_AttrsUnlike.j1] at h, fun _ _ _ r h => by simp [flaillaw08_AttrsUnlike.j2] at h, fun _ _ _ r h => by simp [flaillaw08_AttrsUnlike.l0] at h, fun _ _ _ _ r h => by simp [flaillaw08_AttrsUnlike.l1] at h, fun _ _ _ _ r h => by simp [flaillaw08_AttrsUnlike.l2] at h⟩
  | k + 1 => by
    obtain ⟨ih0, ih1, ih2, ih3, ih4, ih5⟩ := flaillaw08_AttrsUnlike.mono_l k
    refine ⟨?_, ?_, ?_, ?_, ?_, ?_⟩
    · intro y0 y1 y2 y3 y4 y5
      unfold flaillaw08_AttrsUnlike.j0
      repeat' first
      | (with_reducible exact ih0 _ _ _ _ _ _)
      | (with_reducible exact ih1 _ _ _ _ _ _)
      | (with_reducible exact ih2 _ _ _)
      | (with_reducible exact ih3 _ _ _)
      | (with_reducible exact ih4 _ _ _ _)
      | (with_reducible exact ih5 _ _ _ _)
      | (with_reducible exact flaillaw08_awake.mono _)
      | (with_reducible exact LeO.refl _)
      | (with_reducible exact LeO.none _)
      | (with_reducible refine LeO.ite ?_ ?_)
      | (with_reducible refine LeO.bind ?_ (fun _ => ?_))
      | exact ih0 _ _ _ _ _ _
      | exact ih1 _ _ _ _ _ _
      | exact ih2 _ _ _
      | exact ih3 _ _ _
      | exact ih4 _ _ _ _
      | exact ih5 _ _ _ _
      | exact flaillaw08_awake.mono _
      | exact LeO.none _
      | refine LeO.ite ?_ ?_
      | refine LeO.bind ?_ (fun _ => ?_)
    · intro y0 y1 y2 y3 y4 y5
      unfold flaillaw08_AttrsUnlike.j1
      repeat' first
      | (with_reducible exact ih0 _ _ _ _ _ _)
      | (with_reducible exact ih1 _ _ _ _ _ _)
      | (with_reducible exact ih2 _ _ _)
      | (with_reducible exact ih3 _ _ _)
      | (with_reducible exact ih4 _ _ _ _)
      | (with_reducible exact ih5 _ _ _ _)
      | (with_reducible exact flaillaw08_awake.mono _)
      | (with_reducible exact LeO.refl _)
      | (with_reducible exact LeO.none _)
      | (with_reducible refine LeO.ite ?_ ?_)
      | (with_reducible refine LeO.bind ?_ (fun _ => ?_))
      | exact ih0 _ _ _ _ _ _
      | exact ih1 _ _ _ _ _ _
      | exact ih2 _ _ _
      | exact ih3 _ _ _
      | exact ih4 _ _ _ _
      | exact ih5 _ _ _ _
      | exact flaillaw08_awake.mono _
      | exact LeO.none _
      | refine LeO.ite ?_ ?_
      | refine LeO.bind ?_ (fun _ => ?_)
    · intro y0 y1 y2
      unfold flaillaw08_AttrsUnlike.j2
      repeat' first
      | (with_reducible exact ih0 _ _ _ _ _ _)
      | (with_reducible exact ih1 _ _ _ _ _ _)
      | (with_reducible exact ih2 _ _ _)
      | (with_reducible exact ih3 _ _ _)
      | (with_reducible exact ih4 _ _ _ _)
      | (with_reducible exact ih5 _ _ _ _)
      | (with_reducible exact flaillaw08_awake.mono _)
      | (with_reducible exact LeO.refl _)
      | (with_reducible exact LeO.none _)
      | (with_reducible refine LeO.ite ?_ ?_)
      | (with_reducible refine LeO.bind ?_ (fun _ => ?_))
      | exact ih0 _ _ _ _ _ _
      | exact ih1 _ _ _ _ _ _
      | exact ih2 _ _ _
      | exact ih3 _ _ _
      | exact ih4 _ _ _ _
      | exact ih5 _ _ _ _
      | exact flaillaw08_awake.mono _
      | exact LeO.none _
      | refine LeO.ite ?_ ?_
      | refine LeO.bind ?_ (fun _ => ?_)
    · intro y0 y1 y2
      unfold flaillaw08_AttrsUnlike.l0
      repeat' first
      | (with_reducible exact ih0 _ _ _ _ _ _)
      | (with_reducible exact ih1 _ _ _ _ _ _)
      | (with_reducible exact ih2 _ _ _)
      | (with_reducible exact ih3 _ _ _)
      | (with_reducible exact ih4 _ _ _ _)
      | (with_reducible exact ih5 _ _ _ _)
      | (with_reducible exact flaillaw08_awake.mono _)
      | (with_reducible exact LeO.refl _)
      | (with_reducible exact LeO.none _)
      | (with_reducible refine LeO.ite ?_ ?_)
      | (with_reducible refine LeO.bind ?_ (fun _ => ?_))
      | exact ih0 _ _ _ _ _ _
      | exact ih1 _ _ _ _ _ _
      | exact ih2 _ _ _
      | exact ih3 _ _ _
      | exact ih4 _ _ _ _
      | exact ih5 _ _ _ _
      | exact flaillaw08_awake.mono _
      | exact LeO.none _
      | refine LeO.ite ?_ ?_
      | refine LeO.bind ?_ (fun _ => ?_)
    · intro y0 y1 y2 y3
      unfold flaillaw08_AttrsUnlike.l1
      repeat' first
      | (with_reducible exact ih0 _ _ _ _ _ _)
      | (with_reducible exact ih1 _ _ _ _ _ _)
      | (with_reducible exact ih2 _ _ _)
      | (with_reducible exact ih3 _ _ _)
      | (with_reducible exact ih4 _ _ _ _)
      | (with_reducible exact ih5 _ _ _ _)
      | (with_reducible exact flaillaw08_awake.mono _)
      | (with_reducible exact LeO.refl _)
      | (with_reducible exact LeO.none _)
      | (with_reducible refine LeO.ite ?_ ?_)
      | (with_reducible refine LeO.bind ?_ (fun _ => ?_))
      | exact ih0 _ _ _ _ _ _
      | exact ih1 _ _ _ _ _ _
      | exact ih2 _ _ _
      | exact ih3 _ _ _
      | exact ih4 _ _ _ _
      | exact ih5 _ _ _ _
      | exact flaillaw08_awake.mono _
      | exact LeO.none _
      | refine LeO.ite ?_ ?_
      | refine LeO.bind ?_ (fun _ => ?_)
    · intro y0 y1 y2 y3
      unfold flaillaw08_AttrsUnlike.l2
      repeat' first
      | (with_reducible exact ih0 _ _ _ _ _ _)
      | (with_reducible exact ih1 _ _ _ _ _ _)
      | (with_reducible exact ih2 _ _ _)
      | (with_reducible exact ih3 _ _ _)
      | (with_reducible exact ih4 _ _ _ _)
      | (with_reducible exact ih5 _ _ _ _)
      | (with_reducible exact flaillaw08_awake.mono _)
      | (with_reducible exact LeO.refl _)
      | (with_reducible exact LeO.none _)
      | (with_reducible refine LeO.ite ?_ ?_)
      | (with_reducible refine LeO.bind ?_ (fun _ => ?_))
      | exact ih0 _ _ _ _ _ _
      | exact ih1 _ _ _ _ _ _
      | exact ih2 _ _ _
      | exact ih3 _ _ _
      | exact ih4 _ _ _ _
      | exact ih5 _ _ _ _
      | exact flaillaw08_awake.mono _
      | exact LeO.none _
      | refine LeO.ite ?_ ?_
      | refine LeO.bind ?_ (fun _ => ?_)
theorem flaillaw08_AttrsUnlike.mono : ∀ a0 k, LeO (flaillaw08_AttrsUnlike.f k a0) (flaillaw08_AttrsUnlike.f (k + 1) a0) := by
  intro a0 k
  obtain ⟨ih0, ih1, ih2, ih3, ih4, ih5⟩ := flaillaw08_AttrsUnlike.mono_l k
  unfold flaillaw08_AttrsUnlike.f
  repeat' first
      | (with_reducible exact ih0 _ _ _ _ _ _)
      | (with_reducible exact ih1 _ _ _ _ _ _)
      | (with_reducible exact ih2 _ _ _)
      | (with_reducible exact ih3 _ _ _)
      | (with_reducible exact ih4 _ _ _ _)
      | (with_reducible exact ih5 _ _ _ _)
      | (with_reducible exact flaillaw08_awake.mono _)
      | (with_reducible exact LeO.refl _)
      | (with_reducible exact LeO.none _)
      | (with_reducible refine LeO.ite ?_ ?_)
      | (with_reducible refine LeO.bind ?_ (fun _ => ?_))
      | exact ih0 _ _ _ _ _ _
      | exact ih1 _ _ _ _ _ _
      | exact ih2 _ _ _
      | exact ih3 _ _ _
      | exact ih4 _ _ _ _
      | exact ih5 _ _ _ _
      | exact flaillaw08_awake.mono _
      | exact LeO.none _
      | refine LeO.ite ?_ ?_
      | refine LeO.bind ?_ (fun _ => ?_)
set_option maxHeartbeats 8000000 in
set_option maxRecDepth 100000 in
theorem flaillaw08_AttrsUnlike.calls (k : Nat) (a0 : ByteArray) (r : Bool) (w : World) (hG : Gl w) (h : flaillaw08_AttrsUnlike.f k a0 = some r) :
    Calls Tryd.prog 3 #[.string a0] w fun e w' => e = .returned (.bool r) ∧ Below w.heap.size w w' := by
  have HB := Aside0.mk (Below.refl w.heap.size w)
  have HG := Aside0.mk hG
  clear hG
  have H : ((flaillaw08_awake.f k).bind fun t164 => (if (a0.size : Int) > 300 then (some t164) else ((attrs_Read.f a0 0).bind fun bt165 => (if bt165.2.2.2 = true then (if bt165.2.2.1 < 1 then (flaillaw08_AttrsUnlike.j0 k a0 t164 bt165.1 bt165.2.1 bt165.2.2.1 true) else (flaillaw08_AttrsUnlike.j0 k a0 t164 bt165.1 bt165.2.1 bt165.2.2.1 (decide (bt165.2.2.1 > (a0.size : Int))))) else (if t164 = true then (if (bt165.1.length : Int) = 0 then (if bt165.2.1 = true then (some false) else (some (bt165.2.2.1 == (a0.size : Int)))) else (some false)) else (some false)))))) = some r := h
  clear h
  replace H := Option.bind_eq_some_iff.mp H
  obtain ⟨t164, A20, H⟩ := H
  replace H : (if (a0.size : Int) > 300 then (some t164) else ((attrs_Read.f a0 0).bind fun bt165 => (if bt165.2.2.2 = true then (if bt165.2.2.1 < 1 then (flaillaw08_AttrsUnlike.j0 k a0 t164 bt165.1 bt165.2.1 bt165.2.2.1 true) else (flaillaw08_AttrsUnlike.j0 k a0 t164 bt165.1 bt165.2.1 bt165.2.2.1 (decide (bt165.2.2.1 > (a0.size : Int))))) else (if t164 = true then (if (bt165.1.length : Int) = 0 then (if bt165.2.1 = true then (some false) else (some (bt165.2.2.1 == (a0.size : Int)))) else (some false)) else (some false))))) = some r := H
  have A2 := Aside0.mk A20
  clear A20
  by_cases c3 : (a0.size : Int) > 300
  · rw [if_pos c3] at H
    have c3b0 : decide (300 < (a0.size : Int)) = true := decide_eq_true c3
    have c3b1 : decide (300 < a0.size) = true := decide_eq_true (by omega)
    clear c3
    obtain rfl := Option.some.inj H
    go_enter Tryd.func3, Tryd.ntmps3
    go_wp2_with (first | (go_at_call 12; (with_reducible refine (flaillaw08_awake.calls k  t164 _ ?side1 A2.out).mono ?_); (case side1 => first | (with_reducible exact HG.out) | exact Gl.below HG.out (by repeat (first | (with_reducible first | exact HB.out | apply below_alloc | apply pw_below_drewN | apply below_drew1) | exact HB.out)) | exact HG.out); rintro e w4 ⟨rfl, hb⟩; have n0_ := Aside0.mk (below_step (by repeat (first | (with_reducible first | exact HB.out | apply below_alloc | apply pw_below_drewN | apply below_drew1) | exact HB.out)) hb); clear HB; have HB := n0_; clear n0_; (try clear hb); (try clear hb2); (try clear hk); (try clear hi)))
    repeat (go_quiet (first | (go_at_call 12; (with_reducible refine (flaillaw08_awake.calls k  t164 _ ?side1 A2.out).mono ?_); (case side1 => first | (with_reducible exact HG.out) | exact Gl.below HG.out (by repeat (first | (with_reducible first | exact HB.out | apply below_alloc | apply pw_below_drewN | apply below_drew1) | exact HB.out)) | exact HG.out); rintro e w4 ⟨rfl, hb⟩; have n0_ := Aside0.mk (below_step (by repeat (first | (with_reducible first | exact HB.out | apply below_alloc | apply pw_below_drewN | apply below_drew1) | exact HB.out)) hb); clear HB; have HB := n0_; clear n0_; (try clear hb); (try clear hb2); (try clear hk); (try clear hi))); try go_wp2_with (first | (go_at_call 12; (with_reducible refine (flaillaw08_awake.calls k  t164 _ ?side1 A2.out).mono ?_); (case side1 => first | (with_reducible exact HG.out) | exact Gl.below HG.out (by repeat (first | (with_reducible first | exact HB.out | apply below_alloc | apply pw_below_drewN | apply below_drew1) | exact HB.out)) | exact HG.out); rintro e w4 ⟨rfl, hb⟩; have n0_ := Aside0.mk (below_step (by repeat (first | (with_reducible first | exact HB.out | apply below_alloc | apply pw_below_drewN | apply below_drew1) | exact HB.out)) hb); clear HB; have HB := n0_; clear n0_; (try clear hb); (try clear hb2); (try clear hk); (try clear hi))))
    go_ret
    exact ⟨by first | rfl | (simp [errW_none, errW_some] <;> rfl) | (simp [*, errW_none, errW_some] <;> rfl), by repeat (first | (with_reducible first | exact HB.out | apply below_alloc | apply pw_below_drewN | apply below_drew1) | exact HB.out)⟩
  · rw [if_neg c3] at H
    have c3b0 : decide (300 < (a0.size : Int)) = false := decide_eq_false c3
    have c3b1 : decide (300 < a0.size) = false := decide_eq_false (by omega)
    clear c3
    replace H := Option.bind_eq_some_iff.mp H
    obtain ⟨⟨t165, t166, t167, t168⟩, A50, H⟩ := H
    replace H : (if t168 = true then (if t167 < 1 then (flaillaw08_AttrsUnlike.j0 k a0 t164 t165 t166 t167 true) else (flaillaw08_AttrsUnlike.j0 k a0 t164 t165 t166 t167 (decide (t167 > (a0.size : Int))))) else (if t164 = true then (if (t165.length : Int) = 0 then (if t166 = true then (some false) else (some (t167 == (a0.size : Int)))) else (some false)) else (some false))) = some r := H
    have A5 := Aside0.mk A50
    clear A50
    by_cases c6 : t168 = true
    · subst c6
      have H1 : (if t167 < 1 then (flaillaw08_AttrsUnlike.j0 k a0 t164 t165 t166 t167 true) else (flaillaw08_AttrsUnlike.j0 k a0 t164 t165 t166 t167 (decide (t167 > (a0.size : Int))))) = some r := by rw [if_pos rfl] at H; exact H
      clear H
      have H := H1
      clear H1
      have HC7 := Aside0.mk H
      clear H
      go_enter Tryd.func3, Tryd.ntmps3
      go_upto_region 7 with (first | (go_at_call 12; (with_reducible refine (flaillaw08_awake.calls k  t164 _ ?side1 A2.out).mono ?_); (case side1 => first | (with_reducible exact HG.out) | exact Gl.below HG.out (by repeat (first | (with_reducible first | exact HB.out | apply below_alloc | apply pw_below_drewN | apply below_drew1) | exact HB.out)) | exact HG.out); rintro e w8 ⟨rfl, hb⟩; have n0_ := Aside0.mk (below_step (by repeat (first | (with_reducible first | exact HB.out | apply below_alloc | apply pw_below_drewN | apply below_drew1) | exact HB.out)) hb); clear HB; have HB := n0_; clear n0_; (try clear hb); (try clear hb2); (try clear hk); (try clear hi)) | (go_at_call 13; (with_reducible refine (attrs_Read.calls a0 0 t165 t166 t167 true _ ?side1 A5.out).mono ?_); (case side1 => first | (with_reducible exact HG.out) | exact Gl.below HG.out (by repeat (first | (with_reducible first | exact HB.out | apply below_alloc | apply pw_below_drewN | apply below_drew1) | exact HB.out)) | exact HG.out); rintro e w9 ⟨v169, rfl, ho0, hb⟩; have n0_ := Aside0.mk (Kd.R_lower ho0 (below_size (by repeat (first | (with_reducible first | exact HB.out | apply below_alloc | apply pw_below_drewN | apply below_drew1) | exact HB.out)))); have n1_ := Aside0.mk (below_step (by repeat (first | (with_reducible first | exact HB.out | apply below_alloc | apply pw_below_drewN | apply below_drew1) | exact HB.out)) hb); clear HB; have HO170 := n0_; have HB := n1_; clear n0_ n1_; (try clear hb); (try clear hb2); (try clear hk); (try clear hi); (try clear ho0)))
      repeat (go_quiet (first | (go_at_call 12; (with_reducible refine (flaillaw08_awake.calls k  t164 _ ?side1 A2.out).mono ?_); (case side1 => first | (with_reducible exact HG.out) | exact Gl.below HG.out (by repeat (first | (with_reducible first | exact HB.out | apply below_alloc | apply pw_below_drewN | apply below_drew1) | exact HB.out)) | exact HG.out); rintro e w8 ⟨rfl, hb⟩; have n0_ := Aside0.mk (below_step (by repeat (first | (with_reducible first | exact HB.out | apply below_alloc | apply pw_below_drewN | apply below_drew1) | exact HB.out)) hb); clear HB; have HB := n0_; clear n0_; (try clear hb); (try clear hb2); (try clear hk); (try clear hi)) | (go_at_call 13; (with_reducible refine (attrs_Read.calls a0 0 t165 t166 t167 true _ ?side1 A5.out).mono ?_); (case side1 => first | (with_reducible exact HG.out) | exact Gl.below HG.out (by repeat (first | (with_reducible first | exact HB.out | apply below_alloc | apply pw_below_drewN | apply below_drew1) | exact HB.out)) | exact HG.out); rintro e w9 ⟨v169, rfl, ho0, hb⟩; have n0_ := Aside0.mk (Kd.R_lower ho0 (below_size (by repeat (first | (with_reducible first | exact HB.out | apply below_alloc | apply pw_below_drewN | apply below_drew1) | exact HB.out)))); have n1_ := Aside0.mk (below_step (by repeat (first | (with_reducible first | exact HB.out | apply below_alloc | apply pw_below_drewN | apply below_drew1) | exact HB.out)) hb); clear HB; have HO170 := n0_; have HB := n1_; clear n0_ n1_; (try clear hb); (try clear hb2); (try clear hk); (try clear hi); (try clear ho0))); go_upto_region 7 with (first | (go_at_call 12; (with_reducible refine (flaillaw08_awake.calls k  t164 _ ?side1 A2.out).mono ?_); (case side1 => first | (with_reducible exact HG.out) | exact Gl.below HG.out (by repeat (first | (with_reducible first | exact HB.out | apply below_alloc | apply pw_below_drewN | apply below_drew1) | exact HB.out)) | exact HG.out); rintro e w8 ⟨rfl, hb⟩; have n0_ := Aside0.mk (below_step (by repeat (first | (with_reducible first | exact HB.out | apply below_alloc | apply pw_below_drewN | apply below_drew1) | exact HB.out)) hb); clear HB; have HB := n0_; clear n0_; (try clear hb); (try clear hb2); (try clear hk); (try clear hi)) | (go_at_call 13; (with_reducible refine (attrs_Read.calls a0 0 t165 t166 t167 true _ ?side1 A5.out).mono ?_); (case side1 => first | (with_reducible exact HG.out) | exact Gl.below HG.out (by repeat (first | (with_reducible first | exact HB.out | apply below_alloc | apply pw_below_drewN | apply below_drew1) | exact HB.out)) | exact HG.out); rintro e w9 ⟨v169, rfl, ho0, hb⟩; have n0_ := Aside0.mk (Kd.R_lower ho0 (below_size (by repeat (first | (with_reducible first | exact HB.out | apply below_alloc | apply pw_below_drewN | apply below_drew1) | exact HB.out)))); have n1_ := Aside0.mk (below_step (by repeat (first | (with_reducible first | exact HB.out | apply below_alloc | apply pw_below_drewN | apply below_drew1) | exact HB.out)) hb); clear HB; have HO170 := n0_; have HB := n1_; clear n0_ n1_; (try clear hb); (try clear hb2); (try clear hk); (try clear hi); (try clear ho0))))
      (try simp only [Act.put, List.setIfInBounds_toArray, List.set_cons_zero, List.set_cons_succ])
      go_cut [49] (fun v49 wc => ∃ (kq : Nat) (x49_6 : Bool), v49 = .bool x49_6 ∧ Aside0 (flaillaw08_AttrsUnlike.j0 kq a0 t164 t165 t166 t167 x49_6 = some r) ∧ Aside0 (kq ≤ k) ∧ Aside0 (Kd.R k27 27 wc w.heap.size (fun _ => True) v169 t165) ∧ Aside0 (Below w.heap.size w wc))
      case first =>
        have H := HC7.out
        clear HC7
        by_cases c10 : t167 < 1
        · rw [if_pos c10] at H
          have c10b0 : decide (t167 < 1) = true := decide_eq_true c10
          clear c10
          (first | rw [c10b0] | (simp only [i64_w, i32_w]; rw [c10b0]) | skip)
          have H' := Aside0.mk H
          clear H
          go_wp2
          repeat (go_quiet (fail); try go_wp2)
          go_meet
          case rel => exact ⟨_, (true), (by first | rfl | (simp; done) | (simp [*]; done)), H', ⟨by first | omega | exact Nat.le_refl _⟩, ⟨by (with_reducible repeat (first | apply Kd.R_alloc | apply Kd.R_drewN | apply Kd.R_drew)); exact HO170.out⟩, ⟨by repeat (first | (with_reducible first | exact HB.out | apply below_alloc | apply pw_below_drewN | apply below_drew1) | exact HB.out)⟩⟩
        · rw [if_neg c10] at H
          have c10b0 : decide (t167 < 1) = false := decide_eq_false c10
          clear c10
          (first | rw [c10b0] | (simp only [i64_w, i32_w]; rw [c10b0]) | skip)
          have H' := Aside0.mk H
          clear H
          go_wp2
          repeat (go_quiet (fail); try go_wp2)
          go_meet
          case rel => exact ⟨_, (decide (t167 > (a0.size : Int))), (by first | rfl | (simp; done) | (simp [*]; done)), H', ⟨by first | omega | exact Nat.le_refl _⟩, ⟨by (with_reducible repeat (first | apply Kd.R_alloc | apply Kd.R_drewN | apply Kd.R_drew)); exact HO170.out⟩, ⟨by repeat (first | (with_reducible first | exact HB.out | apply below_alloc | apply pw_below_drewN | apply below_drew1) | exact HB.out)⟩⟩
      case rest =>
        clear HC7
        try clear c1
        try clear p2
        try clear c3
        try clear c3b0
        try clear c3b1
        try clear c6
        try clear c10
        try clear c10b0
        obtain ⟨kq, x49_6, rfl, HA, HJ6, HO_4, HB⟩ := hcut
        cases kq with
        | zero => exact absurd HA.out (by simp [flaillaw08_AttrsUnlike.j0])
        | succ kj6 =>
          have H := HA.out
          clear HA
          simp only [flaillaw08_AttrsUnlike.j0] at H
          by_cases c11 : x49_6 = true
          · subst c11
            have H1 : (some false) = some r := by rw [if_pos rfl] at H; exact H
            clear H
            have H := H1
            clear H1
            obtain rfl := Option.some.inj H
            go_wp2
            repeat (go_quiet (fail); try go_wp2)
            go_ret
            exact ⟨by first | rfl | (simp [errW_none, errW_some] <;> rfl) | (simp [*, errW_none, errW_some] <;> rfl), by repeat (first | (with_reducible first | exact HB.out | apply below_alloc | apply pw_below_drewN | apply below_drew1) | exact HB.out)⟩
          · replace c11 := Bool.eq_false_iff.mpr c11
            subst c11
            have H1 : (if 0 ≤ (wrap64 (t167 - 1)) then (if (wrap64 (t167 - 1)) < (a0.size : Int) then (if (bt a0 (wrap64 (t167 - 1))) = 62 then (if t166 = true then (flaillaw08_AttrsUnlike.j1 kj6 a0 t164 t165 t166 t167 (decide (t167 < 2))) else (flaillaw08_AttrsUnlike.j1 kj6 a0 t164 t165 t166 t167 false)) else (flaillaw08_AttrsUnlike.j1 kj6 a0 t164 t165 t166 t167 true)) else (none)) else (none)) = some r := by rw [if_neg (show ¬ (false = true) by decide)] at H; exact H
            clear H
            have H := H1
            clear H1
            have HC12 := Aside0.mk H
            clear H
            go_upto_region 9 with (fail)
            repeat (go_quiet (fail); go_upto_region 9 with (fail))
            go_cut [61] (fun v61 wc => ∃ (kq : Nat) (x61_11 : Bool), v61 = .bool x61_11 ∧ Aside0 (flaillaw08_AttrsUnlike.j1 kq a0 t164 t165 t166 t167 x61_11 = some r) ∧ Aside0 (kq ≤ kj6) ∧ Aside0 (Kd.R k27 27 wc w.heap.size (fun _ => True) v169 t165) ∧ Aside0 (Below w.heap.size w wc))
            case first =>
              have H := HC12.out
              clear HC12
              obtain ⟨ji13, hji13⟩ : ∃ j_ : Int, (wrap64 (t167 - 1)) = j_ := ⟨_, rfl⟩
              replace H : (if 0 ≤ (ji13) then (if (ji13) < (a0.size : Int) then (if (bt a0 (ji13)) = 62 then (if t166 = true then (flaillaw08_AttrsUnlike.j1 kj6 a0 t164 t165 t166 t167 (decide (t167 < 2))) else (flaillaw08_AttrsUnlike.j1 kj6 a0 t164 t165 t166 t167 false)) else (flaillaw08_AttrsUnlike.j1 kj6 a0 t164 t165 t166 t167 true)) else (none)) else (none)) = some r := by first | (rw [hji13] at H; exact H) | (simp only [hji13] at H ⊢; exact H)
              have hji13w : (IntKind.i64.wrap (t167 - 1)) = ji13 := (i64_w _).trans hji13
              by_cases c14 : 0 ≤ (ji13)
              · rw [if_pos c14] at H
                have c14b0 : decide (0 ≤ (ji13)) = true := decide_eq_true c14
                clear c14
                (first | rw [c14b0] | (simp only [i64_w, i32_w]; rw [c14b0]) | skip)
                by_cases c15 : (ji13) < (a0.size : Int)
                · rw [if_pos c15] at H
                  have c15b0 : decide ((ji13) < (a0.size : Int)) = true := decide_eq_true c15
                  clear c15
                  by_cases c17 : (bt a0 (ji13)) = 62
                  · rw [if_pos c17] at H
                    have c17b0 : ((bt a0 (ji13)) == 62) = true := beq_iff_eq.mpr c17
                    have c17b1 : ((bt a0 (ji13)) != 62) = false := bne_eq_false_iff_eq.mpr c17
                    clear c17
                    by_cases c18 : t166 = true
                    · subst c18
                      have H1 : (flaillaw08_AttrsUnlike.j1 kj6 a0 t164 t165 true t167 (decide (t167 < 2))) = some r := by rw [if_pos rfl] at H; exact H
                      clear H
                      have H := H1
                      clear H1
                      have H' := Aside0.mk H
                      clear H
                      have p16 : 0 ≤ ((ji13) : Int) := of_decide_eq_true (by first | (with_reducible assumption) | assumption)
                      have q16 : (ji13) < (a0.size : Int) := of_decide_eq_true (by first | (with_reducible assumption) | assumption)
                      have hx16 := bt_at a0 (ji13)
                      replace p16 := eq_true p16
                      replace q16 := eq_true q16
                      go_wp2
                      repeat (go_quiet (fail); try go_wp2)
                      go_meet
                      case rel => exact ⟨_, (decide (t167 < 2)), (by first | rfl | (simp; done) | (simp [*]; done)), H', ⟨by have := HJ6.out; first | omega | exact Nat.le_refl _⟩, ⟨by (with_reducible repeat (first | apply Kd.R_alloc | apply Kd.R_drewN | apply Kd.R_drew)); exact HO_4.out⟩, ⟨by repeat (first | (with_reducible first | exact HB.out | apply below_alloc | apply pw_below_drewN | apply below_drew1) | exact HB.out)⟩⟩
                    · replace c18 := Bool.eq_false_iff.mpr c18
                      subst c18
                      have H1 : (flaillaw08_AttrsUnlike.j1 kj6 a0 t164 t165 false t167 false) = some r := by rw [if_neg (show ¬ (false = true) by decide)] at H; exact H
                      clear H
                      have H := H1
                      clear H1
                      have H' := Aside0.mk H
                      clear H
                      have p16 : 0 ≤ ((ji13) : Int) := of_decide_eq_true (by first | (with_reducible assumption) | assumption)
                      have q16 : (ji13) < (a0.size : Int) := of_decide_eq_true (by first | (with_reducible assumption) | assumption)
                      have hx16 := bt_at a0 (ji13)
                      replace p16 := eq_true p16
                      replace q16 := eq_true q16
                      go_wp2
                      repeat (go_quiet (fail); try go_wp2)
                      go_meet
                      case rel => exact ⟨_, (false), (by first | rfl | (simp; done) | (simp [*]; done)), H', ⟨by have := HJ6.out; first | omega | exact Nat.le_refl _⟩, ⟨by (with_reducible repeat (first | apply Kd.R_alloc | apply Kd.R_drewN | apply Kd.R_drew)); exact HO_4.out⟩, ⟨by repeat (first | (with_reducible first | exact HB.out | apply below_alloc | apply pw_below_drewN | apply below_drew1) | exact HB.out)⟩⟩
                  · rw [if_neg c17] at H
                    have c17b0 : ((bt a0 (ji13)) == 62) = false := beq_eq_false_iff_ne.mpr c17
                    have c17b1 : ((bt a0 (ji13)) != 62) = true := bne_iff_ne.mpr c17
                    have H' := Aside0.mk H
                    clear H
                    have p16 : 0 ≤ ((ji13) : Int) := of_decide_eq_true (by first | (with_reducible assumption) | assumption)
                    have q16 : (ji13) < (a0.size : Int) := of_decide_eq_true (by first | (with_reducible assumption) | assumption)
                    have hx16 := bt_at a0 (ji13)
                    replace p16 := eq_true p16
                    replace q16 := eq_true q16
                    go_wp2
                    repeat (go_quiet (fail); try go_wp2)
                    go_meet
                    case rel => exact ⟨_, (true), (by first | rfl | (simp; done) | (simp [*]; done)), H', ⟨by have := HJ6.out; first | omega | exact Nat.le_refl _⟩, ⟨by (with_reducible repeat (first | apply Kd.R_alloc | apply Kd.R_drewN | apply Kd.R_drew)); exact HO_4.out⟩, ⟨by repeat (first | (with_reducible first | exact HB.out | apply below_alloc | apply pw_below_drewN | apply below_drew1) | exact HB.out)⟩⟩
                · rw [if_neg c15] at H
                  exact absurd H (by simp)
              · rw [if_neg c14] at H
                exact absurd H (by simp)
            case rest =>
              clear HC12
              try clear c1
              try clear p1
              try clear q1
              try clear hx1
              try clear p2
              try clear c3
              try clear c3b0
              try clear c3b1
              try clear c6
              try clear p6
              try clear c10
              try clear c10b0
              try clear c11
              try clear c14
              try clear c14b0
              try clear c15
              try clear c15b0
              try clear p16
              try clear q16
              try clear hx16
              try clear c17
              try clear c17b0
              try clear c17b1
              try clear c18
              try clear p16
              try clear p2
              try clear q16
              obtain ⟨kq, x61_11, rfl, HA, HJ11, HO_4, HB⟩ := hcut
              cases kq with
              | zero => exact absurd HA.out (by simp [flaillaw08_AttrsUnlike.j1])
              | succ kj11 =>
                have H := HA.out
                clear HA
                simp only [flaillaw08_AttrsUnlike.j1] at H
                by_cases c19 : x61_11 = true
                · subst c19
                  have H1 : (some false) = some r := by rw [if_pos rfl] at H; exact H
                  clear H
                  have H := H1
                  clear H1
                  obtain rfl := Option.some.inj H
                  go_wp2
                  repeat (go_quiet (fail); try go_wp2)
                  go_ret
                  exact ⟨by first | rfl | (simp [errW_none, errW_some] <;> rfl) | (simp [*, errW_none, errW_some] <;> rfl), by repeat (first | (with_reducible first | exact HB.out | apply below_alloc | apply pw_below_drewN | apply below_drew1) | exact HB.out)⟩
                · replace c19 := Bool.eq_false_iff.mpr c19
                  subst c19
                  have H1 : (if t166 = true then (if 0 ≤ (wrap64 (t167 - 2)) then (if (wrap64 (t167 - 2)) < (a0.size : Int) then (flaillaw08_AttrsUnlike.j2 kj11 t164 t165 ((bt a0 (wrap64 (t167 - 2))) != 47)) else (none)) else (none)) else (flaillaw08_AttrsUnlike.j2 kj11 t164 t165 false)) = some r := by rw [if_neg (show ¬ (false = true) by decide)] at H; exact H
                  clear H
                  have H := H1
                  clear H1
                  have HC20 := Aside0.mk H
                  clear H
                  go_upto_region 11 with (fail)
                  repeat (go_quiet (fail); go_upto_region 11 with (fail))
                  go_cut [69] (fun v69 wc => ∃ (kq : Nat) (x69_19 : Bool), v69 = .bool x69_19 ∧ Aside0 (flaillaw08_AttrsUnlike.j2 kq t164 t165 x69_19 = some r) ∧ Aside0 (kq ≤ kj11) ∧ Aside0 (Kd.R k27 27 wc w.heap.size (fun _ => True) v169 t165) ∧ Aside0 (Below w.heap.size w wc))
                  case first =>
                    have H := HC20.out
                    clear HC20
                    by_cases c21 : t166 = true
                    · subst c21
                      have H1 : (if 0 ≤ (wrap64 (t167 - 2)) then (if (wrap64 (t167 - 2)) < (a0.size : Int) then (flaillaw08_AttrsUnlike.j2 kj11 t164 t165 ((bt a0 (wrap64 (t167 - 2))) != 47)) else (none)) else (none)) = some r := by rw [if_pos rfl] at H; exact H
                      clear H
                      have H := H1
                      clear H1
                      obtain ⟨ji22, hji22⟩ : ∃ j_ : Int, (wrap64 (t167 - 2)) = j_ := ⟨_, rfl⟩
                      replace H : (if 0 ≤ (ji22) then (if (ji22) < (a0.size : Int) then (flaillaw08_AttrsUnlike.j2 kj11 t164 t165 ((bt a0 (ji22)) != 47)) else (none)) else (none)) = some r := by first | (rw [hji22] at H; exact H) | (simp only [hji22] at H ⊢; exact H)
                      have hji22w : (IntKind.i64.wrap (t167 - 2)) = ji22 := (i64_w _).trans hji22
                      by_cases c23 : 0 ≤ (ji22)
                      · rw [if_pos c23] at H
                        have c23b0 : decide (0 ≤ (ji22)) = true := decide_eq_true c23
                        clear c23
                        (first | rw [c23b0] | (simp only [i64_w, i32_w]; rw [c23b0]) | skip)
                        by_cases c24 : (ji22) < (a0.size : Int)
                        · rw [if_pos c24] at H
                          have c24b0 : decide ((ji22) < (a0.size : Int)) = true := decide_eq_true c24
                          clear c24
                          have H' := Aside0.mk H
                          clear H
                          have p25 : 0 ≤ ((ji22) : Int) := of_decide_eq_true (by first | (with_reducible assumption) | assumption)
                          have q25 : (ji22) < (a0.size : Int) := of_decide_eq_true (by first | (with_reducible assumption) | assumption)
                          have hx25 := bt_at a0 (ji22)
                          replace p25 := eq_true p25
                          replace q25 := eq_true q25
                          go_wp2
                          repeat (go_quiet (fail); try go_wp2)
                          go_meet
                          case rel => exact ⟨_, (((bt a0 (ji22)) != 47)), (by first | rfl | (simp; done) | (simp only [← hji22] <;> (first | rfl | simp)) | (simp [*]; done)), H', ⟨by have := HJ6.out; have := HJ11.out; first | omega | exact Nat.le_refl _⟩, ⟨by (with_reducible repeat (first | apply Kd.R_alloc | apply Kd.R_drewN | apply Kd.R_drew)); exact HO_4.out⟩, ⟨by repeat (first | (with_reducible first | exact HB.out | apply below_alloc | apply pw_below_drewN | apply below_drew1) | exact HB.out)⟩⟩
                        · rw [if_neg c24] at H
                          exact absurd H (by simp)
                      · rw [if_neg c23] at H
                        exact absurd H (by simp)
                    · replace c21 := Bool.eq_false_iff.mpr c21
                      subst c21
                      have H1 : (flaillaw08_AttrsUnlike.j2 kj11 t164 t165 false) = some r := by rw [if_neg (show ¬ (false = true) by decide)] at H; exact H
                      clear H
                      have H := H1
                      clear H1
                      have H' := Aside0.mk H
                      clear H
                      go_wp2
                      repeat (go_quiet (fail); try go_wp2)
                      go_meet
                      case rel => exact ⟨_, (false), (by first | rfl | (simp; done) | (simp [*]; done)), H', ⟨by have := HJ6.out; have := HJ11.out; first | omega | exact Nat.le_refl _⟩, ⟨by (with_reducible repeat (first | apply Kd.R_alloc | apply Kd.R_drewN | apply Kd.R_drew)); exact HO_4.out⟩, ⟨by repeat (first | (with_reducible first | exact HB.out | apply below_alloc | apply pw_below_drewN | apply below_drew1) | exact HB.out)⟩⟩
                  case rest =>
                    clear HC20
                    try clear c1
                    try clear p1
                    try clear q1
                    try clear hx1
                    try clear c2
                    try clear p2
                    try clear q2
                    try clear hx2
                    try clear c3
                    try clear c3b0
                    try clear c3b1
                    try clear c6
                    try clear p6
                    try clear c10
                    try clear c10b0
                    try clear c11
                    try clear c14
                    try clear c14b0
                    try clear c15
                    try clear c15b0
                    try clear p16
                    try clear q16
                    try clear hx16
                    try clear c17
                    try clear c17b0
                    try clear c17b1
                    try clear c18
                    try clear c19
                    try clear c21
                    try clear c23
                    try clear c23b0
                    try clear c24
                    try clear c24b0
                    try clear p25
                    try clear q25
                    try clear hx25
                    try clear p1
                    try clear p16
                    try clear p2
                    try clear p25
                    try clear p6
                    try clear q1
                    try clear q16
                    try clear q25
                    obtain ⟨kq, x69_19, rfl, HA, HJ19, HO_4, HB⟩ := hcut
                    cases kq with
                    | zero => exact absurd HA.out (by simp [flaillaw08_AttrsUnlike.j2])
                    | succ kj19 =>
                      have H := HA.out
                      clear HA
                      simp only [flaillaw08_AttrsUnlike.j2] at H
                      by_cases c26 : x69_19 = true
                      · subst c26
                        have H1 : (some false) = some r := by rw [if_pos rfl] at H; exact H
                        clear H
                        have H := H1
                        clear H1
                        obtain rfl := Option.some.inj H
                        go_wp2
                        repeat (go_quiet (fail); try go_wp2)
                        go_ret
                        exact ⟨by first | rfl | (simp [errW_none, errW_some] <;> rfl) | (simp [*, errW_none, errW_some] <;> rfl), by repeat (first | (with_reducible first | exact HB.out | apply below_alloc | apply pw_below_drewN | apply below_drew1) | exact HB.out)⟩
                      · replace c26 := Bool.eq_false_iff.mpr c26
                        subst c26
                        have H1 : (flaillaw08_AttrsUnlike.l0 kj19 t164 t165 0) = some r := by rw [if_neg (show ¬ (false = true) by decide)] at H; exact H
                        clear H
                        have H := H1
                        clear H1
                        have H' := Aside0.mk H
                        clear H
                        go_wp2
                        repeat (go_quiet (fail); try go_wp2)
                        go_loopg [8] kj19 (fun kq v8 w' => ∃ (x8_4 : Int), v8 = .int .i64 x8_4 ∧ Aside0 (flaillaw08_AttrsUnlike.l0 kq t164 t165 x8_4 = some r) ∧ Aside0 (kq ≤ kj19) ∧ Aside0 (Kd.R k27 27 w' w.heap.size (fun _ => True) v169 t165) ∧ Aside0 (Below w.heap.size w w'))
                        case atStart => exact ⟨(0), (by first | rfl | (simp; done) | (simp [*]; done)), H', ⟨Nat.le_refl _⟩, ⟨by (with_reducible repeat (first | apply Kd.R_alloc | apply Kd.R_drewN | apply Kd.R_drew)); exact HO_4.out⟩, ⟨by repeat (first | (with_reducible first | exact HB.out | apply below_alloc | apply pw_below_drewN | apply below_drew1) | exact HB.out)⟩⟩
                        case round =>
                          clear H'
                          try clear c1
                          try clear p1
                          try clear q1
                          try clear hx1
                          try clear c2
                          try clear p2
                          try clear q2
                          try clear hx2
                          try clear c3
                          try clear c3b0
                          try clear c3b1
                          try clear c6
                          try clear p6
                          try clear c10
                          try clear c10b0
                          try clear c11
                          try clear c14
                          try clear c14b0
                          try clear c15
                          try clear c15b0
                          try clear p16
                          try clear q16
                          try clear hx16
                          try clear c17
                          try clear c17b0
                          try clear c17b1
                          try clear c18
                          try clear c19
                          try clear c21
                          try clear c23
                          try clear c23b0
                          try clear c24
                          try clear c24b0
                          try clear p25
                          try clear q25
                          try clear hx25
                          try clear c26
                          try clear p1
                          try clear p16
                          try clear p2
                          try clear p25
                          try clear p6
                          try clear q1
                          try clear q16
                          try clear q2
                          try clear q25
                          obtain ⟨x8_4, rfl, HA, HK4, HO_4, HB⟩ := hrel
                          cases gk with
                          | zero => exact absurd HA.out (by simp [flaillaw08_AttrsUnlike.l0])
                          | succ k4 =>
                            have H := HA.out
                            clear HA
                            simp only [flaillaw08_AttrsUnlike.l0] at H
                            by_cases c27 : x8_4 < (t165.length : Int)
                            · rw [if_pos c27] at H
                              have c27b0 : decide (x8_4 < (t165.length : Int)) = true := decide_eq_true c27
                              clear c27
                              by_cases c28 : 0 ≤ x8_4
                              · rw [if_pos c28] at H
                                have c28b0 : decide (0 ≤ x8_4) = true := decide_eq_true c28
                                clear c28
                                by_cases c29 : ((rd_T27 t165 x8_4).f0).toList = ([] : List UInt8)
                                · rw [if_pos c29] at H
                                  have c29b0 : (((rd_T27 t165 x8_4).f0).toList == ([] : List UInt8)) = true := beq_iff_eq.mpr c29
                                  have c29b1 : (((rd_T27 t165 x8_4).f0).toList != ([] : List UInt8)) = false := bne_eq_false_iff_eq.mpr c29
                                  clear c29
                                  obtain rfl := Option.some.inj H
                                  obtain ⟨Ao30, co30, eo30⟩ := Kd.R_slice HO_4.out
                                  subst eo30
                                  have p171 : 0 ≤ (x8_4 : Int) := of_decide_eq_true (by first | (with_reducible assumption) | assumption)
                                  have q171 : x8_4 < (t165.length : Int) := of_decide_eq_true (by first | (with_reducible assumption) | assumption)
                                  obtain ⟨ad171, e171, hx171_0, hx171_1⟩ := at_T27 (Kd.R_reads' HO_4.out).2.2 x8_4 p171 q171
                                  cases e171
                                  replace p171 := eq_true p171
                                  replace q171 := eq_true q171
                                  go_wp2
                                  repeat (go_quiet (fail); try go_wp2)
                                  go_ret
                                  exact ⟨by first | rfl | (simp [errW_none, errW_some] <;> rfl) | (simp [*, errW_none, errW_some] <;> rfl), by repeat (first | (with_reducible first | exact HB.out | apply below_alloc | apply pw_below_drewN | apply below_drew1) | exact HB.out)⟩
                                · rw [if_neg c29] at H
                                  have c29b0 : (((rd_T27 t165 x8_4).f0).toList == ([] : List UInt8)) = false := beq_eq_false_iff_ne.mpr c29
                                  have c29b1 : (((rd_T27 t165 x8_4).f0).toList != ([] : List UInt8)) = true := bne_iff_ne.mpr c29
                                  have H' := Aside0.mk H
                                  clear H
                                  obtain ⟨Ao31, co31, eo31⟩ := Kd.R_slice HO_4.out
                                  subst eo31
                                  have p171 : 0 ≤ (x8_4 : Int) := of_decide_eq_true (by first | (with_reducible assumption) | assumption)
                                  have q171 : x8_4 < (t165.length : Int) := of_decide_eq_true (by first | (with_reducible assumption) | assumption)
                                  obtain ⟨ad171, e171, hx171_0, hx171_1⟩ := at_T27 (Kd.R_reads' HO_4.out).2.2 x8_4 p171 q171
                                  cases e171
                                  replace p171 := eq_true p171
                                  replace q171 := eq_true q171
                                  go_wp2
                                  repeat (go_quiet (fail); try go_wp2)
                                  go_loopg [9] k4 (fun kq v9 w' => ∃ (x9_5 : Int), v9 = .int .i64 x9_5 ∧ Aside0 (flaillaw08_AttrsUnlike.l1 kq t164 t165 x8_4 x9_5 = some r) ∧ Aside0 (kq ≤ k4) ∧ Aside0 (Kd.R k27 27 w' w.heap.size (fun _ => True) (.slice (some ad171) t165.length co31) t165) ∧ Aside0 (Below w.heap.size w w'))
                                  case atStart => exact ⟨(0), (by first | rfl | (simp; done) | (simp [*]; done)), H', ⟨Nat.le_refl _⟩, ⟨by (with_reducible repeat (first | apply Kd.R_alloc | apply Kd.R_drewN | apply Kd.R_drew)); exact HO_4.out⟩, ⟨by repeat (first | (with_reducible first | exact HB.out | apply below_alloc | apply pw_below_drewN | apply below_drew1) | exact HB.out)⟩⟩
                                  case round =>
                                    clear H'
                                    try clear c1
                                    try clear p1
                                    try clear q1
                                    try clear hx1
                                    try clear c2
                                    try clear p2
                                    try clear q2
                                    try clear hx2
                                    try clear c3
                                    try clear c3b0
                                    try clear c3b1
                                    try clear c6
                                    try clear p6
                                    try clear c10
                                    try clear c10b0
                                    try clear c11
                                    try clear c14
                                    try clear c14b0
                                    try clear c15
                                    try clear c15b0
                                    try clear p16
                                    try clear q16
                                    try clear hx16
                                    try clear c17
                                    try clear c17b0
                                    try clear c17b1
                                    try clear p17
                                    try clear q17
                                    try clear hx17
                                    try clear c18
                                    try clear c19
                                    try clear c21
                                    try clear c23
                                    try clear c23b0
                                    try clear c24
                                    try clear c24b0
                                    try clear p25
                                    try clear q25
                                    try clear hx25
                                    try clear c26
                                    try clear c27
                                    try clear c27b0
                                    try clear c28
                                    try clear c28b0
                                    try clear c29
                                    try clear c29b0
                                    try clear c29b1
                                    try clear hx171_0
                                    try clear hx171_1
                                    try clear p1
                                    try clear p16
                                    try clear p171
                                    try clear p2
                                    try clear p25
                                    try clear p6
                                    try clear q1
                                    try clear q16
                                    try clear q171
                                    try clear q2
                                    try clear q25
                                    obtain ⟨x9_5, rfl, HA, HK5, HO_4, HB⟩ := hrel
                                    cases gk with
                                    | zero => exact absurd HA.out (by simp [flaillaw08_AttrsUnlike.l1])
                                    | succ k5 =>
                                      have H := HA.out
                                      clear HA
                                      simp only [flaillaw08_AttrsUnlike.l1] at H
                                      by_cases c32 : x9_5 < x8_4
                                      · rw [if_pos c32] at H
                                        have c32b0 : decide (x9_5 < x8_4) = true := decide_eq_true c32
                                        clear c32
                                        by_cases c33 : 0 ≤ x9_5
                                        · rw [if_pos c33] at H
                                          have c33b0 : decide (0 ≤ x9_5) = true := decide_eq_true c33
                                          clear c33
                                          by_cases c34 : x9_5 < (t165.length : Int)
                                          · rw [if_pos c34] at H
                                            have c34b0 : decide (x9_5 < (t165.length : Int)) = true := decide_eq_true c34
                                            clear c34
                                            by_cases c35 : 0 ≤ x8_4
                                            · rw [if_pos c35] at H
                                              have c35b0 : decide (0 ≤ x8_4) = true := decide_eq_true c35
                                              clear c35
                                              by_cases c36 : x8_4 < (t165.length : Int)
                                              · rw [if_pos c36] at H
                                                have c36b0 : decide (x8_4 < (t165.length : Int)) = true := decide_eq_true c36
                                                clear c36
                                                by_cases c37 : ((rd_T27 t165 x9_5).f0).toList = ((rd_T27 t165 x8_4).f0).toList
                                                · rw [if_pos c37] at H
                                                  have c37b0 : (((rd_T27 t165 x9_5).f0).toList == ((rd_T27 t165 x8_4).f0).toList) = true := beq_iff_eq.mpr c37
                                                  have c37b1 : (((rd_T27 t165 x9_5).f0).toList != ((rd_T27 t165 x8_4).f0).toList) = false := bne_eq_false_iff_eq.mpr c37
                                                  clear c37
                                                  obtain rfl := Option.some.inj H
                                                  have p172 : 0 ≤ (x9_5 : Int) := of_decide_eq_true (by first | (with_reducible assumption) | assumption)
                                                  have q172 : x9_5 < (t165.length : Int) := of_decide_eq_true (by first | (with_reducible assumption) | assumption)
                                                  obtain ⟨ad172, e172, hx172_0, hx172_1⟩ := at_T27 (Kd.R_reads' HO_4.out).2.2 x9_5 p172 q172
                                                  obtain rfl : ad171 = ad172 := (by injection e172)
                                                  replace p172 := eq_true p172
                                                  replace q172 := eq_true q172
                                                  have p173 : 0 ≤ (x8_4 : Int) := of_decide_eq_true (by first | (with_reducible assumption) | assumption)
                                                  have q173 : x8_4 < (t165.length : Int) := of_decide_eq_true (by first | (with_reducible assumption) | assumption)
                                                  obtain ⟨ad173, e173, hx173_0, hx173_1⟩ := at_T27 (Kd.R_reads' HO_4.out).2.2 x8_4 p173 q173
                                                  obtain rfl : ad171 = ad173 := (by injection e173)
                                                  replace p173 := eq_true p173
                                                  replace q173 := eq_true q173
                                                  go_wp2
                                                  repeat (go_quiet (fail); try go_wp2)
                                                  go_ret
                                                  exact ⟨by first | rfl | (simp [errW_none, errW_some] <;> rfl) | (simp [*, errW_none, errW_some] <;> rfl), by repeat (first | (with_reducible first | exact HB.out | apply below_alloc | apply pw_below_drewN | apply below_drew1) | exact HB.out)⟩
                                                · rw [if_neg c37] at H
                                                  have c37b0 : (((rd_T27 t165 x9_5).f0).toList == ((rd_T27 t165 x8_4).f0).toList) = false := beq_eq_false_iff_ne.mpr c37
                                                  have c37b1 : (((rd_T27 t165 x9_5).f0).toList != ((rd_T27 t165 x8_4).f0).toList) = true := bne_iff_ne.mpr c37
                                                  have H' := Aside0.mk H
                                                  clear H
                                                  have p172 : 0 ≤ (x9_5 : Int) := of_decide_eq_true (by first | (with_reducible assumption) | assumption)
                                                  have q172 : x9_5 < (t165.length : Int) := of_decide_eq_true (by first | (with_reducible assumption) | assumption)
                                                  obtain ⟨ad172, e172, hx172_0, hx172_1⟩ := at_T27 (Kd.R_reads' HO_4.out).2.2 x9_5 p172 q172
                                                  obtain rfl : ad171 = ad172 := (by injection e172)
                                                  replace p172 := eq_true p172
                                                  replace q172 := eq_true q172
                                                  have p173 : 0 ≤ (x8_4 : Int) := of_decide_eq_true (by first | (with_reducible assumption) | assumption)
                                                  have q173 : x8_4 < (t165.length : Int) := of_decide_eq_true (by first | (with_reducible assumption) | assumption)
                                                  obtain ⟨ad173, e173, hx173_0, hx173_1⟩ := at_T27 (Kd.R_reads' HO_4.out).2.2 x8_4 p173 q173
                                                  obtain rfl : ad171 = ad173 := (by injection e173)
                                                  replace p173 := eq_true p173
                                                  replace q173 := eq_true q173
                                                  go_wp2
                                                  repeat (go_quiet (fail); try go_wp2)
                                                  go_roundg k5
                                                  case measure => have := HJ6.out; have := HJ11.out; have := HJ19.out; have := HK4.out; have := HK5.out; omega
                                                  case rel => exact ⟨(wrap64 (x9_5 + 1)), (by first | rfl | (simp; done) | (simp [*]; done)), H', ⟨by have := HJ6.out; have := HJ11.out; have := HJ19.out; have := HK4.out; have := HK5.out; omega⟩, ⟨by (with_reducible repeat (first | apply Kd.R_alloc | apply Kd.R_drewN | apply Kd.R_drew)); exact HO_4.out⟩, ⟨by repeat (first | (with_reducible first | exact HB.out | apply below_alloc | apply pw_below_drewN | apply below_drew1) | exact HB.out)⟩⟩
                                              · rw [if_neg c36] at H
                                                exact absurd H (by simp)
                                            · rw [if_neg c35] at H
                                              exact absurd H (by simp)
                                          · rw [if_neg c34] at H
                                            exact absurd H (by simp)
                                        · rw [if_neg c33] at H
                                          exact absurd H (by simp)
                                      · rw [if_neg c32] at H
                                        have c32b0 : decide (x9_5 < x8_4) = false := decide_eq_false c32
                                        clear c32
                                        have H' := Aside0.mk H
                                        clear H
                                        go_wp2
                                        repeat (go_quiet (fail); try go_wp2)
                                        go_loopg [10] k5 (fun kq v10 w' => ∃ (x10_6 : Int), v10 = .int .i64 x10_6 ∧ Aside0 (flaillaw08_AttrsUnlike.l2 kq t164 t165 x8_4 x10_6 = some r) ∧ Aside0 (kq ≤ k5) ∧ Aside0 (Kd.R k27 27 w' w.heap.size (fun _ => True) (.slice (some ad171) t165.length co31) t165) ∧ Aside0 (Below w.heap.size w w'))
                                        case atStart => exact ⟨(0), (by first | rfl | (simp; done) | (simp [*]; done)), H', ⟨Nat.le_refl _⟩, ⟨by (with_reducible repeat (first | apply Kd.R_alloc | apply Kd.R_drewN | apply Kd.R_drew)); exact HO_4.out⟩, ⟨by repeat (first | (with_reducible first | exact HB.out | apply below_alloc | apply pw_below_drewN | apply below_drew1) | exact HB.out)⟩⟩
                                        case round =>
                                          clear H'
                                          try clear c1
                                          try clear p1
                                          try clear q1
                                          try clear hx1
                                          try clear c2
                                          try clear p2
                                          try clear q2
                                          try clear hx2
                                          try clear c3
                                          try clear c3b0
                                          try clear c3b1
                                          try clear c6
                                          try clear p6
                                          try clear c10
                                          try clear c10b0
                                          try clear c11
                                          try clear c14
                                          try clear c14b0
                                          try clear c15
                                          try clear c15b0
                                          try clear p16
                                          try clear q16
                                          try clear hx16
                                          try clear c17
                                          try clear c17b0
                                          try clear c17b1
                                          try clear p17
                                          try clear q17
                                          try clear hx17
                                          try clear c18
                                          try clear c19
                                          try clear c21
                                          try clear c23
                                          try clear c23b0
                                          try clear c24
                                          try clear c24b0
                                          try clear p25
                                          try clear q25
                                          try clear hx25
                                          try clear c26
                                          try clear c27
                                          try clear c27b0
                                          try clear c28
                                          try clear c28b0
                                          try clear c29
                                          try clear c29b0
                                          try clear c29b1
                                          try clear c32
                                          try clear c32b0
                                          try clear c33
                                          try clear c33b0
                                          try clear c34
                                          try clear c34b0
                                          try clear c35
                                          try clear c35b0
                                          try clear c36
                                          try clear c36b0
                                          try clear c37
                                          try clear c37b0
                                          try clear c37b1
                                          try clear hx171_0
                                          try clear hx171_1
                                          try clear hx172_0
                                          try clear hx172_1
                                          try clear hx173_0
                                          try clear hx173_1
                                          try clear p1
                                          try clear p16
                                          try clear p17
                                          try clear p171
                                          try clear p172
                                          try clear p173
                                          try clear p2
                                          try clear p25
                                          try clear p6
                                          try clear q1
                                          try clear q16
                                          try clear q17
                                          try clear q171
                                          try clear q172
                                          try clear q173
                                          try clear q2
                                          try clear q25
                                          obtain ⟨x10_6, rfl, HA, HK6, HO_4, HB⟩ := hrel
                                          cases gk with
                                          | zero => exact absurd HA.out (by simp [flaillaw08_AttrsUnlike.l2])
                                          | succ k6 =>
                                            have H := HA.out
                                            clear HA
                                            simp only [flaillaw08_AttrsUnlike.l2] at H
                                            by_cases c38 : 0 ≤ x8_4
                                            · rw [if_pos c38] at H
                                              have c38b0 : decide (0 ≤ x8_4) = true := decide_eq_true c38
                                              clear c38
                                              by_cases c39 : x8_4 < (t165.length : Int)
                                              · rw [if_pos c39] at H
                                                have c39b0 : decide (x8_4 < (t165.length : Int)) = true := decide_eq_true c39
                                                clear c39
                                                by_cases c40 : x10_6 < (((rd_T27 t165 x8_4).f0).size : Int)
                                                · rw [if_pos c40] at H
                                                  have c40b0 : decide (x10_6 < (((rd_T27 t165 x8_4).f0).size : Int)) = true := decide_eq_true c40
                                                  clear c40
                                                  by_cases c41 : 0 ≤ x10_6
                                                  · rw [if_pos c41] at H
                                                    have c41b0 : decide (0 ≤ x10_6) = true := decide_eq_true c41
                                                    clear c41
                                                    by_cases c43 : (bt ((rd_T27 t165 x8_4).f0) x10_6) = 32
                                                    · rw [if_pos c43] at H
                                                      have c43b0 : ((bt ((rd_T27 t165 x8_4).f0) x10_6) == 32) = true := beq_iff_eq.mpr c43
                                                      have c43b1 : ((bt ((rd_T27 t165 x8_4).f0) x10_6) != 32) = false := bne_eq_false_iff_eq.mpr c43
                                                      clear c43
                                                      obtain rfl := Option.some.inj H
                                                      have p174 : 0 ≤ (x8_4 : Int) := of_decide_eq_true (by first | (with_reducible assumption) | assumption)
                                                      have q174 : x8_4 < (t165.length : Int) := of_decide_eq_true (by first | (with_reducible assumption) | assumption)
                                                      obtain ⟨ad174, e174, hx174_0, hx174_1⟩ := at_T27 (Kd.R_reads' HO_4.out).2.2 x8_4 p174 q174
                                                      obtain rfl : ad171 = ad174 := (by injection e174)
                                                      replace p174 := eq_true p174
                                                      replace q174 := eq_true q174
                                                      have p175 : 0 ≤ (x8_4 : Int) := of_decide_eq_true (by first | (with_reducible assumption) | assumption)
                                                      have q175 : x8_4 < (t165.length : Int) := of_decide_eq_true (by first | (with_reducible assumption) | assumption)
                                                      obtain ⟨ad175, e175, hx175_0, hx175_1⟩ := at_T27 (Kd.R_reads' HO_4.out).2.2 x8_4 p175 q175
                                                      obtain rfl : ad171 = ad175 := (by injection e175)
                                                      replace p175 := eq_true p175
                                                      replace q175 := eq_true q175
                                                      have p42 : 0 ≤ (x10_6 : Int) := of_decide_eq_true (by first | (with_reducible assumption) | assumption)
                                                      have q42 : x10_6 < (((rd_T27 t165 x8_4).f0).size : Int) := of_decide_eq_true (by first | (with_reducible assumption) | assumption)
                                                      have hx42 := bt_at ((rd_T27 t165 x8_4).f0) x10_6
                                                      replace p42 := eq_true p42
                                                      replace q42 := eq_true q42
                                                      go_wp2
                                                      repeat (go_quiet (fail); try go_wp2)
                                                      go_ret
                                                      exact ⟨by first | rfl | (simp [errW_none, errW_some] <;> rfl) | (simp [*, errW_none, errW_some] <;> rfl), by repeat (first | (with_reducible first | exact HB.out | apply below_alloc | apply pw_below_drewN | apply below_drew1) | exact HB.out)⟩
                                                    · rw [if_neg c43] at H
                                                      have c43b0 : ((bt ((rd_T27 t165 x8_4).f0) x10_6) == 32) = false := beq_eq_false_iff_ne.mpr c43
                                                      have c43b1 : ((bt ((rd_T27 t165 x8_4).f0) x10_6) != 32) = true := bne_iff_ne.mpr c43
                                                      by_cases c44 : (bt ((rd_T27 t165 x8_4).f0) x10_6) = 10
                                                      · rw [if_pos c44] at H
                                                        have c44b0 : ((bt ((rd_T27 t165 x8_4).f0) x10_6) == 10) = true := beq_iff_eq.mpr c44
                                                        have c44b1 : ((bt ((rd_T27 t165 x8_4).f0) x10_6) != 10) = false := bne_eq_false_iff_eq.mpr c44
                                                        clear c44
                                                        obtain rfl := Option.some.inj H
                                                        have p174 : 0 ≤ (x8_4 : Int) := of_decide_eq_true (by first | (with_reducible assumption) | assumption)
                                                        have q174 : x8_4 < (t165.length : Int) := of_decide_eq_true (by first | (with_reducible assumption) | assumption)
                                                        obtain ⟨ad174, e174, hx174_0, hx174_1⟩ := at_T27 (Kd.R_reads' HO_4.out).2.2 x8_4 p174 q174
                                                        obtain rfl : ad171 = ad174 := (by injection e174)
                                                        replace p174 := eq_true p174
                                                        replace q174 := eq_true q174
                                                        have p175 : 0 ≤ (x8_4 : Int) := of_decide_eq_true (by first | (with_reducible assumption) | assumption)
                                                        have q175 : x8_4 < (t165.length : Int) := of_decide_eq_true (by first | (with_reducible assumption) | assumption)
                                                        obtain ⟨ad175, e175, hx175_0, hx175_1⟩ := at_T27 (Kd.R_reads' HO_4.out).2.2 x8_4 p175 q175
                                                        obtain rfl : ad171 = ad175 := (by injection e175)
                                                        replace p175 := eq_true p175
                                                        replace q175 := eq_true q175
                                                        have p42 : 0 ≤ (x10_6 : Int) := of_decide_eq_true (by first | (with_reducible assumption) | assumption)
                                                        have q42 : x10_6 < (((rd_T27 t165 x8_4).f0).size : Int) := of_decide_eq_true (by first | (with_reducible assumption) | assumption)
                                                        have hx42 := bt_at ((rd_T27 t165 x8_4).f0) x10_6
                                                        replace p42 := eq_true p42
                                                        replace q42 := eq_true q42
                                                        go_wp2
                                                        repeat (go_quiet (fail); try go_wp2)
                                                        go_ret
                                                        exact ⟨by first | rfl | (simp [errW_none, errW_some] <;> rfl) | (simp [*, errW_none, errW_some] <;> rfl), by repeat (first | (with_reducible first | exact HB.out | apply below_alloc | apply pw_below_drewN | apply below_drew1) | exact HB.out)⟩
                                                      · rw [if_neg c44] at H
                                                        have c44b0 : ((bt ((rd_T27 t165 x8_4).f0) x10_6) == 10) = false := beq_eq_false_iff_ne.mpr c44
                                                        have c44b1 : ((bt ((rd_T27 t165 x8_4).f0) x10_6) != 10) = true := bne_iff_ne.mpr c44
                                                        by_cases c45 : (bt ((rd_T27 t165 x8_4).f0) x10_6) = 9
                                                        · rw [if_pos c45] at H
                                                          have c45b0 : ((bt ((rd_T27 t165 x8_4).f0) x10_6) == 9) = true := beq_iff_eq.mpr c45
                                                          have c45b1 : ((bt ((rd_T27 t165 x8_4).f0) x10_6) != 9) = false := bne_eq_false_iff_eq.mpr c45
                                                          clear c45
                                                          obtain rfl := Option.some.inj H
                                                          have p174 : 0 ≤ (x8_4 : Int) := of_decide_eq_true (by first | (with_reducible assumption) | assumption)
                                                          have q174 : x8_4 < (t165.length : Int) := of_decide_eq_true (by first | (with_reducible assumption) | assumption)
                                                          obtain ⟨ad174, e174, hx174_0, hx174_1⟩ := at_T27 (Kd.R_reads' HO_4.out).2.2 x8_4 p174 q174
                                                          obtain rfl : ad171 = ad174 := (by injection e174)
                                                          replace p174 := eq_true p174
                                                          replace q174 := eq_true q174
                                                          have p175 : 0 ≤ (x8_4 : Int) := of_decide_eq_true (by first | (with_reducible assumption) | assumption)
                                                          have q175 : x8_4 < (t165.length : Int) := of_decide_eq_true (by first | (with_reducible assumption) | assumption)
                                                          obtain ⟨ad175, e175, hx175_0, hx175_1⟩ := at_T27 (Kd.R_reads' HO_4.out).2.2 x8_4 p175 q175
                                                          obtain rfl : ad171 = ad175 := (by injection e175)
                                                          replace p175 := eq_true p175
                                                          replace q175 := eq_true q175
                                                          have p42 : 0 ≤ (x10_6 : Int) := of_decide_eq_true (by first | (with_reducible assumption) | assumption)
                                                          have q42 : x10_6 < (((rd_T27 t165 x8_4).f0).size : Int) := of_decide_eq_true (by first | (with_reducible assumption) | assumption)
                                                          have hx42 := bt_at ((rd_T27 t165 x8_4).f0) x10_6
                                                          replace p42 := eq_true p42
                                                          replace q42 := eq_true q42
                                                          go_wp2
                                                          repeat (go_quiet (fail); try go_wp2)
                                                          go_ret
                                                          exact ⟨by first | rfl | (simp [errW_none, errW_some] <;> rfl) | (simp [*, errW_none, errW_some] <;> rfl), by repeat (first | (with_reducible first | exact HB.out | apply below_alloc | apply pw_below_drewN | apply below_drew1) | exact HB.out)⟩
                                                        · rw [if_neg c45] at H
                                                          have c45b0 : ((bt ((rd_T27 t165 x8_4).f0) x10_6) == 9) = false := beq_eq_false_iff_ne.mpr c45
                                                          have c45b1 : ((bt ((rd_T27 t165 x8_4).f0) x10_6) != 9) = true := bne_iff_ne.mpr c45
                                                          by_cases c46 : (bt ((rd_T27 t165 x8_4).f0) x10_6) = 12
                                                          · rw [if_pos c46] at H
                                                            have c46b0 : ((bt ((rd_T27 t165 x8_4).f0) x10_6) == 12) = true := beq_iff_eq.mpr c46
                                                            have c46b1 : ((bt ((rd_T27 t165 x8_4).f0) x10_6) != 12) = false := bne_eq_false_iff_eq.mpr c46
                                                            clear c46
                                                            obtain rfl := Option.some.inj H
                                                            have p174 : 0 ≤ (x8_4 : Int) := of_decide_eq_true (by first | (with_reducible assumption) | assumption)
                                                            have q174 : x8_4 < (t165.length : Int) := of_decide_eq_true (by first | (with_reducible assumption) | assumption)
                                                            obtain ⟨ad174, e174, hx174_0, hx174_1⟩ := at_T27 (Kd.R_reads' HO_4.out).2.2 x8_4 p174 q174
                                                            obtain rfl : ad171 = ad174 := (by injection e174)
                                                            replace p174 := eq_true p174
                                                            replace q174 := eq_true q174
                                                            have p175 : 0 ≤ (x8_4 : Int) := of_decide_eq_true (by first | (with_reducible assumption) | assumption)
                                                            have q175 : x8_4 < (t165.length : Int) := of_decide_eq_true (by first | (with_reducible assumption) | assumption)
                                                            obtain ⟨ad175, e175, hx175_0, hx175_1⟩ := at_T27 (Kd.R_reads' HO_4.out).2.2 x8_4 p175 q175
                                                            obtain rfl : ad171 = ad175 := (by injection e175)
                                                            replace p175 := eq_true p175
                                                            replace q175 := eq_true q175
                                                            have p42 : 0 ≤ (x10_6 : Int) := of_decide_eq_true (by first | (with_reducible assumption) | assumption)
                                                            have q42 : x10_6 < (((rd_T27 t165 x8_4).f0).size : Int) := of_decide_eq_true (by first | (with_reducible assumption) | assumption)
                                                            have hx42 := bt_at ((rd_T27 t165 x8_4).f0) x10_6
                                                            replace p42 := eq_true p42
                                                            replace q42 := eq_true q42
                                                            go_wp2
                                                            repeat (go_quiet (fail); try go_wp2)
                                                            go_ret
                                                            exact ⟨by first | rfl | (simp [errW_none, errW_some] <;> rfl) | (simp [*, errW_none, errW_some] <;> rfl), by repeat (first | (with_reducible first | exact HB.out | apply below_alloc | apply pw_below_drewN | apply below_drew1) | exact HB.out)⟩
                                                          · rw [if_neg c46] at H
                                                            have c46b0 : ((bt ((rd_T27 t165 x8_4).f0) x10_6) == 12) = false := beq_eq_false_iff_ne.mpr c46
                                                            have c46b1 : ((bt ((rd_T27 t165 x8_4).f0) x10_6) != 12) = true := bne_iff_ne.mpr c46
                                                            by_cases c47 : (bt ((rd_T27 t165 x8_4).f0) x10_6) = 47
                                                            · rw [if_pos c47] at H
                                                              have c47b0 : ((bt ((rd_T27 t165 x8_4).f0) x10_6) == 47) = true := beq_iff_eq.mpr c47
                                                              have c47b1 : ((bt ((rd_T27 t165 x8_4).f0) x10_6) != 47) = false := bne_eq_false_iff_eq.mpr c47
                                                              clear c47
                                                              obtain rfl := Option.some.inj H
                                                              have p174 : 0 ≤ (x8_4 : Int) := of_decide_eq_true (by first | (with_reducible assumption) | assumption)
                                                              have q174 : x8_4 < (t165.length : Int) := of_decide_eq_true (by first | (with_reducible assumption) | assumption)
                                                              obtain ⟨ad174, e174, hx174_0, hx174_1⟩ := at_T27 (Kd.R_reads' HO_4.out).2.2 x8_4 p174 q174
                                                              obtain rfl : ad171 = ad174 := (by injection e174)
                                                              replace p174 := eq_true p174
                                                              replace q174 := eq_true q174
                                                              have p175 : 0 ≤ (x8_4 : Int) := of_decide_eq_true (by first | (with_reducible assumption) | assumption)
                                                              have q175 : x8_4 < (t165.length : Int) := of_decide_eq_true (by first | (with_reducible assumption) | assumption)
                                                              obtain ⟨ad175, e175, hx175_0, hx175_1⟩ := at_T27 (Kd.R_reads' HO_4.out).2.2 x8_4 p175 q175
                                                              obtain rfl : ad171 = ad175 := (by injection e175)
                                                              replace p175 := eq_true p175
                                                              replace q175 := eq_true q175
                                                              have p42 : 0 ≤ (x10_6 : Int) := of_decide_eq_true (by first | (with_reducible assumption) | assumption)
                                                              have q42 : x10_6 < (((rd_T27 t165 x8_4).f0).size : Int) := of_decide_eq_true (by first | (with_reducible assumption) | assumption)
                                                              have hx42 := bt_at ((rd_T27 t165 x8_4).f0) x10_6
                                                              replace p42 := eq_true p42
                                                              replace q42 := eq_true q42
                                                              go_wp2
                                                              repeat (go_quiet (fail); try go_wp2)
                                                              go_ret
                                                              exact ⟨by first | rfl | (simp [errW_none, errW_some] <;> rfl) | (simp [*, errW_none, errW_some] <;> rfl), by repeat (first | (with_reducible first | exact HB.out | apply below_alloc | apply pw_below_drewN | apply below_drew1) | exact HB.out)⟩
                                                            · rw [if_neg c47] at H
                                                              have c47b0 : ((bt ((rd_T27 t165 x8_4).f0) x10_6) == 47) = false := beq_eq_false_iff_ne.mpr c47
                                                              have c47b1 : ((bt ((rd_T27 t165 x8_4).f0) x10_6) != 47) = true := bne_iff_ne.mpr c47
                                                              by_cases c48 : (bt ((rd_T27 t165 x8_4).f0) x10_6) = 62
                                                              · rw [if_pos c48] at H
                                                                have c48b0 : ((bt ((rd_T27 t165 x8_4).f0) x10_6) == 62) = true := beq_iff_eq.mpr c48
                                                                have c48b1 : ((bt ((rd_T27 t165 x8_4).f0) x10_6) != 62) = false := bne_eq_false_iff_eq.mpr c48
                                                                clear c48
                                                                obtain rfl := Option.some.inj H
                                                                have p174 : 0 ≤ (x8_4 : Int) := of_decide_eq_true (by first | (with_reducible assumption) | assumption)
                                                                have q174 : x8_4 < (t165.length : Int) := of_decide_eq_true (by first | (with_reducible assumption) | assumption)
                                                                obtain ⟨ad174, e174, hx174_0, hx174_1⟩ := at_T27 (Kd.R_reads' HO_4.out).2.2 x8_4 p174 q174
                                                                obtain rfl : ad171 = ad174 := (by injection e174)
                                                                replace p174 := eq_true p174
                                                                replace q174 := eq_true q174
                                                                have p175 : 0 ≤ (x8_4 : Int) := of_decide_eq_true (by first | (with_reducible assumption) | assumption)
                                                                have q175 : x8_4 < (t165.length : Int) := of_decide_eq_true (by first | (with_reducible assumption) | assumption)
                                                                obtain ⟨ad175, e175, hx175_0, hx175_1⟩ := at_T27 (Kd.R_reads' HO_4.out).2.2 x8_4 p175 q175
                                                                obtain rfl : ad171 = ad175 := (by injection e175)
                                                                replace p175 := eq_true p175
                                                                replace q175 := eq_true q175
                                                                have p42 : 0 ≤ (x10_6 : Int) := of_decide_eq_true (by first | (with_reducible assumption) | assumption)
                                                                have q42 : x10_6 < (((rd_T27 t165 x8_4).f0).size : Int) := of_decide_eq_true (by first | (with_reducible assumption) | assumption)
                                                                have hx42 := bt_at ((rd_T27 t165 x8_4).f0) x10_6
                                                                replace p42 := eq_true p42
                                                                replace q42 := eq_true q42
                                                                go_wp2
                                                                repeat (go_quiet (fail); try go_wp2)
                                                                go_ret
                                                                exact ⟨by first | rfl | (simp [errW_none, errW_some] <;> rfl) | (simp [*, errW_none, errW_some] <;> rfl), by repeat (first | (with_reducible first | exact HB.out | apply below_alloc | apply pw_below_drewN | apply below_drew1) | exact HB.out)⟩
                                                              · rw [if_neg c48] at H
                                                                have c48b0 : ((bt ((rd_T27 t165 x8_4).f0) x10_6) == 62) = false := beq_eq_false_iff_ne.mpr c48
                                                                have c48b1 : ((bt ((rd_T27 t165 x8_4).f0) x10_6) != 62) = true := bne_iff_ne.mpr c48
                                                                by_cases c49 : (bt ((rd_T27 t165 x8_4).f0) x10_6) = 0
                                                                · rw [if_pos c49] at H
                                                                  have c49b0 : ((bt ((rd_T27 t165 x8_4).f0) x10_6) == 0) = true := beq_iff_eq.mpr c49
                                                                  have c49b1 : ((bt ((rd_T27 t165 x8_4).f0) x10_6) != 0) = false := bne_eq_false_iff_eq.mpr c49
                                                                  clear c49
                                                                  obtain rfl := Option.some.inj H
                                                                  have p174 : 0 ≤ (x8_4 : Int) := of_decide_eq_true (by first | (with_reducible assumption) | assumption)
                                                                  have q174 : x8_4 < (t165.length : Int) := of_decide_eq_true (by first | (with_reducible assumption) | assumption)
                                                                  obtain ⟨ad174, e174, hx174_0, hx174_1⟩ := at_T27 (Kd.R_reads' HO_4.out).2.2 x8_4 p174 q174
                                                                  obtain rfl : ad171 = ad174 := (by injection e174)
                                                                  replace p174 := eq_true p174
                                                                  replace q174 := eq_true q174
                                                                  have p175 : 0 ≤ (x8_4 : Int) := of_decide_eq_true (by first | (with_reducible assumption) | assumption)
                                                                  have q175 : x8_4 < (t165.length : Int) := of_decide_eq_true (by first | (with_reducible assumption) | assumption)
                                                                  obtain ⟨ad175, e175, hx175_0, hx175_1⟩ := at_T27 (Kd.R_reads' HO_4.out).2.2 x8_4 p175 q175
                                                                  obtain rfl : ad171 = ad175 := (by injection e175)
                                                                  replace p175 := eq_true p175
                                                                  replace q175 := eq_true q175
                                                                  have p42 : 0 ≤ (x10_6 : Int) := of_decide_eq_true (by first | (with_reducible assumption) | assumption)
                                                                  have q42 : x10_6 < (((rd_T27 t165 x8_4).f0).size : Int) := of_decide_eq_true (by first | (with_reducible assumption) | assumption)
                                                                  have hx42 := bt_at ((rd_T27 t165 x8_4).f0) x10_6
                                                                  replace p42 := eq_true p42
                                                                  replace q42 := eq_true q42
                                                                  go_wp2
                                                                  repeat (go_quiet (fail); try go_wp2)
                                                                  go_ret
                                                                  exact ⟨by first | rfl | (simp [errW_none, errW_some] <;> rfl) | (simp [*, errW_none, errW_some] <;> rfl), by repeat (first | (with_reducible first | exact HB.out | apply below_alloc | apply pw_below_drewN | apply below_drew1) | exact HB.out)⟩
                                                                · rw [if_neg c49] at H
                                                                  have c49b0 : ((bt ((rd_T27 t165 x8_4).f0) x10_6) == 0) = false := beq_eq_false_iff_ne.mpr c49
                                                                  have c49b1 : ((bt ((rd_T27 t165 x8_4).f0) x10_6) != 0) = true := bne_iff_ne.mpr c49
                                                                  by_cases c50 : (bt ((rd_T27 t165 x8_4).f0) x10_6) = 61
                                                                  · rw [if_pos c50] at H
                                                                    have c50b0 : ((bt ((rd_T27 t165 x8_4).f0) x10_6) == 61) = true := beq_iff_eq.mpr c50
                                                                    have c50b1 : ((bt ((rd_T27 t165 x8_4).f0) x10_6) != 61) = false := bne_eq_false_iff_eq.mpr c50
                                                                    clear c50
                                                                    by_cases c51 : x10_6 > 0
                                                                    · rw [if_pos c51] at H
                                                                      have c51b0 : decide (0 < x10_6) = true := decide_eq_true c51
                                                                      clear c51
                                                                      obtain rfl := Option.some.inj H
                                                                      have p174 : 0 ≤ (x8_4 : Int) := of_decide_eq_true (by first | (with_reducible assumption) | assumption)
                                                                      have q174 : x8_4 < (t165.length : Int) := of_decide_eq_true (by first | (with_reducible assumption) | assumption)
                                                                      obtain ⟨ad174, e174, hx174_0, hx174_1⟩ := at_T27 (Kd.R_reads' HO_4.out).2.2 x8_4 p174 q174
                                                                      obtain rfl : ad171 = ad174 := (by injection e174)
                                                                      replace p174 := eq_true p174
                                                                      replace q174 := eq_true q174
                                                                      have p175 : 0 ≤ (x8_4 : Int) := of_decide_eq_true (by first | (with_reducible assumption) | assumption)
                                                                      have q175 : x8_4 < (t165.length : Int) := of_decide_eq_true (by first | (with_reducible assumption) | assumption)
                                                                      obtain ⟨ad175, e175, hx175_0, hx175_1⟩ := at_T27 (Kd.R_reads' HO_4.out).2.2 x8_4 p175 q175
                                                                      obtain rfl : ad171 = ad175 := (by injection e175)
                                                                      replace p175 := eq_true p175
                                                                      replace q175 := eq_true q175
                                                                      have p42 : 0 ≤ (x10_6 : Int) := of_decide_eq_true (by first | (with_reducible assumption) | assumption)
                                                                      have q42 : x10_6 < (((rd_T27 t165 x8_4).f0).size : Int) := of_decide_eq_true (by first | (with_reducible assumption) | assumption)
                                                                      have hx42 := bt_at ((rd_T27 t165 x8_4).f0) x10_6
                                                                      replace p42 := eq_true p42
                                                                      replace q42 := eq_true q42
                                                                      go_wp2
                                                                      repeat (go_quiet (fail); try go_wp2)
                                                                      go_ret
                                                                      exact ⟨by first | rfl | (simp [errW_none, errW_some] <;> rfl) | (simp [*, errW_none, errW_some] <;> rfl), by repeat (first | (with_reducible first | exact HB.out | apply below_alloc | apply pw_below_drewN | apply below_drew1) | exact HB.out)⟩
                                                                    · rw [if_neg c51] at H
                                                                      have c51b0 : decide (0 < x10_6) = false := decide_eq_false c51
                                                                      clear c51
                                                                      by_cases c52 : (bt ((rd_T27 t165 x8_4).f0) x10_6) ≥ 65
                                                                      · rw [if_pos c52] at H
                                                                        have c52b0 : decide (65 ≤ (bt ((rd_T27 t165 x8_4).f0) x10_6)) = true := decide_eq_true c52
                                                                        clear c52
                                                                        by_cases c53 : (bt ((rd_T27 t165 x8_4).f0) x10_6) ≤ 90
                                                                        · rw [if_pos c53] at H
                                                                          have c53b0 : decide ((bt ((rd_T27 t165 x8_4).f0) x10_6) ≤ 90) = true := decide_eq_true c53
                                                                          clear c53
                                                                          obtain rfl := Option.some.inj H
                                                                          have p174 : 0 ≤ (x8_4 : Int) := of_decide_eq_true (by first | (with_reducible assumption) | assumption)
                                                                          have q174 : x8_4 < (t165.length : Int) := of_decide_eq_true (by first | (with_reducible assumption) | assumption)
                                                                          obtain ⟨ad174, e174, hx174_0, hx174_1⟩ := at_T27 (Kd.R_reads' HO_4.out).2.2 x8_4 p174 q174
                                                                          obtain rfl : ad171 = ad174 := (by injection e174)
                                                                          replace p174 := eq_true p174
                                                                          replace q174 := eq_true q174
                                                                          have p175 : 0 ≤ (x8_4 : Int) := of_decide_eq_true (by first | (with_reducible assumption) | assumption)
                                                                          have q175 : x8_4 < (t165.length : Int) := of_decide_eq_true (by first | (with_reducible assumption) | assumption)
                                                                          obtain ⟨ad175, e175, hx175_0, hx175_1⟩ := at_T27 (Kd.R_reads' HO_4.out).2.2 x8_4 p175 q175
                                                                          obtain rfl : ad171 = ad175 := (by injection e175)
                                                                          replace p175 := eq_true p175
                                                                          replace q175 := eq_true q175
                                                                          have p42 : 0 ≤ (x10_6 : Int) := of_decide_eq_true (by first | (with_reducible assumption) | assumption)
                                                                          have q42 : x10_6 < (((rd_T27 t165 x8_4).f0).size : Int) := of_decide_eq_true (by first | (with_reducible assumption) | assumption)
                                                                          have hx42 := bt_at ((rd_T27 t165 x8_4).f0) x10_6
                                                                          replace p42 := eq_true p42
                                                                          replace q42 := eq_true q42
                                                                          go_wp2
                                                                          repeat (go_quiet (fail); try go_wp2)
                                                                          go_ret
                                                                          exact ⟨by first | rfl | (simp [errW_none, errW_some] <;> rfl) | (simp [*, errW_none, errW_some] <;> rfl), by repeat (first | (with_reducible first | exact HB.out | apply below_alloc | apply pw_below_drewN | apply below_drew1) | exact HB.out)⟩
                                                                        · rw [if_neg c53] at H
                                                                          have c53b0 : decide ((bt ((rd_T27 t165 x8_4).f0) x10_6) ≤ 90) = false := decide_eq_false c53
                                                                          clear c53
                                                                          have H' := Aside0.mk H
                                                                          clear H
                                                                          have p174 : 0 ≤ (x8_4 : Int) := of_decide_eq_true (by first | (with_reducible assumption) | assumption)
                                                                          have q174 : x8_4 < (t165.length : Int) := of_decide_eq_true (by first | (with_reducible assumption) | assumption)
                                                                          obtain ⟨ad174, e174, hx174_0, hx174_1⟩ := at_T27 (Kd.R_reads' HO_4.out).2.2 x8_4 p174 q174
                                                                          obtain rfl : ad171 = ad174 := (by injection e174)
                                                                          replace p174 := eq_true p174
                                                                          replace q174 := eq_true q174
                                                                          have p175 : 0 ≤ (x8_4 : Int) := of_decide_eq_true (by first | (with_reducible assumption) | assumption)
                                                                          have q175 : x8_4 < (t165.length : Int) := of_decide_eq_true (by first | (with_reducible assumption) | assumption)
                                                                          obtain ⟨ad175, e175, hx175_0, hx175_1⟩ := at_T27 (Kd.R_reads' HO_4.out).2.2 x8_4 p175 q175
                                                                          obtain rfl : ad171 = ad175 := (by injection e175)
                                                                          replace p175 := eq_true p175
                                                                          replace q175 := eq_true q175
                                                                          have p42 : 0 ≤ (x10_6 : Int) := of_decide_eq_true (by first | (with_reducible assumption) | assumption)
                                                                          have q42 : x10_6 < (((rd_T27 t165 x8_4).f0).size : Int) := of_decide_eq_true (by first | (with_reducible assumption) | assumption)
                                                                          have hx42 := bt_at ((rd_T27 t165 x8_4).f0) x10_6
                                                                          replace p42 := eq_true p42
                                                                          replace q42 := eq_true q42
                                                                          go_wp2
                                                                          repeat (go_quiet (fail); try go_wp2)
                                                                          go_roundg k6
                                                                          case measure => have := HJ6.out; have := HJ11.out; have := HJ19.out; have := HK4.out; have := HK5.out; have := HK6.out; omega
                                                                          case rel => exact ⟨(wrap64 (x10_6 + 1)), (by first | rfl | (simp; done) | (simp [*]; done)), H', ⟨by have := HJ6.out; have := HJ11.out; have := HJ19.out; have := HK4.out; have := HK5.out; have := HK6.out; omega⟩, ⟨by (with_reducible repeat (first | apply Kd.R_alloc | apply Kd.R_drewN | apply Kd.R_drew)); exact HO_4.out⟩, ⟨by repeat (first | (with_reducible first | exact HB.out | apply below_alloc | apply pw_below_drewN | apply below_drew1) | exact HB.out)⟩⟩
                                                                      · rw [if_neg c52] at H
                                                                        have c52b0 : decide (65 ≤ (bt ((rd_T27 t165 x8_4).f0) x10_6)) = false := decide_eq_false c52
                                                                        clear c52
                                                                        have H' := Aside0.mk H
                                                                        clear H
                                                                        have p174 : 0 ≤ (x8_4 : Int) := of_decide_eq_true (by first | (with_reducible assumption) | assumption)
                                                                        have q174 : x8_4 < (t165.length : Int) := of_decide_eq_true (by first | (with_reducible assumption) | assumption)
                                                                        obtain ⟨ad174, e174, hx174_0, hx174_1⟩ := at_T27 (Kd.R_reads' HO_4.out).2.2 x8_4 p174 q174
                                                                        obtain rfl : ad171 = ad174 := (by injection e174)
                                                                        replace p174 := eq_true p174
                                                                        replace q174 := eq_true q174
                                                                        have p175 : 0 ≤ (x8_4 : Int) := of_decide_eq_true (by first | (with_reducible assumption) | assumption)
                                                                        have q175 : x8_4 < (t165.length : Int) := of_decide_eq_true (by first | (with_reducible assumption) | assumption)
                                                                        obtain ⟨ad175, e175, hx175_0, hx175_1⟩ := at_T27 (Kd.R_reads' HO_4.out).2.2 x8_4 p175 q175
                                                                        obtain rfl : ad171 = ad175 := (by injection e175)
                                                                        replace p175 := eq_true p175
                                                                        replace q175 := eq_true q175
                                                                        have p42 : 0 ≤ (x10_6 : Int) := of_decide_eq_true (by first | (with_reducible assumption) | assumption)
                                                                        have q42 : x10_6 < (((rd_T27 t165 x8_4).f0).size : Int) := of_decide_eq_true (by first | (with_reducible assumption) | assumption)
                                                                        have hx42 := bt_at ((rd_T27 t165 x8_4).f0) x10_6
                                                                        replace p42 := eq_true p42
                                                                        replace q42 := eq_true q42
                                                                        go_wp2
                                                                        repeat (go_quiet (fail); try go_wp2)
                                                                        go_roundg k6
                                                                        case measure => have := HJ6.out; have := HJ11.out; have := HJ19.out; have := HK4.out; have := HK5.out; have := HK6.out; omega
                                                                        case rel => exact ⟨(wrap64 (x10_6 + 1)), (by first | rfl | (simp; done) | (simp [*]; done)), H', ⟨by have := HJ6.out; have := HJ11.out; have := HJ19.out; have := HK4.out; have := HK5.out; have := HK6.out; omega⟩, ⟨by (with_reducible repeat (first | apply Kd.R_alloc | apply Kd.R_drewN | apply Kd.R_drew)); exact HO_4.out⟩, ⟨by repeat (first | (with_reducible first | exact HB.out | apply below_alloc | apply pw_below_drewN | apply below_drew1) | exact HB.out)⟩⟩
                                                                  · rw [if_neg c50] at H
                                                                    have c50b0 : ((bt ((rd_T27 t165 x8_4).f0) x10_6) == 61) = false := beq_eq_false_iff_ne.mpr c50
                                                                    have c50b1 : ((bt ((rd_T27 t165 x8_4).f0) x10_6) != 61) = true := bne_iff_ne.mpr c50
                                                                    by_cases c54 : (bt ((rd_T27 t165 x8_4).f0) x10_6) ≥ 65
                                                                    · rw [if_pos c54] at H
                                                                      have c54b0 : decide (65 ≤ (bt ((rd_T27 t165 x8_4).f0) x10_6)) = true := decide_eq_true c54
                                                                      clear c54
                                                                      by_cases c55 : (bt ((rd_T27 t165 x8_4).f0) x10_6) ≤ 90
                                                                      · rw [if_pos c55] at H
                                                                        have c55b0 : decide ((bt ((rd_T27 t165 x8_4).f0) x10_6) ≤ 90) = true := decide_eq_true c55
                                                                        clear c55
                                                                        obtain rfl := Option.some.inj H
                                                                        have p174 : 0 ≤ (x8_4 : Int) := of_decide_eq_true (by first | (with_reducible assumption) | assumption)
                                                                        have q174 : x8_4 < (t165.length : Int) := of_decide_eq_true (by first | (with_reducible assumption) | assumption)
                                                                        obtain ⟨ad174, e174, hx174_0, hx174_1⟩ := at_T27 (Kd.R_reads' HO_4.out).2.2 x8_4 p174 q174
                                                                        obtain rfl : ad171 = ad174 := (by injection e174)
                                                                        replace p174 := eq_true p174
                                                                        replace q174 := eq_true q174
                                                                        have p175 : 0 ≤ (x8_4 : Int) := of_decide_eq_true (by first | (with_reducible assumption) | assumption)
                                                                        have q175 : x8_4 < (t165.length : Int) := of_decide_eq_true (by first | (with_reducible assumption) | assumption)
                                                                        obtain ⟨ad175, e175, hx175_0, hx175_1⟩ := at_T27 (Kd.R_reads' HO_4.out).2.2 x8_4 p175 q175
                                                                        obtain rfl : ad171 = ad175 := (by injection e175)
                                                                        replace p175 := eq_true p175
                                                                        replace q175 := eq_true q175
                                                                        have p42 : 0 ≤ (x10_6 : Int) := of_decide_eq_true (by first | (with_reducible assumption) | assumption)
                                                                        have q42 : x10_6 < (((rd_T27 t165 x8_4).f0).size : Int) := of_decide_eq_true (by first | (with_reducible assumption) | assumption)
                                                                        have hx42 := bt_at ((rd_T27 t165 x8_4).f0) x10_6
                                                                        replace p42 := eq_true p42
                                                                        replace q42 := eq_true q42
                                                                        go_wp2
                                                                        repeat (go_quiet (fail); try go_wp2)
                                                                        go_ret
                                                                        exact ⟨by first | rfl | (simp [errW_none, errW_some] <;> rfl) | (simp [*, errW_none, errW_some] <;> rfl), by repeat (first | (with_reducible first | exact HB.out | apply below_alloc | apply pw_below_drewN | apply below_drew1) | exact HB.out)⟩
                                                                      · rw [if_neg c55] at H
                                                                        have c55b0 : decide ((bt ((rd_T27 t165 x8_4).f0) x10_6) ≤ 90) = false := decide_eq_false c55
                                                                        clear c55
                                                                        have H' := Aside0.mk H
                                                                        clear H
                                                                        have p174 : 0 ≤ (x8_4 : Int) := of_decide_eq_true (by first | (with_reducible assumption) | assumption)
                                                                        have q174 : x8_4 < (t165.length : Int) := of_decide_eq_true (by first | (with_reducible assumption) | assumption)
                                                                        obtain ⟨ad174, e174, hx174_0, hx174_1⟩ := at_T27 (Kd.R_reads' HO_4.out).2.2 x8_4 p174 q174
                                                                        obtain rfl : ad171 = ad174 := (by injection e174)
                                                                        replace p174 := eq_true p174
                                                                        replace q174 := eq_true q174
                                                                        have p175 : 0 ≤ (x8_4 : Int) := of_decide_eq_true (by first | (with_reducible assumption) | assumption)
                                                                        have q175 : x8_4 < (t165.length : Int) := of_decide_eq_true (by first | (with_reducible assumption) | assumption)
                                                                        obtain ⟨ad175, e175, hx175_0, hx175_1⟩ := at_T27 (Kd.R_reads' HO_4.out).2.2 x8_4 p175 q175
                                                                        obtain rfl : ad171 = ad175 := (by injection e175)
                                                                        replace p175 := eq_true p175
                                                                        replace q175 := eq_true q175
                                                                        have p42 : 0 ≤ (x10_6 : Int) := of_decide_eq_true (by first | (with_reducible assumption) | assumption)
                                                                        have q42 : x10_6 < (((rd_T27 t165 x8_4).f0).size : Int) := of_decide_eq_true (by first | (with_reducible assumption) | assumption)
                                                                        have hx42 := bt_at ((rd_T27 t165 x8_4).f0) x10_6
                                                                        replace p42 := eq_true p42
                                                                        replace q42 := eq_true q42
                                                                        go_wp2
                                                                        repeat (go_quiet (fail); try go_wp2)
                                                                        go_roundg k6
                                                                        case measure => have := HJ6.out; have := HJ11.out; have := HJ19.out; have := HK4.out; have := HK5.out; have := HK6.out; omega
                                                                        case rel => exact ⟨(wrap64 (x10_6 + 1)), (by first | rfl | (simp; done) | (simp [*]; done)), H', ⟨by have := HJ6.out; have := HJ11.out; have := HJ19.out; have := HK4.out; have := HK5.out; have := HK6.out; omega⟩, ⟨by (with_reducible repeat (first | apply Kd.R_alloc | apply Kd.R_drewN | apply Kd.R_drew)); exact HO_4.out⟩, ⟨by repeat (first | (with_reducible first | exact HB.out | apply below_alloc | apply pw_below_drewN | apply below_drew1) | exact HB.out)⟩⟩
                                                                    · rw [if_neg c54] at H
                                                                      have c54b0 : decide (65 ≤ (bt ((rd_T27 t165 x8_4).f0) x10_6)) = false := decide_eq_false c54
                                                                      clear c54
                                                                      have H' := Aside0.mk H
                                                                      clear H
                                                                      have p174 : 0 ≤ (x8_4 : Int) := of_decide_eq_true (by first | (with_reducible assumption) | assumption)
                                                                      have q174 : x8_4 < (t165.length : Int) := of_decide_eq_true (by first | (with_reducible assumption) | assumption)
                                                                      obtain ⟨ad174, e174, hx174_0, hx174_1⟩ := at_T27 (Kd.R_reads' HO_4.out).2.2 x8_4 p174 q174
                                                                      obtain rfl : ad171 = ad174 := (by injection e174)
                                                                      replace p174 := eq_true p174
                                                                      replace q174 := eq_true q174
                                                                      have p175 : 0 ≤ (x8_4 : Int) := of_decide_eq_true (by first | (with_reducible assumption) | assumption)
                                                                      have q175 : x8_4 < (t165.length : Int) := of_decide_eq_true (by first | (with_reducible assumption) | assumption)
                                                                      obtain ⟨ad175, e175, hx175_0, hx175_1⟩ := at_T27 (Kd.R_reads' HO_4.out).2.2 x8_4 p175 q175
                                                                      obtain rfl : ad171 = ad175 := (by injection e175)
                                                                      replace p175 := eq_true p175
                                                                      replace q175 := eq_true q175
                                                                      have p42 : 0 ≤ (x10_6 : Int) := of_decide_eq_true (by first | (with_reducible assumption) | assumption)
                                                                      have q42 : x10_6 < (((rd_T27 t165 x8_4).f0).size : Int) := of_decide_eq_true (by first | (with_reducible assumption) | assumption)
                                                                      have hx42 := bt_at ((rd_T27 t165 x8_4).f0) x10_6
                                                                      replace p42 := eq_true p42
                                                                      replace q42 := eq_true q42
                                                                      go_wp2
                                                                      repeat (go_quiet (fail); try go_wp2)
                                                                      go_roundg k6
                                                                      case measure => have := HJ6.out; have := HJ11.out; have := HJ19.out; have := HK4.out; have := HK5.out; have := HK6.out; omega
                                                                      case rel => exact ⟨(wrap64 (x10_6 + 1)), (by first | rfl | (simp; done) | (simp [*]; done)), H', ⟨by have := HJ6.out; have := HJ11.out; have := HJ19.out; have := HK4.out; have := HK5.out; have := HK6.out; omega⟩, ⟨by (with_reducible repeat (first | apply Kd.R_alloc | apply Kd.R_drewN | apply Kd.R_drew)); exact HO_4.out⟩, ⟨by repeat (first | (with_reducible first | exact HB.out | apply below_alloc | apply pw_below_drewN | apply below_drew1) | exact HB.out)⟩⟩
                                                  · rw [if_neg c41] at H
                                                    exact absurd H (by simp)
                                                · rw [if_neg c40] at H
                                                  have c40b0 : decide (x10_6 < (((rd_T27 t165 x8_4).f0).size : Int)) = false := decide_eq_false c40
                                                  clear c40
                                                  have H' := Aside0.mk H
                                                  clear H
                                                  have p174 : 0 ≤ (x8_4 : Int) := of_decide_eq_true (by first | (with_reducible assumption) | assumption)
                                                  have q174 : x8_4 < (t165.length : Int) := of_decide_eq_true (by first | (with_reducible assumption) | assumption)
                                                  obtain ⟨ad174, e174, hx174_0, hx174_1⟩ := at_T27 (Kd.R_reads' HO_4.out).2.2 x8_4 p174 q174
                                                  obtain rfl : ad171 = ad174 := (by injection e174)
                                                  replace p174 := eq_true p174
                                                  replace q174 := eq_true q174
                                                  go_wp2
                                                  repeat (go_quiet (fail); try go_wp2)
                                                  go_roundg k6
                                                  case measure => have := HJ6.out; have := HJ11.out; have := HJ19.out; have := HK4.out; have := HK5.out; have := HK6.out; omega
                                                  case rel => exact ⟨(wrap64 (x8_4 + 1)), (by first | rfl | (simp; done) | (simp [*]; done)), H', ⟨by have := HJ6.out; have := HJ11.out; have := HJ19.out; have := HK4.out; have := HK5.out; have := HK6.out; omega⟩, ⟨by (with_reducible repeat (first | apply Kd.R_alloc | apply Kd.R_drewN | apply Kd.R_drew)); exact HO_4.out⟩, ⟨by repeat (first | (with_reducible first | exact HB.out | apply below_alloc | apply pw_below_drewN | apply below_drew1) | exact HB.out)⟩⟩
                                              · rw [if_neg c39] at H
                                                exact absurd H (by simp)
                                            · rw [if_neg c38] at H
                                              exact absurd H (by simp)
                              · rw [if_neg c28] at H
                                exact absurd H (by simp)
                            · rw [if_neg c27] at H
                              have c27b0 : decide (x8_4 < (t165.length : Int)) = false := decide_eq_false c27
                              clear c27
                              obtain rfl := Option.some.inj H
                              obtain ⟨Ao56, co56, eo56⟩ := Kd.R_slice HO_4.out
                              subst eo56
                              go_wp2
                              repeat (go_quiet (fail); try go_wp2)
                              go_ret
                              exact ⟨by first | rfl | (simp [errW_none, errW_some] <;> rfl) | (simp [*, errW_none, errW_some] <;> rfl), by repeat (first | (with_reducible first | exact HB.out | apply below_alloc | apply pw_below_drewN | apply below_drew1) | exact HB.out)⟩
    · replace c6 := Bool.eq_false_iff.mpr c6
      subst c6
      have H1 : (if t164 = true then (if (t165.length : Int) = 0 then (if t166 = true then (some false) else (some (t167 == (a0.size : Int)))) else (some false)) else (some false)) = some r := by rw [if_neg (show ¬ (false = true) by decide)] at H; exact H
      clear H
      have H := H1
      clear H1
      by_cases c57 : t164 = true
      · subst c57
        have H1 : (if (t165.length : Int) = 0 then (if t166 = true then (some false) else (some (t167 == (a0.size : Int)))) else (some false)) = some r := by rw [if_pos rfl] at H; exact H
        clear H
        have H := H1
        clear H1
        by_cases c58 : (t165.length : Int) = 0
        · rw [if_pos c58] at H
          have c58b0 : ((t165.length : Int) == 0) = true := beq_iff_eq.mpr c58
          have c58b1 : ((t165.length : Int) != 0) = false := bne_eq_false_iff_eq.mpr c58
          clear c58
          by_cases c59 : t166 = true
          · subst c59
            have H1 : (some false) = some r := by rw [if_pos rfl] at H; exact H
            clear H
            have H := H1
            clear H1
            obtain rfl := Option.some.inj H
            go_enter Tryd.func3, Tryd.ntmps3
            go_wp2_with (first | (go_at_call 12; (with_reducible refine (flaillaw08_awake.calls k  true _ ?side1 A2.out).mono ?_); (case side1 => first | (with_reducible exact HG.out) | exact Gl.below HG.out (by repeat (first | (with_reducible first | exact HB.out | apply below_alloc | apply pw_below_drewN | apply below_drew1) | exact HB.out)) | exact HG.out); rintro e w60 ⟨rfl, hb⟩; have n0_ := Aside0.mk (below_step (by repeat (first | (with_reducible first | exact HB.out | apply below_alloc | apply pw_below_drewN | apply below_drew1) | exact HB.out)) hb); clear HB; have HB := n0_; clear n0_; (try clear hb); (try clear hb2); (try clear hk); (try clear hi)) | (go_at_call 13; (with_reducible refine (attrs_Read.calls a0 0 t165 true t167 false _ ?side1 A5.out).mono ?_); (case side1 => first | (with_reducible exact HG.out) | exact Gl.below HG.out (by repeat (first | (with_reducible first | exact HB.out | apply below_alloc | apply pw_below_drewN | apply below_drew1) | exact HB.out)) | exact HG.out); rintro e w61 ⟨v169, rfl, ho0, hb⟩; have n0_ := Aside0.mk (Kd.R_lower ho0 (below_size (by repeat (first | (with_reducible first | exact HB.out | apply below_alloc | apply pw_below_drewN | apply below_drew1) | exact HB.out)))); have n1_ := Aside0.mk (below_step (by repeat (first | (with_reducible first | exact HB.out | apply below_alloc | apply pw_below_drewN | apply below_drew1) | exact HB.out)) hb); clear HB; have HO170 := n0_; have HB := n1_; clear n0_ n1_; (try clear hb); (try clear hb2); (try clear hk); (try clear hi); (try clear ho0); obtain ⟨Ao62, co62, eo62⟩ := Kd.R_slice HO170.out; subst eo62))
            repeat (go_quiet (first | (go_at_call 12; (with_reducible refine (flaillaw08_awake.calls k  true _ ?side1 A2.out).mono ?_); (case side1 => first | (with_reducible exact HG.out) | exact Gl.below HG.out (by repeat (first | (with_reducible first | exact HB.out | apply below_alloc | apply pw_below_drewN | apply below_drew1) | exact HB.out)) | exact HG.out); rintro e w60 ⟨rfl, hb⟩; have n0_ := Aside0.mk (below_step (by repeat (first | (with_reducible first | exact HB.out | apply below_alloc | apply pw_below_drewN | apply below_drew1) | exact HB.out)) hb); clear HB; have HB := n0_; clear n0_; (try clear hb); (try clear hb2); (try clear hk); (try clear hi)) | (go_at_call 13; (with_reducible refine (attrs_Read.calls a0 0 t165 true t167 false _ ?side1 A5.out).mono ?_); (case side1 => first | (with_reducible exact HG.out) | exact Gl.below HG.out (by repeat (first | (with_reducible first | exact HB.out | apply below_alloc | apply pw_below_drewN | apply below_drew1) | exact HB.out)) | exact HG.out); rintro e w61 ⟨v169, rfl, ho0, hb⟩; have n0_ := Aside0.mk (Kd.R_lower ho0 (below_size (by repeat (first | (with_reducible first | exact HB.out | apply below_alloc | apply pw_below_drewN | apply below_drew1) | exact HB.out)))); have n1_ := Aside0.mk (below_step (by repeat (first | (with_reducible first | exact HB.out | apply below_alloc | apply pw_below_drewN | apply below_drew1) | exact HB.out)) hb); clear HB; have HO170 := n0_; have HB := n1_; clear n0_ n1_; (try clear hb); (try clear hb2); (try clear hk); (try clear hi); (try clear ho0); obtain ⟨Ao62, co62, eo62⟩ := Kd.R_slice HO170.out; subst eo62)); try go_wp2_with (first | (go_at_call 12; (with_reducible refine (flaillaw08_awake.calls k  true _ ?side1 A2.out).mono ?_); (case side1 => first | (with_reducible exact HG.out) | exact Gl.below HG.out (by repeat (first | (with_reducible first | exact HB.out | apply below_alloc | apply pw_below_drewN | apply below_drew1) | exact HB.out)) | exact HG.out); rintro e w60 ⟨rfl, hb⟩; have n0_ := Aside0.mk (below_step (by repeat (first | (with_reducible first | exact HB.out | apply below_alloc | apply pw_below_drewN | apply below_drew1) | exact HB.out)) hb); clear HB; have HB := n0_; clear n0_; (try clear hb); (try clear hb2); (try clear hk); (try clear hi)) | (go_at_call 13; (with_reducible refine (attrs_Read.calls a0 0 t165 true t167 false _ ?side1 A5.out).mono ?_); (case side1 => first | (with_reducible exact HG.out) | exact Gl.below HG.out (by repeat (first | (with_reducible first | exact HB.out | apply below_alloc | apply pw_below_drewN | apply below_drew1) | exact HB.out)) | exact HG.out); rintro e w61 ⟨v169, rfl, ho0, hb⟩; have n0_ := Aside0.mk (Kd.R_lower ho0 (below_size (by repeat (first | (with_reducible first | exact HB.out | apply below_alloc | apply pw_below_drewN | apply below_drew1) | exact HB.out)))); have n1_ := Aside0.mk (below_step (by repeat (first | (with_reducible first | exact HB.out | apply below_alloc | apply pw_below_drewN | apply below_drew1) | exact HB.out)) hb); clear HB; have HO170 := n0_; have HB := n1_; clear n0_ n1_; (try clear hb); (try clear hb2); (try clear hk); (try clear hi); (try clear ho0); obtain ⟨Ao62, co62, eo62⟩ := Kd.R_slice HO170.out; subst eo62)))
            go_ret
            exact ⟨by first | rfl | (simp [errW_none, errW_some] <;> rfl) | (simp [*, errW_none, errW_some] <;> rfl), by repeat (first | (with_reducible first | exact HB.out | apply below_alloc | apply pw_below_drewN | apply below_drew1) | exact HB.out)⟩
          · replace c59 := Bool.eq_false_iff.mpr c59
            subst c59
            have H1 : (some (t167 == (a0.size : Int))) = some r := by rw [if_neg (show ¬ (false = true) by decide)] at H; exact H
            clear H
            have H := H1
            clear H1
            obtain rfl := Option.some.inj H
            go_enter Tryd.func3, Tryd.ntmps3
            go_wp2_with (first | (go_at_call 12; (with_reducible refine (flaillaw08_awake.calls k  true _ ?side1 A2.out).mono ?_); (case side1 => first | (with_reducible exact HG.out) | exact Gl.below HG.out (by repeat (first | (with_reducible first | exact HB.out | apply below_alloc | apply pw_below_drewN | apply below_drew1) | exact HB.out)) | exact HG.out); rintro e w63 ⟨rfl, hb⟩; have n0_ := Aside0.mk (below_step (by repeat (first | (with_reducible first | exact HB.out | apply below_alloc | apply pw_below_drewN | apply below_drew1) | exact HB.out)) hb); clear HB; have HB := n0_; clear n0_; (try clear hb); (try clear hb2); (try clear hk); (try clear hi)) | (go_at_call 13; (with_reducible refine (attrs_Read.calls a0 0 t165 false t167 false _ ?side1 A5.out).mono ?_); (case side1 => first | (with_reducible exact HG.out) | exact Gl.below HG.out (by repeat (first | (with_reducible first | exact HB.out | apply below_alloc | apply pw_below_drewN | apply below_drew1) | exact HB.out)) | exact HG.out); rintro e w64 ⟨v169, rfl, ho0, hb⟩; have n0_ := Aside0.mk (Kd.R_lower ho0 (below_size (by repeat (first | (with_reducible first | exact HB.out | apply below_alloc | apply pw_below_drewN | apply below_drew1) | exact HB.out)))); have n1_ := Aside0.mk (below_step (by repeat (first | (with_reducible first | exact HB.out | apply below_alloc | apply pw_below_drewN | apply below_drew1) | exact HB.out)) hb); clear HB; have HO170 := n0_; have HB := n1_; clear n0_ n1_; (try clear hb); (try clear hb2); (try clear hk); (try clear hi); (try clear ho0); obtain ⟨Ao65, co65, eo65⟩ := Kd.R_slice HO170.out; subst eo65))
            repeat (go_quiet (first | (go_at_call 12; (with_reducible refine (flaillaw08_awake.calls k  true _ ?side1 A2.out).mono ?_); (case side1 => first | (with_reducible exact HG.out) | exact Gl.below HG.out (by repeat (first | (with_reducible first | exact HB.out | apply below_alloc | apply pw_below_drewN | apply below_drew1) | exact HB.out)) | exact HG.out); rintro e w63 ⟨rfl, hb⟩; have n0_ := Aside0.mk (below_step (by repeat (first | (with_reducible first | exact HB.out | apply below_alloc | apply pw_below_drewN | apply below_drew1) | exact HB.out)) hb); clear HB; have HB := n0_; clear n0_; (try clear hb); (try clear hb2); (try clear hk); (try clear hi)) | (go_at_call 13; (with_reducible refine (attrs_Read.calls a0 0 t165 false t167 false _ ?side1 A5.out).mono ?_); (case side1 => first | (with_reducible exact HG.out) | exact Gl.below HG.out (by repeat (first | (with_reducible first | exact HB.out | apply below_alloc | apply pw_below_drewN | apply below_drew1) | exact HB.out)) | exact HG.out); rintro e w64 ⟨v169, rfl, ho0, hb⟩; have n0_ := Aside0.mk (Kd.R_lower ho0 (below_size (by repeat (first | (with_reducible first | exact HB.out | apply below_alloc | apply pw_below_drewN | apply below_drew1) | exact HB.out)))); have n1_ := Aside0.mk (below_step (by repeat (first | (with_reducible first | exact HB.out | apply below_alloc | apply pw_below_drewN | apply below_drew1) | exact HB.out)) hb); clear HB; have HO170 := n0_; have HB := n1_; clear n0_ n1_; (try clear hb); (try clear hb2); (try clear hk); (try clear hi); (try clear ho0); obtain ⟨Ao65, co65, eo65⟩ := Kd.R_slice HO170.out; subst eo65)); try go_wp2_with (first | (go_at_call 12; (with_reducible refine (flaillaw08_awake.calls k  true _ ?side1 A2.out).mono ?_); (case side1 => first | (with_reducible exact HG.out) | exact Gl.below HG.out (by repeat (first | (with_reducible first | exact HB.out | apply below_alloc | apply pw_below_drewN | apply below_drew1) | exact HB.out)) | exact HG.out); rintro e w63 ⟨rfl, hb⟩; have n0_ := Aside0.mk (below_step (by repeat (first | (with_reducible first | exact HB.out | apply below_alloc | apply pw_below_drewN | apply below_drew1) | exact HB.out)) hb); clear HB; have HB := n0_; clear n0_; (try clear hb); (try clear hb2); (try clear hk); (try clear hi)) | (go_at_call 13; (with_reducible refine (attrs_Read.calls a0 0 t165 false t167 false _ ?side1 A5.out).mono ?_); (case side1 => first | (with_reducible exact HG.out) | exact Gl.below HG.out (by repeat (first | (with_reducible first | exact HB.out | apply below_alloc | apply pw_below_drewN | apply below_drew1) | exact HB.out)) | exact HG.out); rintro e w64 ⟨v169, rfl, ho0, hb⟩; have n0_ := Aside0.mk (Kd.R_lower ho0 (below_size (by repeat (first | (with_reducible first | exact HB.out | apply below_alloc | apply pw_below_drewN | apply below_drew1) | exact HB.out)))); have n1_ := Aside0.mk (below_step (by repeat (first | (with_reducible first | exact HB.out | apply below_alloc | apply pw_below_drewN | apply below_drew1) | exact HB.out)) hb); clear HB; have HO170 := n0_; have HB := n1_; clear n0_ n1_; (try clear hb); (try clear hb2); (try clear hk); (try clear hi); (try clear ho0); obtain ⟨Ao65, co65, eo65⟩ := Kd.R_slice HO170.out; subst eo65)))
            go_ret
            exact ⟨by first | rfl | (simp [errW_none, errW_some] <;> rfl) | (simp [*, errW_none, errW_some] <;> rfl), by repeat (first | (with_reducible first | exact HB.out | apply below_alloc | apply pw_below_drewN | apply below_drew1) | exact HB.out)⟩
        · rw [if_neg c58] at H
          have c58b0 : ((t165.length : Int) == 0) = false := beq_eq_false_iff_ne.mpr c58
          have c58b1 : ((t165.length : Int) != 0) = true := bne_iff_ne.mpr c58
          have c58b2 : ¬ (t165 = []) := fun h_ => c58 (by rw [h_]; rfl)
          obtain rfl := Option.some.inj H
          go_enter Tryd.func3, Tryd.ntmps3
          go_wp2_with (first | (go_at_call 12; (with_reducible refine (flaillaw08_awake.calls k  true _ ?side1 A2.out).mono ?_); (case side1 => first | (with_reducible exact HG.out) | exact Gl.below HG.out (by repeat (first | (with_reducible first | exact HB.out | apply below_alloc | apply pw_below_drewN | apply below_drew1) | exact HB.out)) | exact HG.out); rintro e w66 ⟨rfl, hb⟩; have n0_ := Aside0.mk (below_step (by repeat (first | (with_reducible first | exact HB.out | apply below_alloc | apply pw_below_drewN | apply below_drew1) | exact HB.out)) hb); clear HB; have HB := n0_; clear n0_; (try clear hb); (try clear hb2); (try clear hk); (try clear hi)) | (go_at_call 13; (with_reducible refine (attrs_Read.calls a0 0 t165 t166 t167 false _ ?side1 A5.out).mono ?_); (case side1 => first | (with_reducible exact HG.out) | exact Gl.below HG.out (by repeat (first | (with_reducible first | exact HB.out | apply below_alloc | apply pw_below_drewN | apply below_drew1) | exact HB.out)) | exact HG.out); rintro e w67 ⟨v169, rfl, ho0, hb⟩; have n0_ := Aside0.mk (Kd.R_lower ho0 (below_size (by repeat (first | (with_reducible first | exact HB.out | apply below_alloc | apply pw_below_drewN | apply below_drew1) | exact HB.out)))); have n1_ := Aside0.mk (below_step (by repeat (first | (with_reducible first | exact HB.out | apply below_alloc | apply pw_below_drewN | apply below_drew1) | exact HB.out)) hb); clear HB; have HO170 := n0_; have HB := n1_; clear n0_ n1_; (try clear hb); (try clear hb2); (try clear hk); (try clear hi); (try clear ho0); obtain ⟨Ao68, co68, eo68⟩ := Kd.R_slice HO170.out; subst eo68))
          repeat (go_quiet (first | (go_at_call 12; (with_reducible refine (flaillaw08_awake.calls k  true _ ?side1 A2.out).mono ?_); (case side1 => first | (with_reducible exact HG.out) | exact Gl.below HG.out (by repeat (first | (with_reducible first | exact HB.out | apply below_alloc | apply pw_below_drewN | apply below_drew1) | exact HB.out)) | exact HG.out); rintro e w66 ⟨rfl, hb⟩; have n0_ := Aside0.mk (below_step (by repeat (first | (with_reducible first | exact HB.out | apply below_alloc | apply pw_below_drewN | apply below_drew1) | exact HB.out)) hb); clear HB; have HB := n0_; clear n0_; (try clear hb); (try clear hb2); (try clear hk); (try clear hi)) | (go_at_call 13; (with_reducible refine (attrs_Read.calls a0 0 t165 t166 t167 false _ ?side1 A5.out).mono ?_); (case side1 => first | (with_reducible exact HG.out) | exact Gl.below HG.out (by repeat (first | (with_reducible first | exact HB.out | apply below_alloc | apply pw_below_drewN | apply below_drew1) | exact HB.out)) | exact HG.out); rintro e w67 ⟨v169, rfl, ho0, hb⟩; have n0_ := Aside0.mk (Kd.R_lower ho0 (below_size (by repeat (first | (with_reducible first | exact HB.out | apply below_alloc | apply pw_below_drewN | apply below_drew1) | exact HB.out)))); have n1_ := Aside0.mk (below_step (by repeat (first | (with_reducible first | exact HB.out | apply below_alloc | apply pw_below_drewN | apply below_drew1) | exact HB.out)) hb); clear HB; have HO170 := n0_; have HB := n1_; clear n0_ n1_; (try clear hb); (try clear hb2); (try clear hk); (try clear hi); (try clear ho0); obtain ⟨Ao68, co68, eo68⟩ := Kd.R_slice HO170.out; subst eo68)); try go_wp2_with (first | (go_at_call 12; (with_reducible refine (flaillaw08_awake.calls k  true _ ?side1 A2.out).mono ?_); (case side1 => first | (with_reducible exact HG.out) | exact Gl.below HG.out (by repeat (first | (with_reducible first | exact HB.out | apply below_alloc | apply pw_below_drewN | apply below_drew1) | exact HB.out)) | exact HG.out); rintro e w66 ⟨rfl, hb⟩; have n0_ := Aside0.mk (below_step (by repeat (first | (with_reducible first | exact HB.out | apply below_alloc | apply pw_below_drewN | apply below_drew1) | exact HB.out)) hb); clear HB; have HB := n0_; clear n0_; (try clear hb); (try clear hb2); (try clear hk); (try clear hi)) | (go_at_call 13; (with_reducible refine (attrs_Read.calls a0 0 t165 t166 t167 false _ ?side1 A5.out).mono ?_); (case side1 => first | (with_reducible exact HG.out) | exact Gl.below HG.out (by repeat (first | (with_reducible first | exact HB.out | apply below_alloc | apply pw_below_drewN | apply below_drew1) | exact HB.out)) | exact HG.out); rintro e w67 ⟨v169, rfl, ho0, hb⟩; have n0_ := Aside0.mk (Kd.R_lower ho0 (below_size (by repeat (first | (with_reducible first | exact HB.out | apply below_alloc | apply pw_below_drewN | apply below_drew1) | exact HB.out)))); have n1_ := Aside0.mk (below_step (by repeat (first | (with_reducible first | exact HB.out | apply below_alloc | apply pw_below_drewN | apply below_drew1) | exact HB.out)) hb); clear HB; have HO170 := n0_; have HB := n1_; clear n0_ n1_; (try clear hb); (try clear hb2); (try clear hk); (try clear hi); (try clear ho0); obtain ⟨Ao68, co68, eo68⟩ := Kd.R_slice HO170.out; subst eo68)))
          go_ret
          exact ⟨by first | rfl | (simp [errW_none, errW_some] <;> rfl) | (simp [*, errW_none, errW_some] <;> rfl), by repeat (first | (with_reducible first | exact HB.out | apply below_alloc | apply pw_below_drewN | apply below_drew1) | exact HB.out)⟩
      · replace c57 := Bool.eq_false_iff.mpr c57
        subst c57
        have H1 : (some false) = some r := by rw [if_neg (show ¬ (false = true) by decide)] at H; exact H
        clear H
        have H := H1
        clear H1
        obtain rfl := Option.some.inj H
        go_enter Tryd.func3, Tryd.ntmps3
        go_wp2_with (first | (go_at_call 12; (with_reducible refine (flaillaw08_awake.calls k  false _ ?side1 A2.out).mono ?_); (case side1 => first | (with_reducible exact HG.out) | exact Gl.below HG.out (by repeat (first | (with_reducible first | exact HB.out | apply below_alloc | apply pw_below_drewN | apply below_drew1) | exact HB.out)) | exact HG.out); rintro e w69 ⟨rfl, hb⟩; have n0_ := Aside0.mk (below_step (by repeat (first | (with_reducible first | exact HB.out | apply below_alloc | apply pw_below_drewN | apply below_drew1) | exact HB.out)) hb); clear HB; have HB := n0_; clear n0_; (try clear hb); (try clear hb2); (try clear hk); (try clear hi)) | (go_at_call 13; (with_reducible refine (attrs_Read.calls a0 0 t165 t166 t167 false _ ?side1 A5.out).mono ?_); (case side1 => first | (with_reducible exact HG.out) | exact Gl.below HG.out (by repeat (first | (with_reducible first | exact HB.out | apply below_alloc | apply pw_below_drewN | apply below_drew1) | exact HB.out)) | exact HG.out); rintro e w70 ⟨v169, rfl, ho0, hb⟩; have n0_ := Aside0.mk (Kd.R_lower ho0 (below_size (by repeat (first | (with_reducible first | exact HB.out | apply below_alloc | apply pw_below_drewN | apply below_drew1) | exact HB.out)))); have n1_ := Aside0.mk (below_step (by repeat (first | (with_reducible first | exact HB.out | apply below_alloc | apply pw_below_drewN | apply below_drew1) | exact HB.out)) hb); clear HB; have HO170 := n0_; have HB := n1_; clear n0_ n1_; (try clear hb); (try clear hb2); (try clear hk); (try clear hi); (try clear ho0)))
        repeat (go_quiet (first | (go_at_call 12; (with_reducible refine (flaillaw08_awake.calls k  false _ ?side1 A2.out).mono ?_); (case side1 => first | (with_reducible exact HG.out) | exact Gl.below HG.out (by repeat (first | (with_reducible first | exact HB.out | apply below_alloc | apply pw_below_drewN | apply below_drew1) | exact HB.out)) | exact HG.out); rintro e w69 ⟨rfl, hb⟩; have n0_ := Aside0.mk (below_step (by repeat (first | (with_reducible first | exact HB.out | apply below_alloc | apply pw_below_drewN | apply below_drew1) | exact HB.out)) hb); clear HB; have HB := n0_; clear n0_; (try clear hb); (try clear hb2); (try clear hk); (try clear hi)) | (go_at_call 13; (with_reducible refine (attrs_Read.calls a0 0 t165 t166 t167 false _ ?side1 A5.out).mono ?_); (case side1 => first | (with_reducible exact HG.out) | exact Gl.below HG.out (by repeat (first | (with_reducible first | exact HB.out | apply below_alloc | apply pw_below_drewN | apply below_drew1) | exact HB.out)) | exact HG.out); rintro e w70 ⟨v169, rfl, ho0, hb⟩; have n0_ := Aside0.mk (Kd.R_lower ho0 (below_size (by repeat (first | (with_reducible first | exact HB.out | apply below_alloc | apply pw_below_drewN | apply below_drew1) | exact HB.out)))); have n1_ := Aside0.mk (below_step (by repeat (first | (with_reducible first | exact HB.out | apply below_alloc | apply pw_below_drewN | apply below_drew1) | exact HB.out)) hb); clear HB; have HO170 := n0_; have HB := n1_; clear n0_ n1_; (try clear hb); (try clear hb2); (try clear hk); (try clear hi); (try clear ho0))); try go_wp2_with (first | (go_at_call 12; (with_reducible refine (flaillaw08_awake.calls k  false _ ?side1 A2.out).mono ?_); (case side1 => first | (with_reducible exact HG.out) | exact Gl.below HG.out (by repeat (first | (with_reducible first | exact HB.out | apply below_alloc | apply pw_below_drewN | apply below_drew1) | exact HB.out)) | exact HG.out); rintro e w69 ⟨rfl, hb⟩; have n0_ := Aside0.mk (below_step (by repeat (first | (with_reducible first | exact HB.out | apply below_alloc | apply pw_below_drewN | apply below_drew1) | exact HB.out)) hb); clear HB; have HB := n0_; clear n0_; (try clear hb); (try clear hb2); (try clear hk); (try clear hi)) | (go_at_call 13; (with_reducible refine (attrs_Read.calls a0 0 t165 t166 t167 false _ ?side1 A5.out).mono ?_); (case side1 => first | (with_reducible exact HG.out) | exact Gl.below HG.out (by repeat (first | (with_reducible first | exact HB.out | apply below_alloc | apply pw_below_drewN | apply below_drew1) | exact HB.out)) | exact HG.out); rintro e w70 ⟨v169, rfl, ho0, hb⟩; have n0_ := Aside0.mk (Kd.R_lower ho0 (below_size (by repeat (first | (with_reducible first | exact HB.out | apply below_alloc | apply pw_below_drewN | apply below_drew1) | exact HB.out)))); have n1_ := Aside0.mk (below_step (by repeat (first | (with_reducible first | exact HB.out | apply below_alloc | apply pw_below_drewN | apply below_drew1) | exact HB.out)) hb); clear HB; have HO170 := n0_; have HB := n1_; clear n0_ n1_; (try clear hb); (try clear hb2); (try clear hk); (try clear hi); (try clear ho0))))
        go_ret
        exact ⟨by first | rfl | (simp [errW_none, errW_some] <;> rfl) | (simp [*, errW_none, errW_some] <;> rfl), by repeat (first | (with_reducible first | exact HB.out | apply below_alloc | apply pw_below_drewN | apply below_drew1) | exact HB.out)⟩

/-- THE ONE PURE STATEMENT of flaillaw08_AttrsUnlike: yours. -/
def flaillaw08_AttrsUnlike.Pure : Prop := ∀ (a0 : ByteArray), a0.size ≤ 140737488351232 → ∃ k, flaillaw08_AttrsUnlike.f k a0 = some true
theorem flaillaw08_AttrsUnlike.walk (P : flaillaw08_AttrsUnlike.Pure) (a0 : ByteArray) (w : World) (hG : Gl w) (w0 : a0.size ≤ 140737488351232) :
    Calls Tryd.prog 3 #[.string a0] w fun e w' => e = .returned (.bool true) ∧ Below w.heap.size w w' := by
  obtain ⟨k, h⟩ := P a0 w0
  refine (flaillaw08_AttrsUnlike.calls k a0 true w hG h).mono ?_
  rintro e w' ⟨rfl, hd⟩
  exact ⟨rfl, hd⟩

end Go.Proofs.YtfhjfidkcdcjnaaDoor.Q

/- AttrsUnlike: the pure statement. -/
namespace Go.Proofs.YtfhjfidkcdcjnaaDoor.Pure
open Go Go.RowKit Go.Proofs.YtfhjfidkcdcjnaaDoor.Q Go.Proofs.YtfhjfidkcdcjnaaDoorW.PrintWords Go.Proofs.YtfhjfidkcdcjnaaDoorW.PrintLast Go.Proofs.YtfhjfidkcdcjnaaDoorW.PrintMore
set_option linter.unusedVariables false
set_option linter.unusedSimpArgs false

/-- What a byte of a name is like, in whole numbers. -/
structure NByte (x : Int) : Prop where
  n32 : ¬ x = 32
  n10 : ¬ x = 10
  n9 : ¬ x = 9
  n12 : ¬ x = 12
  n47 : ¬ x = 47
  n62 : ¬ x = 62
  n0 : ¬ x = 0
  up : x < 65 ∨ 90 < x
theorem okc_byte (c : UInt8) (h : Fl.okc c = true) : NByte (c.toNat : Int) := by
  have := Fl.byteAll (fun c => !(Fl.okc c) || (c.toNat != 32 && c.toNat != 10 && c.toNat != 9 && c.toNat != 12 && c.toNat != 47 && c.toNat != 62 && c.toNat != 0 && (Nat.blt c.toNat 65 || Nat.blt 90 c.toNat))) (by decide +kernel) c
  rw [h] at this
  simp only [Bool.not_true, Bool.false_or, Bool.and_eq_true, Bool.or_eq_true, bne_iff_ne, Nat.blt_eq] at this
  obtain ⟨⟨⟨⟨⟨⟨⟨a, b⟩, c'⟩, d⟩, e⟩, f⟩, g⟩, h⟩ := this
  exact ⟨by omega, by omega, by omega, by omega, by omega, by omega, by omega, by omega⟩
theorem unlike_l2 (l : List Fl.Att) (i : Nat) (hi : i < l.length) (hl : l.length < 2147483648) (hn : l[i].1.length < 2147483648) (ho : Fl.okName l[i].1)
    (r : Bool) (next : Ev (fun k => flaillaw08_AttrsUnlike.l0 k true (l.map toS) ((i + 1 : Nat) : Int)) r) :
    ∀ (d j : Nat), j + d = l[i].1.length → Ev (fun k => flaillaw08_AttrsUnlike.l2 k true (l.map toS) (i : Int) (j : Int)) r := by
  intro d
  induction d with
  | zero =>
    intro j hj
    refine Ev.step (f := fun k => flaillaw08_AttrsUnlike.l0 k true (l.map toS) ((i + 1 : Nat) : Int)) (fun k => ?_) next
    simp only [flaillaw08_AttrsUnlike.l2, rd_map l i hi]
    rw [if_pos (by omega), if_pos (by rw [List.length_map]; omega), if_neg (by show ¬ ((j : Int) < ((Fl.ofL l[i].1).size : Int)); rw [Fl.ofL_size]; omega), Fl.wrap_in _ (by omega) (by omega)]
    rfl
  | succ d ih =>
    intro j hj
    have hjl : j < l[i].1.length := by omega
    have hb := bt_ofL l[i].1 j hjl
    have hok : Fl.okc l[i].1[j] = true ∧ (0 < j → l[i].1[j] ≠ 61) := by
      obtain ⟨c, t, e, h1, h2⟩ := ho
      cases j with
      | zero => exact ⟨by simp only [e, List.getElem_cons_zero]; exact h1, fun h => by omega⟩
      | succ j =>
        have hm : l[i].1[j + 1] ∈ t := by simp only [e, List.getElem_cons_succ]; exact List.getElem_mem _
        exact ⟨(h2 _ hm).1, fun _ => (h2 _ hm).2⟩
    have hB := okc_byte _ hok.1
    have h61 : ((l[i].1[j]).toNat : Int) = 61 → ¬ ((j : Int) > 0) := by
      intro e h
      exact hok.2 (by omega) (UInt8.toNat_inj.1 (by have : (61 : UInt8).toNat = 61 := rfl; omega))
    obtain ⟨x, hx⟩ : ∃ x, ((l[i].1[j]).toNat : Int) = x := ⟨_, rfl⟩
    rw [hx] at hb hB h61
    refine Ev.step (f := fun k => flaillaw08_AttrsUnlike.l2 k true (l.map toS) (i : Int) ((j + 1 : Nat) : Int)) (fun k => ?_) (ih (j + 1) (by omega))
    simp only [flaillaw08_AttrsUnlike.l2, rd_map l i hi]
    rw [if_pos (by omega), if_pos (by rw [List.length_map]; omega), if_pos (by show (j : Int) < ((Fl.ofL l[i].1).size : Int); rw [Fl.ofL_size]; omega), if_pos (by omega)]
    rw [show (toS l[i]).f0 = Fl.ofL l[i].1 from rfl, hb, if_neg hB.n32, if_neg hB.n10, if_neg hB.n9, if_neg hB.n12, if_neg hB.n47, if_neg hB.n62, if_neg hB.n0, Fl.wrap_in ((j : Int) + 1) (by omega) (by omega)]
    have hU : ∀ (p q : Option Bool), (if x ≥ 65 then (if x ≤ 90 then p else q) else q) = q := by
      intro p q
      split
      · rw [if_neg (by have := hB.up; omega)]
      · rfl
    rw [hU]
    split
    · rename_i e
      rw [if_neg (h61 e)]; rfl
    · rfl
theorem unlike_l1 (l : List Fl.Att) (i : Nat) (hi : i < l.length) (hl : l.length < 2147483648) (hu : ∀ j (hj : j < i), l[j].1 ≠ l[i].1)
    (r : Bool) (next : Ev (fun k => flaillaw08_AttrsUnlike.l2 k true (l.map toS) (i : Int) 0) r) :
    ∀ (d j : Nat), j + d = i → Ev (fun k => flaillaw08_AttrsUnlike.l1 k true (l.map toS) (i : Int) (j : Int)) r := by
  intro d
  induction d with
  | zero =>
    intro j hj
    refine Ev.step (f := fun k => flaillaw08_AttrsUnlike.l2 k true (l.map toS) (i : Int) 0) (fun k => ?_) next
    simp only [flaillaw08_AttrsUnlike.l1]
    rw [if_neg (by omega)]
  | succ d ih =>
    intro j hj
    refine Ev.step (f := fun k => flaillaw08_AttrsUnlike.l1 k true (l.map toS) (i : Int) ((j + 1 : Nat) : Int)) (fun k => ?_) (ih (j + 1) (by omega))
    simp only [flaillaw08_AttrsUnlike.l1, rd_map l i hi, rd_map l j (by omega)]
    rw [if_pos (by omega), if_pos (by omega), if_pos (by rw [List.length_map]; omega), if_pos (by omega), if_pos (by rw [List.length_map]; omega), if_neg ?_, Fl.wrap_in _ (by omega) (by omega)]
    · rfl
    · intro e
      rw [Fl.toList_toL, Fl.toList_toL] at e
      exact hu j (by omega) e
theorem unlike_l0 (l : List Fl.Att) (hl : l.length < 2147483648) (hn : ∀ a ∈ l, a.1.length < 2147483648) (hg : Fl.Good l) :
    ∀ (d i : Nat), i + d = l.length → Ev (fun k => flaillaw08_AttrsUnlike.l0 k true (l.map toS) (i : Int)) true := by
  intro d
  induction d with
  | zero =>
    intro i hi
    refine Ev.step (f := fun k => some true) (fun k => ?_) (Ev.now _)
    simp only [flaillaw08_AttrsUnlike.l0]
    rw [if_neg (by rw [List.length_map]; omega)]
  | succ d ih =>
    intro i hi
    have hil : i < l.length := by omega
    have ho := hg.names l[i] (List.getElem_mem _)
    have h2 := unlike_l2 l i hil hl (hn _ (List.getElem_mem _)) ho true (ih (i + 1) (by omega)) _ 0 (Nat.zero_add _)
    have h1 := unlike_l1 l i hil hl (fun j hj => (List.pairwise_iff_getElem.1 hg.unlike) j i (by omega) hil hj) true h2 i 0 (by omega)
    refine Ev.step (f := fun k => flaillaw08_AttrsUnlike.l1 k true (l.map toS) (i : Int) 0) (fun k => ?_) h1
    simp only [flaillaw08_AttrsUnlike.l0, rd_map l i hil]
    rw [if_pos (by rw [List.length_map]; omega), if_pos (by omega), if_neg ?_]
    intro e
    rw [Fl.toList_toL] at e
    obtain ⟨c, t, h, _⟩ := ho
    have e' : l[i].1 = [] := e
    rw [h] at e'; cases e'
theorem AttrsUnlike : flaillaw08_AttrsUnlike.Pure := by
  intro s _
  apply Ev.rounds
  unfold flaillaw08_AttrsUnlike.f
  refine Ev.bind awake_ev ?_
  by_cases hs : (s.size : Int) > 300
  · simp only [if_pos hs]; exact Ev.now true
  · simp only [if_neg hs]
    cases hr : Fl.readL (Fl.toL s) with
    | none =>
      rw [read_none (by omega) hr]
      simp only [Option.bind_some]
      refine Ev.congr (f := fun _ => some true) (fun k => ?_) (Ev.now true)
      simp
    | some x =>
      obtain ⟨l, b, r⟩ := x
      rw [read_some (by omega) hr]
      simp only [Option.bind_some]
      obtain ⟨p, hp, hb, _⟩ := Fl.readL_local hr
      have hsz : s.size = p.length + 1 + r.length := by
        have := congrArg List.length hp
        rw [Fl.toL_length] at this; simp at this; omega
      have hM : s.size - r.length = p.length + 1 := by omega
      rw [hM]
      have hcount := Fl.readL_count hr
      rw [Fl.toL_length] at hcount
      have hg := Fl.readL_good hr
      have hn : ∀ a ∈ l, a.1.length < 2147483648 := fun a ha => by
        have := Fl.readL_short hr a ha
        rw [Fl.toL_length] at this; omega
      have h0 := unlike_l0 l (by omega) hn hg l.length 0 (by omega)
      have hend : bt s ((p.length : Nat) : Int) = 62 := by
        rw [bt_toL s p.length (by omega)]
        simp only [hp]
        rw [List.getElem_append_right (Nat.le_refl _)]; simp
      have hj2 : Ev (fun k => flaillaw08_AttrsUnlike.j2 k true (l.map toS) false) true := by
        refine Ev.step (f := fun k => flaillaw08_AttrsUnlike.l0 k true (l.map toS) 0) (fun k => ?_) h0
        simp only [flaillaw08_AttrsUnlike.j2]
        rw [if_neg (by simp)]
      refine Ev.congr (f := fun k => flaillaw08_AttrsUnlike.j0 k s true (l.map toS) b ((p.length + 1 : Nat) : Int) false) (fun k => by rw [if_pos trivial, if_neg (by omega), decide_eq_false (by omega)]) ?_
      have hw1 : wrap64 (((p.length + 1 : Nat) : Int) - 1) = (p.length : Int) := by rw [Fl.wrap_in _ (by omega) (by omega)]; omega
      cases b with
      | false =>
        have hj1 : Ev (fun k => flaillaw08_AttrsUnlike.j1 k s true (l.map toS) false ((p.length + 1 : Nat) : Int) false) true := by
          refine Ev.step (f := fun k => flaillaw08_AttrsUnlike.j2 k true (l.map toS) false) (fun k => ?_) hj2
          simp only [flaillaw08_AttrsUnlike.j1]
          rw [if_neg (by simp), if_neg (by simp)]
        refine Ev.step (f := fun k => flaillaw08_AttrsUnlike.j1 k s true (l.map toS) false ((p.length + 1 : Nat) : Int) false) (fun k => ?_) hj1
        simp only [flaillaw08_AttrsUnlike.j0]
        rw [if_neg (by simp), hw1, if_pos (by omega), if_pos (by omega), hend, if_pos rfl, if_neg (by simp)]
      | true =>
        obtain ⟨p', hp'⟩ := hb rfl
        have hpl : p.length = p'.length + 1 := by rw [hp']; simp
        have h47 : bt s ((p'.length : Nat) : Int) = 47 := by
          rw [bt_toL s p'.length (by omega)]
          simp only [hp, hp']
          rw [List.getElem_append_left (by simp), List.getElem_append_right (Nat.le_refl _)]; simp
        have hw2 : wrap64 (((p.length + 1 : Nat) : Int) - 2) = (p'.length : Int) := by rw [Fl.wrap_in _ (by omega) (by omega)]; omega
        have hj1 : Ev (fun k => flaillaw08_AttrsUnlike.j1 k s true (l.map toS) true ((p.length + 1 : Nat) : Int) false) true := by
          refine Ev.step (f := fun k => flaillaw08_AttrsUnlike.j2 k true (l.map toS) false) (fun k => ?_) hj2
          simp only [flaillaw08_AttrsUnlike.j1]
          rw [if_neg (by simp), if_pos trivial, hw2, if_pos (by omega), if_pos (by omega), h47]; rfl
        refine Ev.step (f := fun k => flaillaw08_AttrsUnlike.j1 k s true (l.map toS) true ((p.length + 1 : Nat) : Int) false) (fun k => ?_) hj1
        simp only [flaillaw08_AttrsUnlike.j0]
        rw [if_neg (by simp), hw1, if_pos (by omega), if_pos (by omega), hend, if_pos rfl, if_pos trivial, decide_eq_false (by omega)]
end Go.Proofs.YtfhjfidkcdcjnaaDoor.Pure

/- The law AttrsUnlike: its row and its card. -/
namespace Go.Proofs.YtfhjfidkcdcjnaaDoor.attrsUnlike
open Go.ChangeShapes Go.WideShapes Go.ChangeAt Go.RowKit
open Go.ChangeMaps (open_string shut_string)
set_option linter.unusedVariables false
set_option maxRecDepth 100000 in
theorem lifted (os : Os) (started : os.Started) (H : Type) (enc : TypeId × Value → H) :
    ReturnsInHanded {} Tryd.checked os 3 .any (fun w args => (Rows.attrsUnlikeSpec.pre enc Tryd.prog Tryd.f3 Rows.attrsUnlikeRow.domain false w args ∧ laidMetH Tryd.prog laid7 w) ∧ sizedMet enc Tryd.prog Tryd.f3 (OpenSpec.ofChange Rows.attrsUnlikeSpec) false w args) (Rows.attrsUnlikeSpec.post enc Tryd.prog Tryd.f3 false true false false) := by
  refine row_returns started (by kernel_rfl) Tryd.func3 #[.string ByteArray.empty] (by kernel_rfl) (by kernel_rfl) (by kernel_rfl) ?_
  intro W base args ds gs before hval0 hW hsz0 hG
  have hsz : (DataW.weightsEach Tryd.prog (Tryd.f3.params.toList ++ Rows.attrsUnlikeSpec.plain.varTypes Tryd.prog) (ds ++ gs)).all (· ≤ reachBytes) = true := hsz0
  have hval : ∀ (j : Nat) t v, Tryd.f3.params[j]? = some t → args[j]? = some v → Value.okWide Tryd.prog W .any base t v := hval0
  have hW' := hW
  obtain ⟨p, q, hA0, hV, rfl, hfz, hnd⟩ := hW
  have hA : DataW.TrodAll enc Tryd.prog W 0 (fun _ => true) true Tryd.f3.params.toList args.toList ds p := hA0
  rw [Tryd.params3] at hA hval hsz
  obtain ⟨v0, vs0, d0, ds0, p0, q0, hargs, rfl, rfl, h0, r0⟩ := trodAll_cons hA
  obtain ⟨rfl, rfl, rfl⟩ := trodAll_nil r0
  obtain rfl : args = #[v0] := by cases args; simp_all
  obtain ⟨rfl, rfl⟩ := trodVars_none hV
  obtain ⟨a0, rfl, rfl, rfl, y0⟩ := open_string Tryd.underlying9 (hval 0 9 v0 rfl rfl) h0
  have w0 : a0.size ≤ 140737488351232 := by
    have z := sized_string hsz (j := 0) (t := 9) rfl rfl
    rw [Array.length_toList] at z
    exact z
  clear hA0 hval0 hsz0 hsz
  refine (Q.flaillaw08_AttrsUnlike.walk Pure.AttrsUnlike a0 W hG w0).mono fun e W' ⟨he, bel⟩ => ?_
  subst he
  exact ⟨_, rfl, _, _, _, [], _, [], hW', trodAll_mk1 (shut_bool Tryd.underlying4 _), (trodAll_cons_mk (shut_string Tryd.underlying9 y0) trodAll_mk0), rfl, bel.frame _, fun h => by cases h⟩
theorem over : Rows.attrsUnlikeRow.holds Tryd.pinned (OpenSpec.ofChange Rows.attrsUnlikeSpec) :=
  OpenClaim.holds_of_wide 3 Tryd.f3 rfl rfl rfl rfl rfl rfl rfl ⟨rfl, rfl, rfl, rfl, rfl⟩ rfl rfl rfl rfl rfl (by kernel_rfl) Tryd.func3 (by kernel_rfl)
    (of_decide_eq_true (by kernel_rfl)) (by unfold Func.isWrapper; first | (rw [if_pos (by decide +kernel)]; kernel_rfl) | (rw [if_neg (by decide +kernel)]; exact ⟨rfl, rfl⟩))
    (fun os started H enc _ => lifted os started H enc)
theorem proved : Rows.AttrsUnlikeCardSaid :=
  Claim7.holds_tied_plain_at .later [] [.data, .data, .data, .data, .sentinel, .sentinel, .pinned] true Rows.attrsUnlikeCard.stood.harness true over (fun _ h => by cases h) (by kernel_rfl) (fun _ h => by cases h) attrsUnlike_row_tie rfl ⟨rfl, rfl⟩ (by kernel_rfl) rfl
    (card_in 3 Tryd.func3 (by kernel_rfl) [9] Tryd.params3 (by kernel_rfl) (by kernel_rfl)) (by kernel_rfl)
end Go.Proofs.YtfhjfidkcdcjnaaDoor.attrsUnlike
namespace Go.Proofs.YtfhjfidkcdcjnaaDoor
theorem attrsUnlike_holds : Rows.AttrsUnlikeCardSaid := attrsUnlike.proved
#print axioms attrsUnlike_holds
end Go.Proofs.YtfhjfidkcdcjnaaDoor
