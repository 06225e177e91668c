/- The law TagCase, proved whole (for every input, as the given card says; no condition beyond it): its row and its card, and what they lean on. -/
import Derived.Test.YtfhjfidkcdcjnaaDoorT1
import Derived.Test.YtfhjfidkcdcjnaaDoorTie
import Derived.Test.YtfhjfidkcdcjnaaDoorCards
set_option linter.unusedVariables false
set_option linter.unusedSimpArgs false
set_option linter.unusedSectionVars false

namespace Go.Proofs.YtfhjfidkcdcjnaaDoor.Q
open Go.RowKit Go.Proofs.YtfhjfidkcdcjnaaDoorW.PrintWords Go.Proofs.YtfhjfidkcdcjnaaDoorW.PrintLast Go.Proofs.YtfhjfidkcdcjnaaDoorW.PrintMore
attribute [local go_sem] max2_int min2_int max_two min_two max_three min_three max_four min_four   -- for this text's walks alone
set_option linter.unusedVariables false
set_option linter.unusedSimpArgs false

/-! ### flaillaw09_TagCase: function 11 -/
mutual
noncomputable def flaillaw09_TagCase.j0 : Nat → Bool → Bool → Int → ByteArray → ByteArray → List (S27) → Bool → Int → ByteArray → ByteArray → List (S27) → Bool → Option (Bool)
  | 0, _, _, _, _, _, _, _, _, _, _, _, _ => none
  | k + 1, x3, x66, x385000, x385001, x385002, x385003, x385004, x396000, x396001, x396002, x396003, x396004 => if x66 = true then (some false) else (flaillaw09_TagCase.l0 k x3 0 x385000 x385001 x385002 x385003 x385004 x396000 x396001 x396002 x396003 x396004)
noncomputable def flaillaw09_TagCase.l0 : Nat → Bool → Int → Int → ByteArray → ByteArray → List (S27) → Bool → Int → ByteArray → ByteArray → List (S27) → Bool → Option (Bool)
  | 0, _, _, _, _, _, _, _, _, _, _, _, _ => none
  | k + 1, x3, x10, x385000, x385001, x385002, x385003, x385004, x396000, x396001, x396002, x396003, x396004 => if x10 < (x385003.length : Int) then (if 0 ≤ x10 then (if x10 < (x396003.length : Int) then (if ((rd_T27 x385003 x10).f0).toList = ((rd_T27 x396003 x10).f0).toList then (flaillaw09_TagCase.l0 k x3 (wrap64 (x10 + 1)) x385000 x385001 x385002 x385003 x385004 x396000 x396001 x396002 x396003 x396004) else (some false)) else (none)) else (none)) else (some x3)
end
noncomputable def flaillaw09_TagCase.f (k : Nat) (a0 : ByteArray) : Option (Bool) := (flaillaw09_awake.f k).bind fun t374 => (if (a0.size : Int) > 300 then (some t374) else ((tag_Read.f a0 0).bind fun bt375 => ((sign_Lower.f a0).bind fun t385 => ((tag_Read.f t385 0).bind fun bt386 => (if bt375.2.2.2.2.2.1 = bt386.2.2.2.2.2.1 then (if (bt375.2.2.2.2.2.2 != bt386.2.2.2.2.2.2) = true then (flaillaw09_TagCase.j0 k t374 true bt375.1 bt375.2.1 bt375.2.2.1 bt375.2.2.2.1 bt375.2.2.2.2.1 bt386.1 bt386.2.1 bt386.2.2.1 bt386.2.2.2.1 bt386.2.2.2.2.1) else (if bt375.2.1.toList = bt386.2.1.toList then (if bt375.1 = bt386.1 then (if (bt375.2.2.2.2.1 != bt386.2.2.2.2.1) = true then (flaillaw09_TagCase.j0 k t374 true bt375.1 bt375.2.1 bt375.2.2.1 bt375.2.2.2.1 bt375.2.2.2.2.1 bt386.1 bt386.2.1 bt386.2.2.1 bt386.2.2.2.1 bt386.2.2.2.2.1) else (flaillaw09_TagCase.j0 k t374 ((bt375.2.2.2.1.length : Int) != (bt386.2.2.2.1.length : Int)) bt375.1 bt375.2.1 bt375.2.2.1 bt375.2.2.2.1 bt375.2.2.2.2.1 bt386.1 bt386.2.1 bt386.2.2.1 bt386.2.2.2.1 bt386.2.2.2.2.1)) else (flaillaw09_TagCase.j0 k t374 true bt375.1 bt375.2.1 bt375.2.2.1 bt375.2.2.2.1 bt375.2.2.2.2.1 bt386.1 bt386.2.1 bt386.2.2.1 bt386.2.2.2.1 bt386.2.2.2.2.1)) else (flaillaw09_TagCase.j0 k t374 true bt375.1 bt375.2.1 bt375.2.2.1 bt375.2.2.2.1 bt375.2.2.2.2.1 bt386.1 bt386.2.1 bt386.2.2.1 bt386.2.2.2.1 bt386.2.2.2.2.1))) else (flaillaw09_TagCase.j0 k t374 true bt375.1 bt375.2.1 bt375.2.2.1 bt375.2.2.2.1 bt375.2.2.2.2.1 bt386.1 bt386.2.1 bt386.2.2.1 bt386.2.2.2.1 bt386.2.2.2.2.1))))))
theorem flaillaw09_TagCase.mono_l : ∀ k, (∀ y0 y1 y2 y3 y4 y5 y6 y7 y8 y9 y10 y11, LeO (flaillaw09_TagCase.j0 k y0 y1 y2 y3 y4 y5 y6 y7 y8 y9 y10 y11) (flaillaw09_TagCase.j0 (k + 1) y0 y1 y2 y3 y4 y5 y6 y7 y8 y9 y10 y11)) ∧ (∀ y0 y1 y2 y3 y4 y5 y6 y7 y8 y9 y10 y11, LeO (flaillaw09_TagCase.l0 k y0 y1 y2 y3 y4 y5 y6 y7 y8 y9 y10 y11) (flaillaw09_TagCase.l0 (k + 1) y0 y1 y2 y3 y4 y5 y6 y7 y8 y9 y10 y11))
  | 0 => ⟨fun _ _ _ _ _ _ _ _ _ _ _ _ r h => by simp [flaillaw09_TagCase.j0] at h, fun _ _ _ _ _ _ _ _ _ _ _ _ r h => by simp [flaillaw09_TagCase.l0] at h⟩
  | k + 1 => by
    obtain ⟨ih0, ih1⟩ := flaillaw09_TagCase.mono_l k
    refine ⟨?_, ?_⟩
    · intro y0 y1 y2 y3 y4 y5 y6 y7 y8 y9 y10 y11
      unfold flaillaw09_TagCase.j0
      repeat' first
      | (with_reducible exact ih0 _ _ _ _ _ _ _ _ _ _ _ _)
      | (with_reducible exact ih1 _ _ _ _ _ _ _ _ _ _ _ _)
      | (with_reducible exact flaillaw09_awake.mono _)
      | (with_reducible exact LeO.refl _)
      | (with_reducible exact LeO.none _)
      | (with_reducible refine LeO.ite ?_ ?_)
      | (with_reducible refine LeO.bind ?_ (fun _ => ?_))
      | exact ih0 _ _ _ _ _ _ _ _ _ _ _ _
      | exact ih1 _ _ _ _ _ _ _ _ _ _ _ _
      | exact flaillaw09_awake.mono _
      | exact LeO.none _
      | refine LeO.ite ?_ ?_
      | refine LeO.bind ?_ (fun _ => ?_)
    · intro y0 y1 y2 y3 y4 y5 y6 y7 y8 y9 y10 y11
      unfold flaillaw09_TagCase.l0
      repeat' first
      | (with_reducible exact ih0 _ _ _ _ _ _ _ _ _ _ _ _)
      | (with_reducible exact ih1 _ _ _ _ _ _ _ _ _ _ _ _)
      | (with_reducible exact flaillaw09_awake.mono _)
      | (with_reducible exact LeO.refl _)
      | (with_reducible exact LeO.none _)
      | (with_reducible refine LeO.ite ?_ ?_)
      | (with_reducible refine LeO.bind ?_ (fun _ => ?_))
      | exact ih0 _ _ _ _ _ _ _ _ _ _ _ _
      | exact ih1 _ _ _ _ _ _ _ _ _ _ _ _
      | exact flaillaw09_awake.mono _
      | exact LeO.none _
      | refine LeO.ite ?_ ?_
      | refine LeO.bind ?_ (fun _ => ?_)
theorem flaillaw09_TagCase.mono : ∀ a0 k, LeO (flaillaw09_TagCase.f k a0) (flaillaw09_TagCase.f (k + 1) a0) := by
  intro a0 k
  obtain ⟨ih0, ih1⟩ := flaillaw09_TagCase.mono_l k
  unfold flaillaw09_TagCase.f
  repeat' first
      | (with_reducible exact ih0 _ _ _ _ _ _ _ _ _ _ _ _)
      | (with_reducible exact ih1 _ _ _ _ _ _ _ _ _ _ _ _)
      | (with_reducible exact flaillaw09_awake.mono _)
      | (with_reducible exact LeO.refl _)
      | (with_reducible exact LeO.none _)
      | (with_reducible refine LeO.ite ?_ ?_)
      | (with_reducible refine LeO.bind ?_ (fun _ => ?_))
      | exact ih0 _ _ _ _ _ _ _ _ _ _ _ _
      | exact ih1 _ _ _ _ _ _ _ _ _ _ _ _
      | exact flaillaw09_awake.mono _
      | exact LeO.none _
      | refine LeO.ite ?_ ?_
      | refine LeO.bind ?_ (fun _ => ?_)
set_option maxHeartbeats 8000000 in
set_option maxRecDepth 100000 in
theorem flaillaw09_TagCase.calls (k : Nat) (a0 : ByteArray) (r : Bool) (w : World) (hG : Gl w) (h : flaillaw09_TagCase.f k a0 = some r) :
    Calls Tryd.prog 11 #[.string a0] w fun e w' => e = .returned (.bool r) ∧ Below w.heap.size w w' := by
  have hu39 := Tryd.underlying39
  have HB := Aside0.mk (Below.refl w.heap.size w)
  have HG := Aside0.mk hG
  clear hG
  have H : ((flaillaw09_awake.f k).bind fun t374 => (if (a0.size : Int) > 300 then (some t374) else ((tag_Read.f a0 0).bind fun bt375 => ((sign_Lower.f a0).bind fun t385 => ((tag_Read.f t385 0).bind fun bt386 => (if bt375.2.2.2.2.2.1 = bt386.2.2.2.2.2.1 then (if (bt375.2.2.2.2.2.2 != bt386.2.2.2.2.2.2) = true then (flaillaw09_TagCase.j0 k t374 true bt375.1 bt375.2.1 bt375.2.2.1 bt375.2.2.2.1 bt375.2.2.2.2.1 bt386.1 bt386.2.1 bt386.2.2.1 bt386.2.2.2.1 bt386.2.2.2.2.1) else (if bt375.2.1.toList = bt386.2.1.toList then (if bt375.1 = bt386.1 then (if (bt375.2.2.2.2.1 != bt386.2.2.2.2.1) = true then (flaillaw09_TagCase.j0 k t374 true bt375.1 bt375.2.1 bt375.2.2.1 bt375.2.2.2.1 bt375.2.2.2.2.1 bt386.1 bt386.2.1 bt386.2.2.1 bt386.2.2.2.1 bt386.2.2.2.2.1) else (flaillaw09_TagCase.j0 k t374 ((bt375.2.2.2.1.length : Int) != (bt386.2.2.2.1.length : Int)) bt375.1 bt375.2.1 bt375.2.2.1 bt375.2.2.2.1 bt375.2.2.2.2.1 bt386.1 bt386.2.1 bt386.2.2.1 bt386.2.2.2.1 bt386.2.2.2.2.1)) else (flaillaw09_TagCase.j0 k t374 true bt375.1 bt375.2.1 bt375.2.2.1 bt375.2.2.2.1 bt375.2.2.2.2.1 bt386.1 bt386.2.1 bt386.2.2.1 bt386.2.2.2.1 bt386.2.2.2.2.1)) else (flaillaw09_TagCase.j0 k t374 true bt375.1 bt375.2.1 bt375.2.2.1 bt375.2.2.2.1 bt375.2.2.2.2.1 bt386.1 bt386.2.1 bt386.2.2.1 bt386.2.2.2.1 bt386.2.2.2.2.1))) else (flaillaw09_TagCase.j0 k t374 true bt375.1 bt375.2.1 bt375.2.2.1 bt375.2.2.2.1 bt375.2.2.2.2.1 bt386.1 bt386.2.1 bt386.2.2.1 bt386.2.2.2.1 bt386.2.2.2.2.1))))))) = some r := h
  clear h
  replace H := Option.bind_eq_some_iff.mp H
  obtain ⟨t374, A20, H⟩ := H
  replace H : (if (a0.size : Int) > 300 then (some t374) else ((tag_Read.f a0 0).bind fun bt375 => ((sign_Lower.f a0).bind fun t385 => ((tag_Read.f t385 0).bind fun bt386 => (if bt375.2.2.2.2.2.1 = bt386.2.2.2.2.2.1 then (if (bt375.2.2.2.2.2.2 != bt386.2.2.2.2.2.2) = true then (flaillaw09_TagCase.j0 k t374 true bt375.1 bt375.2.1 bt375.2.2.1 bt375.2.2.2.1 bt375.2.2.2.2.1 bt386.1 bt386.2.1 bt386.2.2.1 bt386.2.2.2.1 bt386.2.2.2.2.1) else (if bt375.2.1.toList = bt386.2.1.toList then (if bt375.1 = bt386.1 then (if (bt375.2.2.2.2.1 != bt386.2.2.2.2.1) = true then (flaillaw09_TagCase.j0 k t374 true bt375.1 bt375.2.1 bt375.2.2.1 bt375.2.2.2.1 bt375.2.2.2.2.1 bt386.1 bt386.2.1 bt386.2.2.1 bt386.2.2.2.1 bt386.2.2.2.2.1) else (flaillaw09_TagCase.j0 k t374 ((bt375.2.2.2.1.length : Int) != (bt386.2.2.2.1.length : Int)) bt375.1 bt375.2.1 bt375.2.2.1 bt375.2.2.2.1 bt375.2.2.2.2.1 bt386.1 bt386.2.1 bt386.2.2.1 bt386.2.2.2.1 bt386.2.2.2.2.1)) else (flaillaw09_TagCase.j0 k t374 true bt375.1 bt375.2.1 bt375.2.2.1 bt375.2.2.2.1 bt375.2.2.2.2.1 bt386.1 bt386.2.1 bt386.2.2.1 bt386.2.2.2.1 bt386.2.2.2.2.1)) else (flaillaw09_TagCase.j0 k t374 true bt375.1 bt375.2.1 bt375.2.2.1 bt375.2.2.2.1 bt375.2.2.2.2.1 bt386.1 bt386.2.1 bt386.2.2.1 bt386.2.2.2.1 bt386.2.2.2.2.1))) else (flaillaw09_TagCase.j0 k t374 true bt375.1 bt375.2.1 bt375.2.2.1 bt375.2.2.2.1 bt375.2.2.2.2.1 bt386.1 bt386.2.1 bt386.2.2.1 bt386.2.2.2.1 bt386.2.2.2.2.1)))))) = some r := H
  have A2 := Aside0.mk A20
  clear A20
  by_cases c3 : (a0.size : Int) > 300
  · rw [if_pos c3] at H
    have c3b0 : decide (300 < (a0.size : Int)) = true := decide_eq_true c3
    have c3b1 : decide (300 < a0.size) = true := decide_eq_true (by omega)
    clear c3
    obtain rfl := Option.some.inj H
    go_enter Tryd.func11, Tryd.ntmps11
    go_wp2_with (first | (go_at_call 17; (with_reducible refine (flaillaw09_awake.calls k  t374 _ ?side1 A2.out).mono ?_); (case side1 => first | (with_reducible exact HG.out) | exact Gl.below HG.out (by repeat (first | (with_reducible first | exact HB.out | apply below_alloc | apply pw_below_drewN | apply below_drew1) | exact HB.out)) | exact HG.out); rintro e w4 ⟨rfl, hb⟩; have n0_ := Aside0.mk (below_step (by repeat (first | (with_reducible first | exact HB.out | apply below_alloc | apply pw_below_drewN | apply below_drew1) | exact HB.out)) hb); clear HB; have HB := n0_; clear n0_; (try clear hb); (try clear hb2); (try clear hk); (try clear hi)))
    repeat (go_quiet (first | (go_at_call 17; (with_reducible refine (flaillaw09_awake.calls k  t374 _ ?side1 A2.out).mono ?_); (case side1 => first | (with_reducible exact HG.out) | exact Gl.below HG.out (by repeat (first | (with_reducible first | exact HB.out | apply below_alloc | apply pw_below_drewN | apply below_drew1) | exact HB.out)) | exact HG.out); rintro e w4 ⟨rfl, hb⟩; have n0_ := Aside0.mk (below_step (by repeat (first | (with_reducible first | exact HB.out | apply below_alloc | apply pw_below_drewN | apply below_drew1) | exact HB.out)) hb); clear HB; have HB := n0_; clear n0_; (try clear hb); (try clear hb2); (try clear hk); (try clear hi))); try go_wp2_with (first | (go_at_call 17; (with_reducible refine (flaillaw09_awake.calls k  t374 _ ?side1 A2.out).mono ?_); (case side1 => first | (with_reducible exact HG.out) | exact Gl.below HG.out (by repeat (first | (with_reducible first | exact HB.out | apply below_alloc | apply pw_below_drewN | apply below_drew1) | exact HB.out)) | exact HG.out); rintro e w4 ⟨rfl, hb⟩; have n0_ := Aside0.mk (below_step (by repeat (first | (with_reducible first | exact HB.out | apply below_alloc | apply pw_below_drewN | apply below_drew1) | exact HB.out)) hb); clear HB; have HB := n0_; clear n0_; (try clear hb); (try clear hb2); (try clear hk); (try clear hi))))
    go_ret
    exact ⟨by first | rfl | (simp [errW_none, errW_some] <;> rfl) | (simp [*, errW_none, errW_some] <;> rfl), by repeat (first | (with_reducible first | exact HB.out | apply below_alloc | apply pw_below_drewN | apply below_drew1) | exact HB.out)⟩
  · rw [if_neg c3] at H
    have c3b0 : decide (300 < (a0.size : Int)) = false := decide_eq_false c3
    have c3b1 : decide (300 < a0.size) = false := decide_eq_false (by omega)
    clear c3
    replace H := Option.bind_eq_some_iff.mp H
    obtain ⟨⟨t375, t376, t377, t378, t381, t382, t383⟩, A50, H⟩ := H
    replace H : ((sign_Lower.f a0).bind fun t385 => ((tag_Read.f t385 0).bind fun bt386 => (if t382 = bt386.2.2.2.2.2.1 then (if (t383 != bt386.2.2.2.2.2.2) = true then (flaillaw09_TagCase.j0 k t374 true t375 t376 t377 t378 t381 bt386.1 bt386.2.1 bt386.2.2.1 bt386.2.2.2.1 bt386.2.2.2.2.1) else (if t376.toList = bt386.2.1.toList then (if t375 = bt386.1 then (if (t381 != bt386.2.2.2.2.1) = true then (flaillaw09_TagCase.j0 k t374 true t375 t376 t377 t378 t381 bt386.1 bt386.2.1 bt386.2.2.1 bt386.2.2.2.1 bt386.2.2.2.2.1) else (flaillaw09_TagCase.j0 k t374 ((t378.length : Int) != (bt386.2.2.2.1.length : Int)) t375 t376 t377 t378 t381 bt386.1 bt386.2.1 bt386.2.2.1 bt386.2.2.2.1 bt386.2.2.2.2.1)) else (flaillaw09_TagCase.j0 k t374 true t375 t376 t377 t378 t381 bt386.1 bt386.2.1 bt386.2.2.1 bt386.2.2.2.1 bt386.2.2.2.2.1)) else (flaillaw09_TagCase.j0 k t374 true t375 t376 t377 t378 t381 bt386.1 bt386.2.1 bt386.2.2.1 bt386.2.2.2.1 bt386.2.2.2.2.1))) else (flaillaw09_TagCase.j0 k t374 true t375 t376 t377 t378 t381 bt386.1 bt386.2.1 bt386.2.2.1 bt386.2.2.2.1 bt386.2.2.2.2.1)))) = some r := H
    have A5 := Aside0.mk A50
    clear A50
    replace H := Option.bind_eq_some_iff.mp H
    obtain ⟨t385, A60, H⟩ := H
    replace H : ((tag_Read.f t385 0).bind fun bt386 => (if t382 = bt386.2.2.2.2.2.1 then (if (t383 != bt386.2.2.2.2.2.2) = true then (flaillaw09_TagCase.j0 k t374 true t375 t376 t377 t378 t381 bt386.1 bt386.2.1 bt386.2.2.1 bt386.2.2.2.1 bt386.2.2.2.2.1) else (if t376.toList = bt386.2.1.toList then (if t375 = bt386.1 then (if (t381 != bt386.2.2.2.2.1) = true then (flaillaw09_TagCase.j0 k t374 true t375 t376 t377 t378 t381 bt386.1 bt386.2.1 bt386.2.2.1 bt386.2.2.2.1 bt386.2.2.2.2.1) else (flaillaw09_TagCase.j0 k t374 ((t378.length : Int) != (bt386.2.2.2.1.length : Int)) t375 t376 t377 t378 t381 bt386.1 bt386.2.1 bt386.2.2.1 bt386.2.2.2.1 bt386.2.2.2.2.1)) else (flaillaw09_TagCase.j0 k t374 true t375 t376 t377 t378 t381 bt386.1 bt386.2.1 bt386.2.2.1 bt386.2.2.2.1 bt386.2.2.2.2.1)) else (flaillaw09_TagCase.j0 k t374 true t375 t376 t377 t378 t381 bt386.1 bt386.2.1 bt386.2.2.1 bt386.2.2.2.1 bt386.2.2.2.2.1))) else (flaillaw09_TagCase.j0 k t374 true t375 t376 t377 t378 t381 bt386.1 bt386.2.1 bt386.2.2.1 bt386.2.2.2.1 bt386.2.2.2.2.1))) = some r := H
    have A6 := Aside0.mk A60
    clear A60
    replace H := Option.bind_eq_some_iff.mp H
    obtain ⟨⟨t386, t387, t388, t389, t392, t393, t394⟩, A70, H⟩ := H
    replace H : (if t382 = t393 then (if (t383 != t394) = true then (flaillaw09_TagCase.j0 k t374 true t375 t376 t377 t378 t381 t386 t387 t388 t389 t392) else (if t376.toList = t387.toList then (if t375 = t386 then (if (t381 != t392) = true then (flaillaw09_TagCase.j0 k t374 true t375 t376 t377 t378 t381 t386 t387 t388 t389 t392) else (flaillaw09_TagCase.j0 k t374 ((t378.length : Int) != (t389.length : Int)) t375 t376 t377 t378 t381 t386 t387 t388 t389 t392)) else (flaillaw09_TagCase.j0 k t374 true t375 t376 t377 t378 t381 t386 t387 t388 t389 t392)) else (flaillaw09_TagCase.j0 k t374 true t375 t376 t377 t378 t381 t386 t387 t388 t389 t392))) else (flaillaw09_TagCase.j0 k t374 true t375 t376 t377 t378 t381 t386 t387 t388 t389 t392)) = some r := H
    have A7 := Aside0.mk A70
    clear A70
    have HC8 := Aside0.mk H
    clear H
    go_enter Tryd.func11, Tryd.ntmps11
    go_upto_region 6 with (first | (go_at_call 17; (with_reducible refine (flaillaw09_awake.calls k  t374 _ ?side1 A2.out).mono ?_); (case side1 => first | (with_reducible exact HG.out) | exact Gl.below HG.out (by repeat (first | (with_reducible first | exact HB.out | apply below_alloc | apply pw_below_drewN | apply below_drew1) | exact HB.out)) | exact HG.out); rintro e w9 ⟨rfl, hb⟩; have n0_ := Aside0.mk (below_step (by repeat (first | (with_reducible first | exact HB.out | apply below_alloc | apply pw_below_drewN | apply below_drew1) | exact HB.out)) hb); clear HB; have HB := n0_; clear n0_; (try clear hb); (try clear hb2); (try clear hk); (try clear hi)) | (go_at_call 18; (with_reducible refine (tag_Read.calls a0 0 t375 t376 t377 t378 t381 t382 t383 _ ?side1 A5.out).mono ?_); (case side1 => first | (with_reducible exact HG.out) | exact Gl.below HG.out (by repeat (first | (with_reducible first | exact HB.out | apply below_alloc | apply pw_below_drewN | apply below_drew1) | exact HB.out)) | exact HG.out); rintro e w10 ⟨v379, rfl, ho0, hb⟩; have n0_ := Aside0.mk (Kd.R_lower ho0 (below_size (by repeat (first | (with_reducible first | exact HB.out | apply below_alloc | apply pw_below_drewN | apply below_drew1) | exact HB.out)))); have n1_ := Aside0.mk (below_step (by repeat (first | (with_reducible first | exact HB.out | apply below_alloc | apply pw_below_drewN | apply below_drew1) | exact HB.out)) hb); clear HB; have HO380 := n0_; have HB := n1_; clear n0_ n1_; (try clear hb); (try clear hb2); (try clear hk); (try clear hi); (try clear ho0)) | ((with_reducible refine gate_dst (N := 4) rfl ?_); (try (refine gate_guard (by rfl) ?_; dsimp only)); refine box_event ?hg (N := 4) ?hd (cs := #[.int .i64 0, .string (⟨#[]⟩ : ByteArray), .string (⟨#[]⟩ : ByteArray), .slice none 0 0, .bool false]) (t := 39) ?hr ?_; (case hd => rfl); (case hg => rfl); (case hr => first | (go_simp; done) | (go_simp; rfl)); intro gb384 hg w11 hbox hb; have n0_ := Aside0.mk (Kd.R_below (by (with_reducible repeat (first | apply Kd.R_alloc | apply Kd.R_drewN | apply Kd.R_drew)); exact HO380.out) hb); have n1_ := Aside0.mk (below_step (by repeat (first | (with_reducible first | exact HB.out | apply below_alloc | apply pw_below_drewN | apply below_drew1) | exact HB.out)) hb); have n2_ := Aside0.mk (hbox); have n3_ := Aside0.mk ((by rw [hg]; exact (below_size (by repeat (first | (with_reducible first | exact HB.out | apply below_alloc | apply pw_below_drewN | apply below_drew1) | exact HB.out))) : w.heap.size ≤ gb384)); have n4_ := Aside0.mk ((by rw [hg]; exact (below_size (by repeat (first | (with_reducible first | exact HB.out | apply below_alloc | apply pw_below_drewN | apply below_drew1) | exact HB.out))) : w.heap.size ≤ gb384)); clear HO380; clear HB; have HO380 := n0_; have HB := n1_; have BK384 := n2_; have GW384 := n3_; have GE384 := n4_; clear n0_ n1_ n2_ n3_ n4_; clear hb hbox hg; have hcz12_0 : w11.cell? ⟨gb384, 0, none⟩ = some (.int .i64 0) := (blk_cell BK384.out 0).trans rfl; have hcz12_1 : w11.cell? ⟨gb384, 1, none⟩ = some (.string (⟨#[]⟩ : ByteArray)) := (blk_cell BK384.out 1).trans rfl; have hcz12_2 : w11.cell? ⟨gb384, 2, none⟩ = some (.string (⟨#[]⟩ : ByteArray)) := (blk_cell BK384.out 2).trans rfl; have hcz12_3 : w11.cell? ⟨gb384, 3, none⟩ = some (.slice none 0 0) := (blk_cell BK384.out 3).trans rfl; have hcz12_4 : w11.cell? ⟨gb384, 4, none⟩ = some (.bool false) := (blk_cell BK384.out 4).trans rfl; have hfz12_0 := blk_frozen BK384.out 0; have hfz12_1 := blk_frozen BK384.out 1; have hfz12_2 := blk_frozen BK384.out 2; have hfz12_3 := blk_frozen BK384.out 3; have hfz12_4 := blk_frozen BK384.out 4; obtain ⟨Ao13, co13, eo13⟩ := Kd.R_slice HO380.out; subst eo13) | (go_at_call 21; (with_reducible refine (sign_Lower.calls a0 t385 _ A6.out).mono ?_); rintro e w14 ⟨rfl, hb⟩; have n0_ := Aside0.mk (Kd.R_below (by (with_reducible repeat (first | apply Kd.R_alloc | apply Kd.R_drewN | apply Kd.R_drew)); exact (Kd.R_mono (Kd.R_far (p := ⟨gb384, 4, none⟩) (Kd.R_far (p := ⟨gb384, 3, none⟩) (Kd.R_far (p := ⟨gb384, 2, none⟩) (Kd.R_far (p := ⟨gb384, 1, none⟩) (Kd.R_far (p := ⟨gb384, 0, none⟩) (Kd.R_types HO380.out BK384.out (by decide)) (fun _ hk => hk.2) (.int .i64 t375)) (fun _ hk => hk.2) (.string t376)) (fun _ hk => hk.2) (.string t377)) (fun _ hk => hk.2) (.slice Ao13 t378.length co13)) (fun _ hk => hk.2) (.bool t381)) (fun _ h_ => h_.1))) hb); have n1_ := Aside0.mk (blk_below (g := gb384) (o := .cells #[.int .i64 t375, .string t376, .string t377, .slice Ao13 t378.length co13, .bool t381] 39 (0, 0)) (by (with_reducible repeat (first | refine blk_drewN ?_ _ | refine blk_drew ?_ | refine blk_alloc ?_ _)); refine blk_put (cs := #[.int .i64 t375, .string t376, .string t377, .slice Ao13 t378.length co13, .bool false]) ?_ 4 _ rfl; (with_reducible repeat (first | refine blk_drewN ?_ _ | refine blk_drew ?_ | refine blk_alloc ?_ _)); refine blk_put (cs := #[.int .i64 t375, .string t376, .string t377, .slice none 0 0, .bool false]) ?_ 3 _ rfl; (with_reducible repeat (first | refine blk_drewN ?_ _ | refine blk_drew ?_ | refine blk_alloc ?_ _)); refine blk_put (cs := #[.int .i64 t375, .string t376, .string (⟨#[]⟩ : ByteArray), .slice none 0 0, .bool false]) ?_ 2 _ rfl; (with_reducible repeat (first | refine blk_drewN ?_ _ | refine blk_drew ?_ | refine blk_alloc ?_ _)); refine blk_put (cs := #[.int .i64 t375, .string (⟨#[]⟩ : ByteArray), .string (⟨#[]⟩ : ByteArray), .slice none 0 0, .bool false]) ?_ 1 _ rfl; (with_reducible repeat (first | refine blk_drewN ?_ _ | refine blk_drew ?_ | refine blk_alloc ?_ _)); refine blk_put (cs := #[.int .i64 0, .string (⟨#[]⟩ : ByteArray), .string (⟨#[]⟩ : ByteArray), .slice none 0 0, .bool false]) ?_ 0 _ rfl; (with_reducible repeat (first | refine blk_drewN ?_ _ | refine blk_drew ?_ | refine blk_alloc ?_ _)); exact BK384.out) hb); have n2_ := Aside0.mk (below_step (by repeat (first | (with_reducible first | exact HB.out | apply below_alloc | apply pw_below_drewN | apply below_drew1 | refine below_set ?_ GE384.out) | exact HB.out)) hb); clear HO380; clear BK384; clear HB; have HO380 := n0_; have BK384 := n1_; have HB := n2_; clear n0_ n1_ n2_; (try clear hb); (try clear hb2); (try clear hk); (try clear hi)) | (go_at_call 18; (with_reducible refine (tag_Read.calls t385 0 t386 t387 t388 t389 t392 t393 t394 _ ?side1 A7.out).mono ?_); (case side1 => first | (with_reducible exact HG.out) | exact Gl.below HG.out (by repeat (first | (with_reducible first | exact HB.out | apply below_alloc | apply pw_below_drewN | apply below_drew1 | refine below_set ?_ GE384.out) | exact HB.out)) | exact HG.out); rintro e w15 ⟨v390, rfl, ho0, hb⟩; have n0_ := Aside0.mk (Kd.R_elder' (by (with_reducible repeat (first | apply Kd.R_alloc | apply Kd.R_drewN | apply Kd.R_drew)); exact HO380.out) (Kd.R_base ho0) hb); have n1_ := Aside0.mk (Kd.R_lower (Kd.R_new' ho0 (Kd.R_lt (by (with_reducible repeat (first | apply Kd.R_alloc | apply Kd.R_drewN | apply Kd.R_drew)); exact HO380.out))) (below_size (by repeat (first | (with_reducible first | exact HB.out | apply below_alloc | apply pw_below_drewN | apply below_drew1 | refine below_set ?_ GE384.out) | exact HB.out)))); have n2_ := Aside0.mk (blk_below (g := gb384) (o := .cells #[.int .i64 t375, .string t376, .string t377, .slice Ao13 t378.length co13, .bool t381] 39 (0, 0)) (by (with_reducible repeat (first | refine blk_drewN ?_ _ | refine blk_drew ?_ | refine blk_alloc ?_ _)); exact BK384.out) hb); have n3_ := Aside0.mk (below_step (by repeat (first | (with_reducible first | exact HB.out | apply below_alloc | apply pw_below_drewN | apply below_drew1 | refine below_set ?_ GE384.out) | exact HB.out)) hb); clear HO380; clear BK384; clear HB; have HO380 := n0_; have HO391 := n1_; have BK384 := n2_; have HB := n3_; clear n0_ n1_ n2_ n3_; (try clear hb); (try clear hb2); (try clear hk); (try clear hi); (try clear ho0)) | ((with_reducible refine gate_dst (N := 7) rfl ?_); (try (refine gate_guard (by rfl) ?_; dsimp only)); refine box_event ?hg (N := 7) ?hd (cs := #[.int .i64 0, .string (⟨#[]⟩ : ByteArray), .string (⟨#[]⟩ : ByteArray), .slice none 0 0, .bool false]) (t := 39) ?hr ?_; (case hd => rfl); (case hg => rfl); (case hr => first | (go_simp; done) | (go_simp; rfl)); intro gb395 hg w16 hbox hb; have n0_ := Aside0.mk (Kd.R_below (by (with_reducible repeat (first | apply Kd.R_alloc | apply Kd.R_drewN | apply Kd.R_drew)); exact HO380.out) hb); have n1_ := Aside0.mk (Kd.R_below (by (with_reducible repeat (first | apply Kd.R_alloc | apply Kd.R_drewN | apply Kd.R_drew)); exact HO391.out) hb); have n2_ := Aside0.mk (blk_below (g := gb384) (o := .cells #[.int .i64 t375, .string t376, .string t377, .slice Ao13 t378.length co13, .bool t381] 39 (0, 0)) (by (with_reducible repeat (first | refine blk_drewN ?_ _ | refine blk_drew ?_ | refine blk_alloc ?_ _)); exact BK384.out) hb); have n3_ := Aside0.mk (below_step (by repeat (first | (with_reducible first | exact HB.out | apply below_alloc | apply pw_below_drewN | apply below_drew1 | refine below_set ?_ GE384.out) | exact HB.out)) hb); have n4_ := Aside0.mk (hbox); have n5_ := Aside0.mk ((by rw [hg]; exact (below_size (by repeat (first | (with_reducible first | exact HB.out | apply below_alloc | apply pw_below_drewN | apply below_drew1 | refine below_set ?_ GE384.out) | exact HB.out))) : w.heap.size ≤ gb395)); have n6_ := Aside0.mk ((by rw [hg]; exact (below_size (by repeat (first | (with_reducible first | exact HB.out | apply below_alloc | apply pw_below_drewN | apply below_drew1 | refine below_set ?_ GE384.out) | exact HB.out))) : w.heap.size ≤ gb395)); have n7_ := Aside0.mk ((by rw [hg]; exact Nat.ne_of_lt (blk_lt (g := gb384) (o := .cells #[.int .i64 t375, .string t376, .string t377, .slice Ao13 t378.length co13, .bool t381] 39 (0, 0)) (by (with_reducible repeat (first | refine blk_drewN ?_ _ | refine blk_drew ?_ | refine blk_alloc ?_ _)); exact BK384.out)) : gb384 ≠ gb395)); have n8_ := Aside0.mk ((by rw [hg]; exact Nat.ne_of_gt (blk_lt (g := gb384) (o := .cells #[.int .i64 t375, .string t376, .string t377, .slice Ao13 t378.length co13, .bool t381] 39 (0, 0)) (by (with_reducible repeat (first | refine blk_drewN ?_ _ | refine blk_drew ?_ | refine blk_alloc ?_ _)); exact BK384.out)) : gb395 ≠ gb384)); clear HO380; clear HO391; clear BK384; clear HB; have HO380 := n0_; have HO391 := n1_; have BK384 := n2_; have HB := n3_; have BK395 := n4_; have GW395 := n5_; have GE395 := n6_; have NB384_395 := n7_; have NB395_384 := n8_; clear n0_ n1_ n2_ n3_ n4_ n5_ n6_ n7_ n8_; clear hb hbox hg; have hnb17 := NB395_384.out; have hnc17 := NB384_395.out; have hcz18_0 : w16.cell? ⟨gb395, 0, none⟩ = some (.int .i64 0) := (blk_cell BK395.out 0).trans rfl; have hcz18_1 : w16.cell? ⟨gb395, 1, none⟩ = some (.string (⟨#[]⟩ : ByteArray)) := (blk_cell BK395.out 1).trans rfl; have hcz18_2 : w16.cell? ⟨gb395, 2, none⟩ = some (.string (⟨#[]⟩ : ByteArray)) := (blk_cell BK395.out 2).trans rfl; have hcz18_3 : w16.cell? ⟨gb395, 3, none⟩ = some (.slice none 0 0) := (blk_cell BK395.out 3).trans rfl; have hcz18_4 : w16.cell? ⟨gb395, 4, none⟩ = some (.bool false) := (blk_cell BK395.out 4).trans rfl; have hfz18_0 := blk_frozen BK395.out 0; have hfz18_1 := blk_frozen BK395.out 1; have hfz18_2 := blk_frozen BK395.out 2; have hfz18_3 := blk_frozen BK395.out 3; have hfz18_4 := blk_frozen BK395.out 4; obtain ⟨Ao19, co19, eo19⟩ := Kd.R_slice HO391.out; subst eo19))
    repeat (go_quiet (first | (go_at_call 17; (with_reducible refine (flaillaw09_awake.calls k  t374 _ ?side1 A2.out).mono ?_); (case side1 => first | (with_reducible exact HG.out) | exact Gl.below HG.out (by repeat (first | (with_reducible first | exact HB.out | apply below_alloc | apply pw_below_drewN | apply below_drew1) | exact HB.out)) | exact HG.out); rintro e w9 ⟨rfl, hb⟩; have n0_ := Aside0.mk (below_step (by repeat (first | (with_reducible first | exact HB.out | apply below_alloc | apply pw_below_drewN | apply below_drew1) | exact HB.out)) hb); clear HB; have HB := n0_; clear n0_; (try clear hb); (try clear hb2); (try clear hk); (try clear hi)) | (go_at_call 18; (with_reducible refine (tag_Read.calls a0 0 t375 t376 t377 t378 t381 t382 t383 _ ?side1 A5.out).mono ?_); (case side1 => first | (with_reducible exact HG.out) | exact Gl.below HG.out (by repeat (first | (with_reducible first | exact HB.out | apply below_alloc | apply pw_below_drewN | apply below_drew1) | exact HB.out)) | exact HG.out); rintro e w10 ⟨v379, rfl, ho0, hb⟩; have n0_ := Aside0.mk (Kd.R_lower ho0 (below_size (by repeat (first | (with_reducible first | exact HB.out | apply below_alloc | apply pw_below_drewN | apply below_drew1) | exact HB.out)))); have n1_ := Aside0.mk (below_step (by repeat (first | (with_reducible first | exact HB.out | apply below_alloc | apply pw_below_drewN | apply below_drew1) | exact HB.out)) hb); clear HB; have HO380 := n0_; have HB := n1_; clear n0_ n1_; (try clear hb); (try clear hb2); (try clear hk); (try clear hi); (try clear ho0)) | ((with_reducible refine gate_dst (N := 4) rfl ?_); (try (refine gate_guard (by rfl) ?_; dsimp only)); refine box_event ?hg (N := 4) ?hd (cs := #[.int .i64 0, .string (⟨#[]⟩ : ByteArray), .string (⟨#[]⟩ : ByteArray), .slice none 0 0, .bool false]) (t := 39) ?hr ?_; (case hd => rfl); (case hg => rfl); (case hr => first | (go_simp; done) | (go_simp; rfl)); intro gb384 hg w11 hbox hb; have n0_ := Aside0.mk (Kd.R_below (by (with_reducible repeat (first | apply Kd.R_alloc | apply Kd.R_drewN | apply Kd.R_drew)); exact HO380.out) hb); have n1_ := Aside0.mk (below_step (by repeat (first | (with_reducible first | exact HB.out | apply below_alloc | apply pw_below_drewN | apply below_drew1) | exact HB.out)) hb); have n2_ := Aside0.mk (hbox); have n3_ := Aside0.mk ((by rw [hg]; exact (below_size (by repeat (first | (with_reducible first | exact HB.out | apply below_alloc | apply pw_below_drewN | apply below_drew1) | exact HB.out))) : w.heap.size ≤ gb384)); have n4_ := Aside0.mk ((by rw [hg]; exact (below_size (by repeat (first | (with_reducible first | exact HB.out | apply below_alloc | apply pw_below_drewN | apply below_drew1) | exact HB.out))) : w.heap.size ≤ gb384)); clear HO380; clear HB; have HO380 := n0_; have HB := n1_; have BK384 := n2_; have GW384 := n3_; have GE384 := n4_; clear n0_ n1_ n2_ n3_ n4_; clear hb hbox hg; have hcz12_0 : w11.cell? ⟨gb384, 0, none⟩ = some (.int .i64 0) := (blk_cell BK384.out 0).trans rfl; have hcz12_1 : w11.cell? ⟨gb384, 1, none⟩ = some (.string (⟨#[]⟩ : ByteArray)) := (blk_cell BK384.out 1).trans rfl; have hcz12_2 : w11.cell? ⟨gb384, 2, none⟩ = some (.string (⟨#[]⟩ : ByteArray)) := (blk_cell BK384.out 2).trans rfl; have hcz12_3 : w11.cell? ⟨gb384, 3, none⟩ = some (.slice none 0 0) := (blk_cell BK384.out 3).trans rfl; have hcz12_4 : w11.cell? ⟨gb384, 4, none⟩ = some (.bool false) := (blk_cell BK384.out 4).trans rfl; have hfz12_0 := blk_frozen BK384.out 0; have hfz12_1 := blk_frozen BK384.out 1; have hfz12_2 := blk_frozen BK384.out 2; have hfz12_3 := blk_frozen BK384.out 3; have hfz12_4 := blk_frozen BK384.out 4; obtain ⟨Ao13, co13, eo13⟩ := Kd.R_slice HO380.out; subst eo13) | (go_at_call 21; (with_reducible refine (sign_Lower.calls a0 t385 _ A6.out).mono ?_); rintro e w14 ⟨rfl, hb⟩; have n0_ := Aside0.mk (Kd.R_below (by (with_reducible repeat (first | apply Kd.R_alloc | apply Kd.R_drewN | apply Kd.R_drew)); exact (Kd.R_mono (Kd.R_far (p := ⟨gb384, 4, none⟩) (Kd.R_far (p := ⟨gb384, 3, none⟩) (Kd.R_far (p := ⟨gb384, 2, none⟩) (Kd.R_far (p := ⟨gb384, 1, none⟩) (Kd.R_far (p := ⟨gb384, 0, none⟩) (Kd.R_types HO380.out BK384.out (by decide)) (fun _ hk => hk.2) (.int .i64 t375)) (fun _ hk => hk.2) (.string t376)) (fun _ hk => hk.2) (.string t377)) (fun _ hk => hk.2) (.slice Ao13 t378.length co13)) (fun _ hk => hk.2) (.bool t381)) (fun _ h_ => h_.1))) hb); have n1_ := Aside0.mk (blk_below (g := gb384) (o := .cells #[.int .i64 t375, .string t376, .string t377, .slice Ao13 t378.length co13, .bool t381] 39 (0, 0)) (by (with_reducible repeat (first | refine blk_drewN ?_ _ | refine blk_drew ?_ | refine blk_alloc ?_ _)); refine blk_put (cs := #[.int .i64 t375, .string t376, .string t377, .slice Ao13 t378.length co13, .bool false]) ?_ 4 _ rfl; (with_reducible repeat (first | refine blk_drewN ?_ _ | refine blk_drew ?_ | refine blk_alloc ?_ _)); refine blk_put (cs := #[.int .i64 t375, .string t376, .string t377, .slice none 0 0, .bool false]) ?_ 3 _ rfl; (with_reducible repeat (first | refine blk_drewN ?_ _ | refine blk_drew ?_ | refine blk_alloc ?_ _)); refine blk_put (cs := #[.int .i64 t375, .string t376, .string (⟨#[]⟩ : ByteArray), .slice none 0 0, .bool false]) ?_ 2 _ rfl; (with_reducible repeat (first | refine blk_drewN ?_ _ | refine blk_drew ?_ | refine blk_alloc ?_ _)); refine blk_put (cs := #[.int .i64 t375, .string (⟨#[]⟩ : ByteArray), .string (⟨#[]⟩ : ByteArray), .slice none 0 0, .bool false]) ?_ 1 _ rfl; (with_reducible repeat (first | refine blk_drewN ?_ _ | refine blk_drew ?_ | refine blk_alloc ?_ _)); refine blk_put (cs := #[.int .i64 0, .string (⟨#[]⟩ : ByteArray), .string (⟨#[]⟩ : ByteArray), .slice none 0 0, .bool false]) ?_ 0 _ rfl; (with_reducible repeat (first | refine blk_drewN ?_ _ | refine blk_drew ?_ | refine blk_alloc ?_ _)); exact BK384.out) hb); have n2_ := Aside0.mk (below_step (by repeat (first | (with_reducible first | exact HB.out | apply below_alloc | apply pw_below_drewN | apply below_drew1 | refine below_set ?_ GE384.out) | exact HB.out)) hb); clear HO380; clear BK384; clear HB; have HO380 := n0_; have BK384 := n1_; have HB := n2_; clear n0_ n1_ n2_; (try clear hb); (try clear hb2); (try clear hk); (try clear hi)) | (go_at_call 18; (with_reducible refine (tag_Read.calls t385 0 t386 t387 t388 t389 t392 t393 t394 _ ?side1 A7.out).mono ?_); (case side1 => first | (with_reducible exact HG.out) | exact Gl.below HG.out (by repeat (first | (with_reducible first | exact HB.out | apply below_alloc | apply pw_below_drewN | apply below_drew1 | refine below_set ?_ GE384.out) | exact HB.out)) | exact HG.out); rintro e w15 ⟨v390, rfl, ho0, hb⟩; have n0_ := Aside0.mk (Kd.R_elder' (by (with_reducible repeat (first | apply Kd.R_alloc | apply Kd.R_drewN | apply Kd.R_drew)); exact HO380.out) (Kd.R_base ho0) hb); have n1_ := Aside0.mk (Kd.R_lower (Kd.R_new' ho0 (Kd.R_lt (by (with_reducible repeat (first | apply Kd.R_alloc | apply Kd.R_drewN | apply Kd.R_drew)); exact HO380.out))) (below_size (by repeat (first | (with_reducible first | exact HB.out | apply below_alloc | apply pw_below_drewN | apply below_drew1 | refine below_set ?_ GE384.out) | exact HB.out)))); have n2_ := Aside0.mk (blk_below (g := gb384) (o := .cells #[.int .i64 t375, .string t376, .string t377, .slice Ao13 t378.length co13, .bool t381] 39 (0, 0)) (by (with_reducible repeat (first | refine blk_drewN ?_ _ | refine blk_drew ?_ | refine blk_alloc ?_ _)); exact BK384.out) hb); have n3_ := Aside0.mk (below_step (by repeat (first | (with_reducible first | exact HB.out | apply below_alloc | apply pw_below_drewN | apply below_drew1 | refine below_set ?_ GE384.out) | exact HB.out)) hb); clear HO380; clear BK384; clear HB; have HO380 := n0_; have HO391 := n1_; have BK384 := n2_; have HB := n3_; clear n0_ n1_ n2_ n3_; (try clear hb); (try clear hb2); (try clear hk); (try clear hi); (try clear ho0)) | ((with_reducible refine gate_dst (N := 7) rfl ?_); (try (refine gate_guard (by rfl) ?_; dsimp only)); refine box_event ?hg (N := 7) ?hd (cs := #[.int .i64 0, .string (⟨#[]⟩ : ByteArray), .string (⟨#[]⟩ : ByteArray), .slice none 0 0, .bool false]) (t := 39) ?hr ?_; (case hd => rfl); (case hg => rfl); (case hr => first | (go_simp; done) | (go_simp; rfl)); intro gb395 hg w16 hbox hb; have n0_ := Aside0.mk (Kd.R_below (by (with_reducible repeat (first | apply Kd.R_alloc | apply Kd.R_drewN | apply Kd.R_drew)); exact HO380.out) hb); have n1_ := Aside0.mk (Kd.R_below (by (with_reducible repeat (first | apply Kd.R_alloc | apply Kd.R_drewN | apply Kd.R_drew)); exact HO391.out) hb); have n2_ := Aside0.mk (blk_below (g := gb384) (o := .cells #[.int .i64 t375, .string t376, .string t377, .slice Ao13 t378.length co13, .bool t381] 39 (0, 0)) (by (with_reducible repeat (first | refine blk_drewN ?_ _ | refine blk_drew ?_ | refine blk_alloc ?_ _)); exact BK384.out) hb); have n3_ := Aside0.mk (below_step (by repeat (first | (with_reducible first | exact HB.out | apply below_alloc | apply pw_below_drewN | apply below_drew1 | refine below_set ?_ GE384.out) | exact HB.out)) hb); have n4_ := Aside0.mk (hbox); have n5_ := Aside0.mk ((by rw [hg]; exact (below_size (by repeat (first | (with_reducible first | exact HB.out | apply below_alloc | apply pw_below_drewN | apply below_drew1 | refine below_set ?_ GE384.out) | exact HB.out))) : w.heap.size ≤ gb395)); have n6_ := Aside0.mk ((by rw [hg]; exact (below_size (by repeat (first | (with_reducible first | exact HB.out | apply below_alloc | apply pw_below_drewN | apply below_drew1 | refine below_set ?_ GE384.out) | exact HB.out))) : w.heap.size ≤ gb395)); have n7_ := Aside0.mk ((by rw [hg]; exact Nat.ne_of_lt (blk_lt (g := gb384) (o := .cells #[.int .i64 t375, .string t376, .string t377, .slice Ao13 t378.length co13, .bool t381] 39 (0, 0)) (by (with_reducible repeat (first | refine blk_drewN ?_ _ | refine blk_drew ?_ | refine blk_alloc ?_ _)); exact BK384.out)) : gb384 ≠ gb395)); have n8_ := Aside0.mk ((by rw [hg]; exact Nat.ne_of_gt (blk_lt (g := gb384) (o := .cells #[.int .i64 t375, .string t376, .string t377, .slice Ao13 t378.length co13, .bool t381] 39 (0, 0)) (by (with_reducible repeat (first | refine blk_drewN ?_ _ | refine blk_drew ?_ | refine blk_alloc ?_ _)); exact BK384.out)) : gb395 ≠ gb384)); clear HO380; clear HO391; clear BK384; clear HB; have HO380 := n0_; have HO391 := n1_; have BK384 := n2_; have HB := n3_; have BK395 := n4_; have GW395 := n5_; have GE395 := n6_; have NB384_395 := n7_; have NB395_384 := n8_; clear n0_ n1_ n2_ n3_ n4_ n5_ n6_ n7_ n8_; clear hb hbox hg; have hnb17 := NB395_384.out; have hnc17 := NB384_395.out; have hcz18_0 : w16.cell? ⟨gb395, 0, none⟩ = some (.int .i64 0) := (blk_cell BK395.out 0).trans rfl; have hcz18_1 : w16.cell? ⟨gb395, 1, none⟩ = some (.string (⟨#[]⟩ : ByteArray)) := (blk_cell BK395.out 1).trans rfl; have hcz18_2 : w16.cell? ⟨gb395, 2, none⟩ = some (.string (⟨#[]⟩ : ByteArray)) := (blk_cell BK395.out 2).trans rfl; have hcz18_3 : w16.cell? ⟨gb395, 3, none⟩ = some (.slice none 0 0) := (blk_cell BK395.out 3).trans rfl; have hcz18_4 : w16.cell? ⟨gb395, 4, none⟩ = some (.bool false) := (blk_cell BK395.out 4).trans rfl; have hfz18_0 := blk_frozen BK395.out 0; have hfz18_1 := blk_frozen BK395.out 1; have hfz18_2 := blk_frozen BK395.out 2; have hfz18_3 := blk_frozen BK395.out 3; have hfz18_4 := blk_frozen BK395.out 4; obtain ⟨Ao19, co19, eo19⟩ := Kd.R_slice HO391.out; subst eo19)); go_upto_region 6 with (first | (go_at_call 17; (with_reducible refine (flaillaw09_awake.calls k  t374 _ ?side1 A2.out).mono ?_); (case side1 => first | (with_reducible exact HG.out) | exact Gl.below HG.out (by repeat (first | (with_reducible first | exact HB.out | apply below_alloc | apply pw_below_drewN | apply below_drew1) | exact HB.out)) | exact HG.out); rintro e w9 ⟨rfl, hb⟩; have n0_ := Aside0.mk (below_step (by repeat (first | (with_reducible first | exact HB.out | apply below_alloc | apply pw_below_drewN | apply below_drew1) | exact HB.out)) hb); clear HB; have HB := n0_; clear n0_; (try clear hb); (try clear hb2); (try clear hk); (try clear hi)) | (go_at_call 18; (with_reducible refine (tag_Read.calls a0 0 t375 t376 t377 t378 t381 t382 t383 _ ?side1 A5.out).mono ?_); (case side1 => first | (with_reducible exact HG.out) | exact Gl.below HG.out (by repeat (first | (with_reducible first | exact HB.out | apply below_alloc | apply pw_below_drewN | apply below_drew1) | exact HB.out)) | exact HG.out); rintro e w10 ⟨v379, rfl, ho0, hb⟩; have n0_ := Aside0.mk (Kd.R_lower ho0 (below_size (by repeat (first | (with_reducible first | exact HB.out | apply below_alloc | apply pw_below_drewN | apply below_drew1) | exact HB.out)))); have n1_ := Aside0.mk (below_step (by repeat (first | (with_reducible first | exact HB.out | apply below_alloc | apply pw_below_drewN | apply below_drew1) | exact HB.out)) hb); clear HB; have HO380 := n0_; have HB := n1_; clear n0_ n1_; (try clear hb); (try clear hb2); (try clear hk); (try clear hi); (try clear ho0)) | ((with_reducible refine gate_dst (N := 4) rfl ?_); (try (refine gate_guard (by rfl) ?_; dsimp only)); refine box_event ?hg (N := 4) ?hd (cs := #[.int .i64 0, .string (⟨#[]⟩ : ByteArray), .string (⟨#[]⟩ : ByteArray), .slice none 0 0, .bool false]) (t := 39) ?hr ?_; (case hd => rfl); (case hg => rfl); (case hr => first | (go_simp; done) | (go_simp; rfl)); intro gb384 hg w11 hbox hb; have n0_ := Aside0.mk (Kd.R_below (by (with_reducible repeat (first | apply Kd.R_alloc | apply Kd.R_drewN | apply Kd.R_drew)); exact HO380.out) hb); have n1_ := Aside0.mk (below_step (by repeat (first | (with_reducible first | exact HB.out | apply below_alloc | apply pw_below_drewN | apply below_drew1) | exact HB.out)) hb); have n2_ := Aside0.mk (hbox); have n3_ := Aside0.mk ((by rw [hg]; exact (below_size (by repeat (first | (with_reducible first | exact HB.out | apply below_alloc | apply pw_below_drewN | apply below_drew1) | exact HB.out))) : w.heap.size ≤ gb384)); have n4_ := Aside0.mk ((by rw [hg]; exact (below_size (by repeat (first | (with_reducible first | exact HB.out | apply below_alloc | apply pw_below_drewN | apply below_drew1) | exact HB.out))) : w.heap.size ≤ gb384)); clear HO380; clear HB; have HO380 := n0_; have HB := n1_; have BK384 := n2_; have GW384 := n3_; have GE384 := n4_; clear n0_ n1_ n2_ n3_ n4_; clear hb hbox hg; have hcz12_0 : w11.cell? ⟨gb384, 0, none⟩ = some (.int .i64 0) := (blk_cell BK384.out 0).trans rfl; have hcz12_1 : w11.cell? ⟨gb384, 1, none⟩ = some (.string (⟨#[]⟩ : ByteArray)) := (blk_cell BK384.out 1).trans rfl; have hcz12_2 : w11.cell? ⟨gb384, 2, none⟩ = some (.string (⟨#[]⟩ : ByteArray)) := (blk_cell BK384.out 2).trans rfl; have hcz12_3 : w11.cell? ⟨gb384, 3, none⟩ = some (.slice none 0 0) := (blk_cell BK384.out 3).trans rfl; have hcz12_4 : w11.cell? ⟨gb384, 4, none⟩ = some (.bool false) := (blk_cell BK384.out 4).trans rfl; have hfz12_0 := blk_frozen BK384.out 0; have hfz12_1 := blk_frozen BK384.out 1; have hfz12_2 := blk_frozen BK384.out 2; have hfz12_3 := blk_frozen BK384.out 3; have hfz12_4 := blk_frozen BK384.out 4; obtain ⟨Ao13, co13, eo13⟩ := Kd.R_slice HO380.out; subst eo13) | (go_at_call 21; (with_reducible refine (sign_Lower.calls a0 t385 _ A6.out).mono ?_); rintro e w14 ⟨rfl, hb⟩; have n0_ := Aside0.mk (Kd.R_below (by (with_reducible repeat (first | apply Kd.R_alloc | apply Kd.R_drewN | apply Kd.R_drew)); exact (Kd.R_mono (Kd.R_far (p := ⟨gb384, 4, none⟩) (Kd.R_far (p := ⟨gb384, 3, none⟩) (Kd.R_far (p := ⟨gb384, 2, none⟩) (Kd.R_far (p := ⟨gb384, 1, none⟩) (Kd.R_far (p := ⟨gb384, 0, none⟩) (Kd.R_types HO380.out BK384.out (by decide)) (fun _ hk => hk.2) (.int .i64 t375)) (fun _ hk => hk.2) (.string t376)) (fun _ hk => hk.2) (.string t377)) (fun _ hk => hk.2) (.slice Ao13 t378.length co13)) (fun _ hk => hk.2) (.bool t381)) (fun _ h_ => h_.1))) hb); have n1_ := Aside0.mk (blk_below (g := gb384) (o := .cells #[.int .i64 t375, .string t376, .string t377, .slice Ao13 t378.length co13, .bool t381] 39 (0, 0)) (by (with_reducible repeat (first | refine blk_drewN ?_ _ | refine blk_drew ?_ | refine blk_alloc ?_ _)); refine blk_put (cs := #[.int .i64 t375, .string t376, .string t377, .slice Ao13 t378.length co13, .bool false]) ?_ 4 _ rfl; (with_reducible repeat (first | refine blk_drewN ?_ _ | refine blk_drew ?_ | refine blk_alloc ?_ _)); refine blk_put (cs := #[.int .i64 t375, .string t376, .string t377, .slice none 0 0, .bool false]) ?_ 3 _ rfl; (with_reducible repeat (first | refine blk_drewN ?_ _ | refine blk_drew ?_ | refine blk_alloc ?_ _)); refine blk_put (cs := #[.int .i64 t375, .string t376, .string (⟨#[]⟩ : ByteArray), .slice none 0 0, .bool false]) ?_ 2 _ rfl; (with_reducible repeat (first | refine blk_drewN ?_ _ | refine blk_drew ?_ | refine blk_alloc ?_ _)); refine blk_put (cs := #[.int .i64 t375, .string (⟨#[]⟩ : ByteArray), .string (⟨#[]⟩ : ByteArray), .slice none 0 0, .bool false]) ?_ 1 _ rfl; (with_reducible repeat (first | refine blk_drewN ?_ _ | refine blk_drew ?_ | refine blk_alloc ?_ _)); refine blk_put (cs := #[.int .i64 0, .string (⟨#[]⟩ : ByteArray), .string (⟨#[]⟩ : ByteArray), .slice none 0 0, .bool false]) ?_ 0 _ rfl; (with_reducible repeat (first | refine blk_drewN ?_ _ | refine blk_drew ?_ | refine blk_alloc ?_ _)); exact BK384.out) hb); have n2_ := Aside0.mk (below_step (by repeat (first | (with_reducible first | exact HB.out | apply below_alloc | apply pw_below_drewN | apply below_drew1 | refine below_set ?_ GE384.out) | exact HB.out)) hb); clear HO380; clear BK384; clear HB; have HO380 := n0_; have BK384 := n1_; have HB := n2_; clear n0_ n1_ n2_; (try clear hb); (try clear hb2); (try clear hk); (try clear hi)) | (go_at_call 18; (with_reducible refine (tag_Read.calls t385 0 t386 t387 t388 t389 t392 t393 t394 _ ?side1 A7.out).mono ?_); (case side1 => first | (with_reducible exact HG.out) | exact Gl.below HG.out (by repeat (first | (with_reducible first | exact HB.out | apply below_alloc | apply pw_below_drewN | apply below_drew1 | refine below_set ?_ GE384.out) | exact HB.out)) | exact HG.out); rintro e w15 ⟨v390, rfl, ho0, hb⟩; have n0_ := Aside0.mk (Kd.R_elder' (by (with_reducible repeat (first | apply Kd.R_alloc | apply Kd.R_drewN | apply Kd.R_drew)); exact HO380.out) (Kd.R_base ho0) hb); have n1_ := Aside0.mk (Kd.R_lower (Kd.R_new' ho0 (Kd.R_lt (by (with_reducible repeat (first | apply Kd.R_alloc | apply Kd.R_drewN | apply Kd.R_drew)); exact HO380.out))) (below_size (by repeat (first | (with_reducible first | exact HB.out | apply below_alloc | apply pw_below_drewN | apply below_drew1 | refine below_set ?_ GE384.out) | exact HB.out)))); have n2_ := Aside0.mk (blk_below (g := gb384) (o := .cells #[.int .i64 t375, .string t376, .string t377, .slice Ao13 t378.length co13, .bool t381] 39 (0, 0)) (by (with_reducible repeat (first | refine blk_drewN ?_ _ | refine blk_drew ?_ | refine blk_alloc ?_ _)); exact BK384.out) hb); have n3_ := Aside0.mk (below_step (by repeat (first | (with_reducible first | exact HB.out | apply below_alloc | apply pw_below_drewN | apply below_drew1 | refine below_set ?_ GE384.out) | exact HB.out)) hb); clear HO380; clear BK384; clear HB; have HO380 := n0_; have HO391 := n1_; have BK384 := n2_; have HB := n3_; clear n0_ n1_ n2_ n3_; (try clear hb); (try clear hb2); (try clear hk); (try clear hi); (try clear ho0)) | ((with_reducible refine gate_dst (N := 7) rfl ?_); (try (refine gate_guard (by rfl) ?_; dsimp only)); refine box_event ?hg (N := 7) ?hd (cs := #[.int .i64 0, .string (⟨#[]⟩ : ByteArray), .string (⟨#[]⟩ : ByteArray), .slice none 0 0, .bool false]) (t := 39) ?hr ?_; (case hd => rfl); (case hg => rfl); (case hr => first | (go_simp; done) | (go_simp; rfl)); intro gb395 hg w16 hbox hb; have n0_ := Aside0.mk (Kd.R_below (by (with_reducible repeat (first | apply Kd.R_alloc | apply Kd.R_drewN | apply Kd.R_drew)); exact HO380.out) hb); have n1_ := Aside0.mk (Kd.R_below (by (with_reducible repeat (first | apply Kd.R_alloc | apply Kd.R_drewN | apply Kd.R_drew)); exact HO391.out) hb); have n2_ := Aside0.mk (blk_below (g := gb384) (o := .cells #[.int .i64 t375, .string t376, .string t377, .slice Ao13 t378.length co13, .bool t381] 39 (0, 0)) (by (with_reducible repeat (first | refine blk_drewN ?_ _ | refine blk_drew ?_ | refine blk_alloc ?_ _)); exact BK384.out) hb); have n3_ := Aside0.mk (below_step (by repeat (first | (with_reducible first | exact HB.out | apply below_alloc | apply pw_below_drewN | apply below_drew1 | refine below_set ?_ GE384.out) | exact HB.out)) hb); have n4_ := Aside0.mk (hbox); have n5_ := Aside0.mk ((by rw [hg]; exact (below_size (by repeat (first | (with_reducible first | exact HB.out | apply below_alloc | apply pw_below_drewN | apply below_drew1 | refine below_set ?_ GE384.out) | exact HB.out))) : w.heap.size ≤ gb395)); have n6_ := Aside0.mk ((by rw [hg]; exact (below_size (by repeat (first | (with_reducible first | exact HB.out | apply below_alloc | apply pw_below_drewN | apply below_drew1 | refine below_set ?_ GE384.out) | exact HB.out))) : w.heap.size ≤ gb395)); have n7_ := Aside0.mk ((by rw [hg]; exact Nat.ne_of_lt (blk_lt (g := gb384) (o := .cells #[.int .i64 t375, .string t376, .string t377, .slice Ao13 t378.length co13, .bool t381] 39 (0, 0)) (by (with_reducible repeat (first | refine blk_drewN ?_ _ | refine blk_drew ?_ | refine blk_alloc ?_ _)); exact BK384.out)) : gb384 ≠ gb395)); have n8_ := Aside0.mk ((by rw [hg]; exact Nat.ne_of_gt (blk_lt (g := gb384) (o := .cells #[.int .i64 t375, .string t376, .string t377, .slice Ao13 t378.length co13, .bool t381] 39 (0, 0)) (by (with_reducible repeat (first | refine blk_drewN ?_ _ | refine blk_drew ?_ | refine blk_alloc ?_ _)); exact BK384.out)) : gb395 ≠ gb384)); clear HO380; clear HO391; clear BK384; clear HB; have HO380 := n0_; have HO391 := n1_; have BK384 := n2_; have HB := n3_; have BK395 := n4_; have GW395 := n5_; have GE395 := n6_; have NB384_395 := n7_; have NB395_384 := n8_; clear n0_ n1_ n2_ n3_ n4_ n5_ n6_ n7_ n8_; clear hb hbox hg; have hnb17 := NB395_384.out; have hnc17 := NB384_395.out; have hcz18_0 : w16.cell? ⟨gb395, 0, none⟩ = some (.int .i64 0) := (blk_cell BK395.out 0).trans rfl; have hcz18_1 : w16.cell? ⟨gb395, 1, none⟩ = some (.string (⟨#[]⟩ : ByteArray)) := (blk_cell BK395.out 1).trans rfl; have hcz18_2 : w16.cell? ⟨gb395, 2, none⟩ = some (.string (⟨#[]⟩ : ByteArray)) := (blk_cell BK395.out 2).trans rfl; have hcz18_3 : w16.cell? ⟨gb395, 3, none⟩ = some (.slice none 0 0) := (blk_cell BK395.out 3).trans rfl; have hcz18_4 : w16.cell? ⟨gb395, 4, none⟩ = some (.bool false) := (blk_cell BK395.out 4).trans rfl; have hfz18_0 := blk_frozen BK395.out 0; have hfz18_1 := blk_frozen BK395.out 1; have hfz18_2 := blk_frozen BK395.out 2; have hfz18_3 := blk_frozen BK395.out 3; have hfz18_4 := blk_frozen BK395.out 4; obtain ⟨Ao19, co19, eo19⟩ := Kd.R_slice HO391.out; subst eo19)))
    (try simp only [Act.put, List.setIfInBounds_toArray, List.set_cons_zero, List.set_cons_succ])
    go_cut [66] (fun v66 wc => ∃ (kq : Nat) (x66_7 : Bool), v66 = .bool x66_7 ∧ Aside0 (flaillaw09_TagCase.j0 kq t374 x66_7 t375 t376 t377 t378 t381 t386 t387 t388 t389 t392 = some r) ∧ Aside0 (kq ≤ k) ∧ Aside0 (Kd.R k27 27 wc w.heap.size (fun k_ => some k_ ≠ ((.slice Ao19 t389.length co19) : Value).ownBlock) (.slice Ao13 t378.length co13) t378) ∧ Aside0 (Kd.R k27 27 wc w.heap.size (fun k_ => some k_ ≠ ((.slice Ao13 t378.length co13) : Value).ownBlock) (.slice Ao19 t389.length co19) t389) ∧ Aside0 (wc.heap[gb384]? = some (.cells #[.int .i64 t375, .string t376, .string t377, (.slice Ao13 t378.length co13), .bool t381] 39 (0, 0))) ∧ Aside0 (wc.heap[gb395]? = some (.cells #[.int .i64 t386, .string t387, .string t388, (.slice Ao19 t389.length co19), .bool t392] 39 (0, 0))) ∧ Aside0 (Below w.heap.size w wc))
    case first =>
      have H := HC8.out
      clear HC8
      by_cases c20 : t382 = t393
      · rw [if_pos c20] at H
        have c20b0 : (t382 == t393) = true := beq_iff_eq.mpr c20
        have c20b1 : (t382 != t393) = false := bne_eq_false_iff_eq.mpr c20
        clear c20
        (first | rw [c20b0] | (simp only [i64_w, i32_w]; rw [c20b0]) | skip)
        by_cases c21 : (t383 != t394) = true
        · rw [if_pos c21] at H
          have c21b0 : (t383 != t394) = true := c21
          (try (have c21b1 : decide (t383 = t394) = false := by simpa using c21))
          (try (have c21b2 : (t383 == t394) = false := by simpa using c21))
          (try (have c21b3 : ¬ (t383 = t394) := by simpa using c21))
          clear c21
          have H' := Aside0.mk H
          clear H
          go_wp2
          repeat (go_quiet (fail); try go_wp2)
          go_meet
          case rel => exact ⟨_, (true), (by first | rfl | (simp; done) | (simp [*]; done)), H', ⟨by first | omega | exact Nat.le_refl _⟩, ⟨by (with_reducible repeat (first | apply Kd.R_alloc | apply Kd.R_drewN | apply Kd.R_drew)); exact Kd.R_mono (Kd.R_far (p := ⟨gb395, 4, none⟩) (Kd.R_far (p := ⟨gb395, 3, none⟩) (Kd.R_far (p := ⟨gb395, 2, none⟩) (Kd.R_far (p := ⟨gb395, 1, none⟩) (Kd.R_far (p := ⟨gb395, 0, none⟩) (Kd.R_types HO380.out BK395.out (by decide)) (fun _ hk => hk.2) (.int .i64 t386)) (fun _ hk => hk.2) (.string t387)) (fun _ hk => hk.2) (.string t388)) (fun _ hk => hk.2) (.slice Ao19 t389.length co19)) (fun _ hk => hk.2) (.bool t392)) (fun _ hk => hk.1.2)⟩, ⟨by (with_reducible repeat (first | apply Kd.R_alloc | apply Kd.R_drewN | apply Kd.R_drew)); exact Kd.R_mono (Kd.R_far (p := ⟨gb395, 4, none⟩) (Kd.R_far (p := ⟨gb395, 3, none⟩) (Kd.R_far (p := ⟨gb395, 2, none⟩) (Kd.R_far (p := ⟨gb395, 1, none⟩) (Kd.R_far (p := ⟨gb395, 0, none⟩) (Kd.R_types HO391.out BK395.out (by decide)) (fun _ hk => hk.2) (.int .i64 t386)) (fun _ hk => hk.2) (.string t387)) (fun _ hk => hk.2) (.string t388)) (fun _ hk => hk.2) (.slice Ao19 t389.length co19)) (fun _ hk => hk.2) (.bool t392)) (fun _ hk => hk.1.2)⟩, ⟨by (with_reducible repeat (first | refine blk_drewN ?_ _ | refine blk_drew ?_ | refine blk_alloc ?_ _)); refine blk_far ?_ NB384_395.out _; (with_reducible repeat (first | refine blk_drewN ?_ _ | refine blk_drew ?_ | refine blk_alloc ?_ _)); refine blk_far ?_ NB384_395.out _; (with_reducible repeat (first | refine blk_drewN ?_ _ | refine blk_drew ?_ | refine blk_alloc ?_ _)); refine blk_far ?_ NB384_395.out _; (with_reducible repeat (first | refine blk_drewN ?_ _ | refine blk_drew ?_ | refine blk_alloc ?_ _)); refine blk_far ?_ NB384_395.out _; (with_reducible repeat (first | refine blk_drewN ?_ _ | refine blk_drew ?_ | refine blk_alloc ?_ _)); refine blk_far ?_ NB384_395.out _; (with_reducible repeat (first | refine blk_drewN ?_ _ | refine blk_drew ?_ | refine blk_alloc ?_ _)); exact BK384.out⟩, ⟨by (with_reducible repeat (first | refine blk_drewN ?_ _ | refine blk_drew ?_ | refine blk_alloc ?_ _)); refine blk_put (cs := #[.int .i64 t386, .string t387, .string t388, .slice Ao19 t389.length co19, .bool false]) ?_ 4 _ rfl; (with_reducible repeat (first | refine blk_drewN ?_ _ | refine blk_drew ?_ | refine blk_alloc ?_ _)); refine blk_put (cs := #[.int .i64 t386, .string t387, .string t388, .slice none 0 0, .bool false]) ?_ 3 _ rfl; (with_reducible repeat (first | refine blk_drewN ?_ _ | refine blk_drew ?_ | refine blk_alloc ?_ _)); refine blk_put (cs := #[.int .i64 t386, .string t387, .string (⟨#[]⟩ : ByteArray), .slice none 0 0, .bool false]) ?_ 2 _ rfl; (with_reducible repeat (first | refine blk_drewN ?_ _ | refine blk_drew ?_ | refine blk_alloc ?_ _)); refine blk_put (cs := #[.int .i64 t386, .string (⟨#[]⟩ : ByteArray), .string (⟨#[]⟩ : ByteArray), .slice none 0 0, .bool false]) ?_ 1 _ rfl; (with_reducible repeat (first | refine blk_drewN ?_ _ | refine blk_drew ?_ | refine blk_alloc ?_ _)); refine blk_put (cs := #[.int .i64 0, .string (⟨#[]⟩ : ByteArray), .string (⟨#[]⟩ : ByteArray), .slice none 0 0, .bool false]) ?_ 0 _ rfl; (with_reducible repeat (first | refine blk_drewN ?_ _ | refine blk_drew ?_ | refine blk_alloc ?_ _)); exact BK395.out⟩, ⟨by repeat (first | (with_reducible first | exact HB.out | apply below_alloc | apply pw_below_drewN | apply below_drew1 | refine below_set ?_ GE384.out | refine below_set ?_ GE395.out) | exact HB.out)⟩⟩
        · rw [if_neg c21] at H
          have c21b0 : (t383 != t394) = false := by simpa using c21
          (try (have c21b1 : decide (t383 = t394) = true := by simpa using c21))
          (try (have c21b2 : (t383 == t394) = true := by simpa using c21))
          clear c21
          by_cases c22 : t376.toList = t387.toList
          · rw [if_pos c22] at H
            have c22b0 : (t376.toList == t387.toList) = true := beq_iff_eq.mpr c22
            have c22b1 : (t376.toList != t387.toList) = false := bne_eq_false_iff_eq.mpr c22
            clear c22
            by_cases c23 : t375 = t386
            · rw [if_pos c23] at H
              have c23b0 : (t375 == t386) = true := beq_iff_eq.mpr c23
              have c23b1 : (t375 != t386) = false := bne_eq_false_iff_eq.mpr c23
              clear c23
              by_cases c24 : (t381 != t392) = true
              · rw [if_pos c24] at H
                have c24b0 : (t381 != t392) = true := c24
                (try (have c24b1 : decide (t381 = t392) = false := by simpa using c24))
                (try (have c24b2 : (t381 == t392) = false := by simpa using c24))
                (try (have c24b3 : ¬ (t381 = t392) := by simpa using c24))
                clear c24
                have H' := Aside0.mk H
                clear H
                have hnb25 := NB384_395.out
                have hnc25 := NB395_384.out
                have hcz26_0 : w16.cell? ⟨gb384, 0, none⟩ = some (.int .i64 t375) := (blk_cell BK384.out 0).trans rfl
                have hcz26_1 : w16.cell? ⟨gb384, 1, none⟩ = some (.string t376) := (blk_cell BK384.out 1).trans rfl
                have hcz26_2 : w16.cell? ⟨gb384, 2, none⟩ = some (.string t377) := (blk_cell BK384.out 2).trans rfl
                have hcz26_3 : w16.cell? ⟨gb384, 3, none⟩ = some (.slice Ao13 t378.length co13) := (blk_cell BK384.out 3).trans rfl
                have hcz26_4 : w16.cell? ⟨gb384, 4, none⟩ = some (.bool t381) := (blk_cell BK384.out 4).trans rfl
                have hfz26_0 := blk_frozen BK384.out 0
                have hfz26_1 := blk_frozen BK384.out 1
                have hfz26_2 := blk_frozen BK384.out 2
                have hfz26_3 := blk_frozen BK384.out 3
                have hfz26_4 := blk_frozen BK384.out 4
                have hcz27_0 : w16.cell? ⟨gb395, 0, none⟩ = some (.int .i64 0) := (blk_cell BK395.out 0).trans rfl
                have hcz27_1 : w16.cell? ⟨gb395, 1, none⟩ = some (.string (⟨#[]⟩ : ByteArray)) := (blk_cell BK395.out 1).trans rfl
                have hcz27_2 : w16.cell? ⟨gb395, 2, none⟩ = some (.string (⟨#[]⟩ : ByteArray)) := (blk_cell BK395.out 2).trans rfl
                have hcz27_3 : w16.cell? ⟨gb395, 3, none⟩ = some (.slice none 0 0) := (blk_cell BK395.out 3).trans rfl
                have hcz27_4 : w16.cell? ⟨gb395, 4, none⟩ = some (.bool false) := (blk_cell BK395.out 4).trans rfl
                have hfz27_0 := blk_frozen BK395.out 0
                have hfz27_1 := blk_frozen BK395.out 1
                have hfz27_2 := blk_frozen BK395.out 2
                have hfz27_3 := blk_frozen BK395.out 3
                have hfz27_4 := blk_frozen BK395.out 4
                go_wp2
                repeat (go_quiet (fail); try go_wp2)
                go_meet
                case rel => exact ⟨_, (true), (by first | rfl | (simp; done) | (simp [*]; done)), H', ⟨by first | omega | exact Nat.le_refl _⟩, ⟨by (with_reducible repeat (first | apply Kd.R_alloc | apply Kd.R_drewN | apply Kd.R_drew)); exact Kd.R_mono (Kd.R_far (p := ⟨gb395, 4, none⟩) (Kd.R_far (p := ⟨gb395, 3, none⟩) (Kd.R_far (p := ⟨gb395, 2, none⟩) (Kd.R_far (p := ⟨gb395, 1, none⟩) (Kd.R_far (p := ⟨gb395, 0, none⟩) (Kd.R_types HO380.out BK395.out (by decide)) (fun _ hk => hk.2) (.int .i64 t386)) (fun _ hk => hk.2) (.string t387)) (fun _ hk => hk.2) (.string t388)) (fun _ hk => hk.2) (.slice Ao19 t389.length co19)) (fun _ hk => hk.2) (.bool t392)) (fun _ hk => hk.1.2)⟩, ⟨by (with_reducible repeat (first | apply Kd.R_alloc | apply Kd.R_drewN | apply Kd.R_drew)); exact Kd.R_mono (Kd.R_far (p := ⟨gb395, 4, none⟩) (Kd.R_far (p := ⟨gb395, 3, none⟩) (Kd.R_far (p := ⟨gb395, 2, none⟩) (Kd.R_far (p := ⟨gb395, 1, none⟩) (Kd.R_far (p := ⟨gb395, 0, none⟩) (Kd.R_types HO391.out BK395.out (by decide)) (fun _ hk => hk.2) (.int .i64 t386)) (fun _ hk => hk.2) (.string t387)) (fun _ hk => hk.2) (.string t388)) (fun _ hk => hk.2) (.slice Ao19 t389.length co19)) (fun _ hk => hk.2) (.bool t392)) (fun _ hk => hk.1.2)⟩, ⟨by (with_reducible repeat (first | refine blk_drewN ?_ _ | refine blk_drew ?_ | refine blk_alloc ?_ _)); refine blk_far ?_ NB384_395.out _; (with_reducible repeat (first | refine blk_drewN ?_ _ | refine blk_drew ?_ | refine blk_alloc ?_ _)); refine blk_far ?_ NB384_395.out _; (with_reducible repeat (first | refine blk_drewN ?_ _ | refine blk_drew ?_ | refine blk_alloc ?_ _)); refine blk_far ?_ NB384_395.out _; (with_reducible repeat (first | refine blk_drewN ?_ _ | refine blk_drew ?_ | refine blk_alloc ?_ _)); refine blk_far ?_ NB384_395.out _; (with_reducible repeat (first | refine blk_drewN ?_ _ | refine blk_drew ?_ | refine blk_alloc ?_ _)); refine blk_far ?_ NB384_395.out _; (with_reducible repeat (first | refine blk_drewN ?_ _ | refine blk_drew ?_ | refine blk_alloc ?_ _)); exact BK384.out⟩, ⟨by (with_reducible repeat (first | refine blk_drewN ?_ _ | refine blk_drew ?_ | refine blk_alloc ?_ _)); refine blk_put (cs := #[.int .i64 t386, .string t387, .string t388, .slice Ao19 t389.length co19, .bool false]) ?_ 4 _ rfl; (with_reducible repeat (first | refine blk_drewN ?_ _ | refine blk_drew ?_ | refine blk_alloc ?_ _)); refine blk_put (cs := #[.int .i64 t386, .string t387, .string t388, .slice none 0 0, .bool false]) ?_ 3 _ rfl; (with_reducible repeat (first | refine blk_drewN ?_ _ | refine blk_drew ?_ | refine blk_alloc ?_ _)); refine blk_put (cs := #[.int .i64 t386, .string t387, .string (⟨#[]⟩ : ByteArray), .slice none 0 0, .bool false]) ?_ 2 _ rfl; (with_reducible repeat (first | refine blk_drewN ?_ _ | refine blk_drew ?_ | refine blk_alloc ?_ _)); refine blk_put (cs := #[.int .i64 t386, .string (⟨#[]⟩ : ByteArray), .string (⟨#[]⟩ : ByteArray), .slice none 0 0, .bool false]) ?_ 1 _ rfl; (with_reducible repeat (first | refine blk_drewN ?_ _ | refine blk_drew ?_ | refine blk_alloc ?_ _)); refine blk_put (cs := #[.int .i64 0, .string (⟨#[]⟩ : ByteArray), .string (⟨#[]⟩ : ByteArray), .slice none 0 0, .bool false]) ?_ 0 _ rfl; (with_reducible repeat (first | refine blk_drewN ?_ _ | refine blk_drew ?_ | refine blk_alloc ?_ _)); exact BK395.out⟩, ⟨by repeat (first | (with_reducible first | exact HB.out | apply below_alloc | apply pw_below_drewN | apply below_drew1 | refine below_set ?_ GE384.out | refine below_set ?_ GE395.out) | exact HB.out)⟩⟩
              · rw [if_neg c24] at H
                have c24b0 : (t381 != t392) = false := by simpa using c24
                (try (have c24b1 : decide (t381 = t392) = true := by simpa using c24))
                (try (have c24b2 : (t381 == t392) = true := by simpa using c24))
                clear c24
                have H' := Aside0.mk H
                clear H
                have hnb28 := NB384_395.out
                have hnc28 := NB395_384.out
                have hcz29_0 : w16.cell? ⟨gb384, 0, none⟩ = some (.int .i64 t375) := (blk_cell BK384.out 0).trans rfl
                have hcz29_1 : w16.cell? ⟨gb384, 1, none⟩ = some (.string t376) := (blk_cell BK384.out 1).trans rfl
                have hcz29_2 : w16.cell? ⟨gb384, 2, none⟩ = some (.string t377) := (blk_cell BK384.out 2).trans rfl
                have hcz29_3 : w16.cell? ⟨gb384, 3, none⟩ = some (.slice Ao13 t378.length co13) := (blk_cell BK384.out 3).trans rfl
                have hcz29_4 : w16.cell? ⟨gb384, 4, none⟩ = some (.bool t381) := (blk_cell BK384.out 4).trans rfl
                have hfz29_0 := blk_frozen BK384.out 0
                have hfz29_1 := blk_frozen BK384.out 1
                have hfz29_2 := blk_frozen BK384.out 2
                have hfz29_3 := blk_frozen BK384.out 3
                have hfz29_4 := blk_frozen BK384.out 4
                have hcz30_0 : w16.cell? ⟨gb395, 0, none⟩ = some (.int .i64 0) := (blk_cell BK395.out 0).trans rfl
                have hcz30_1 : w16.cell? ⟨gb395, 1, none⟩ = some (.string (⟨#[]⟩ : ByteArray)) := (blk_cell BK395.out 1).trans rfl
                have hcz30_2 : w16.cell? ⟨gb395, 2, none⟩ = some (.string (⟨#[]⟩ : ByteArray)) := (blk_cell BK395.out 2).trans rfl
                have hcz30_3 : w16.cell? ⟨gb395, 3, none⟩ = some (.slice none 0 0) := (blk_cell BK395.out 3).trans rfl
                have hcz30_4 : w16.cell? ⟨gb395, 4, none⟩ = some (.bool false) := (blk_cell BK395.out 4).trans rfl
                have hfz30_0 := blk_frozen BK395.out 0
                have hfz30_1 := blk_frozen BK395.out 1
                have hfz30_2 := blk_frozen BK395.out 2
                have hfz30_3 := blk_frozen BK395.out 3
                have hfz30_4 := blk_frozen BK395.out 4
                go_wp2
                repeat (go_quiet (fail); try go_wp2)
                go_meet
                case rel => exact ⟨_, (((t378.length : Int) != (t389.length : Int))), (by first | rfl | (simp; done) | (simp [*]; done)), H', ⟨by first | omega | exact Nat.le_refl _⟩, ⟨by (with_reducible repeat (first | apply Kd.R_alloc | apply Kd.R_drewN | apply Kd.R_drew)); exact Kd.R_mono (Kd.R_far (p := ⟨gb395, 4, none⟩) (Kd.R_far (p := ⟨gb395, 3, none⟩) (Kd.R_far (p := ⟨gb395, 2, none⟩) (Kd.R_far (p := ⟨gb395, 1, none⟩) (Kd.R_far (p := ⟨gb395, 0, none⟩) (Kd.R_types HO380.out BK395.out (by decide)) (fun _ hk => hk.2) (.int .i64 t386)) (fun _ hk => hk.2) (.string t387)) (fun _ hk => hk.2) (.string t388)) (fun _ hk => hk.2) (.slice Ao19 t389.length co19)) (fun _ hk => hk.2) (.bool t392)) (fun _ hk => hk.1.2)⟩, ⟨by (with_reducible repeat (first | apply Kd.R_alloc | apply Kd.R_drewN | apply Kd.R_drew)); exact Kd.R_mono (Kd.R_far (p := ⟨gb395, 4, none⟩) (Kd.R_far (p := ⟨gb395, 3, none⟩) (Kd.R_far (p := ⟨gb395, 2, none⟩) (Kd.R_far (p := ⟨gb395, 1, none⟩) (Kd.R_far (p := ⟨gb395, 0, none⟩) (Kd.R_types HO391.out BK395.out (by decide)) (fun _ hk => hk.2) (.int .i64 t386)) (fun _ hk => hk.2) (.string t387)) (fun _ hk => hk.2) (.string t388)) (fun _ hk => hk.2) (.slice Ao19 t389.length co19)) (fun _ hk => hk.2) (.bool t392)) (fun _ hk => hk.1.2)⟩, ⟨by (with_reducible repeat (first | refine blk_drewN ?_ _ | refine blk_drew ?_ | refine blk_alloc ?_ _)); refine blk_far ?_ NB384_395.out _; (with_reducible repeat (first | refine blk_drewN ?_ _ | refine blk_drew ?_ | refine blk_alloc ?_ _)); refine blk_far ?_ NB384_395.out _; (with_reducible repeat (first | refine blk_drewN ?_ _ | refine blk_drew ?_ | refine blk_alloc ?_ _)); refine blk_far ?_ NB384_395.out _; (with_reducible repeat (first | refine blk_drewN ?_ _ | refine blk_drew ?_ | refine blk_alloc ?_ _)); refine blk_far ?_ NB384_395.out _; (with_reducible repeat (first | refine blk_drewN ?_ _ | refine blk_drew ?_ | refine blk_alloc ?_ _)); refine blk_far ?_ NB384_395.out _; (with_reducible repeat (first | refine blk_drewN ?_ _ | refine blk_drew ?_ | refine blk_alloc ?_ _)); exact BK384.out⟩, ⟨by (with_reducible repeat (first | refine blk_drewN ?_ _ | refine blk_drew ?_ | refine blk_alloc ?_ _)); refine blk_put (cs := #[.int .i64 t386, .string t387, .string t388, .slice Ao19 t389.length co19, .bool false]) ?_ 4 _ rfl; (with_reducible repeat (first | refine blk_drewN ?_ _ | refine blk_drew ?_ | refine blk_alloc ?_ _)); refine blk_put (cs := #[.int .i64 t386, .string t387, .string t388, .slice none 0 0, .bool false]) ?_ 3 _ rfl; (with_reducible repeat (first | refine blk_drewN ?_ _ | refine blk_drew ?_ | refine blk_alloc ?_ _)); refine blk_put (cs := #[.int .i64 t386, .string t387, .string (⟨#[]⟩ : ByteArray), .slice none 0 0, .bool false]) ?_ 2 _ rfl; (with_reducible repeat (first | refine blk_drewN ?_ _ | refine blk_drew ?_ | refine blk_alloc ?_ _)); refine blk_put (cs := #[.int .i64 t386, .string (⟨#[]⟩ : ByteArray), .string (⟨#[]⟩ : ByteArray), .slice none 0 0, .bool false]) ?_ 1 _ rfl; (with_reducible repeat (first | refine blk_drewN ?_ _ | refine blk_drew ?_ | refine blk_alloc ?_ _)); refine blk_put (cs := #[.int .i64 0, .string (⟨#[]⟩ : ByteArray), .string (⟨#[]⟩ : ByteArray), .slice none 0 0, .bool false]) ?_ 0 _ rfl; (with_reducible repeat (first | refine blk_drewN ?_ _ | refine blk_drew ?_ | refine blk_alloc ?_ _)); exact BK395.out⟩, ⟨by repeat (first | (with_reducible first | exact HB.out | apply below_alloc | apply pw_below_drewN | apply below_drew1 | refine below_set ?_ GE384.out | refine below_set ?_ GE395.out) | exact HB.out)⟩⟩
            · rw [if_neg c23] at H
              have c23b0 : (t375 == t386) = false := beq_eq_false_iff_ne.mpr c23
              have c23b1 : (t375 != t386) = true := bne_iff_ne.mpr c23
              have H' := Aside0.mk H
              clear H
              have hnb31 := NB384_395.out
              have hnc31 := NB395_384.out
              have hcz32_0 : w16.cell? ⟨gb384, 0, none⟩ = some (.int .i64 t375) := (blk_cell BK384.out 0).trans rfl
              have hcz32_1 : w16.cell? ⟨gb384, 1, none⟩ = some (.string t376) := (blk_cell BK384.out 1).trans rfl
              have hcz32_2 : w16.cell? ⟨gb384, 2, none⟩ = some (.string t377) := (blk_cell BK384.out 2).trans rfl
              have hcz32_3 : w16.cell? ⟨gb384, 3, none⟩ = some (.slice Ao13 t378.length co13) := (blk_cell BK384.out 3).trans rfl
              have hcz32_4 : w16.cell? ⟨gb384, 4, none⟩ = some (.bool t381) := (blk_cell BK384.out 4).trans rfl
              have hfz32_0 := blk_frozen BK384.out 0
              have hfz32_1 := blk_frozen BK384.out 1
              have hfz32_2 := blk_frozen BK384.out 2
              have hfz32_3 := blk_frozen BK384.out 3
              have hfz32_4 := blk_frozen BK384.out 4
              have hcz33_0 : w16.cell? ⟨gb395, 0, none⟩ = some (.int .i64 0) := (blk_cell BK395.out 0).trans rfl
              have hcz33_1 : w16.cell? ⟨gb395, 1, none⟩ = some (.string (⟨#[]⟩ : ByteArray)) := (blk_cell BK395.out 1).trans rfl
              have hcz33_2 : w16.cell? ⟨gb395, 2, none⟩ = some (.string (⟨#[]⟩ : ByteArray)) := (blk_cell BK395.out 2).trans rfl
              have hcz33_3 : w16.cell? ⟨gb395, 3, none⟩ = some (.slice none 0 0) := (blk_cell BK395.out 3).trans rfl
              have hcz33_4 : w16.cell? ⟨gb395, 4, none⟩ = some (.bool false) := (blk_cell BK395.out 4).trans rfl
              have hfz33_0 := blk_frozen BK395.out 0
              have hfz33_1 := blk_frozen BK395.out 1
              have hfz33_2 := blk_frozen BK395.out 2
              have hfz33_3 := blk_frozen BK395.out 3
              have hfz33_4 := blk_frozen BK395.out 4
              go_wp2
              repeat (go_quiet (fail); try go_wp2)
              go_meet
              case rel => exact ⟨_, (true), (by first | rfl | (simp; done) | (simp [*]; done)), H', ⟨by first | omega | exact Nat.le_refl _⟩, ⟨by (with_reducible repeat (first | apply Kd.R_alloc | apply Kd.R_drewN | apply Kd.R_drew)); exact Kd.R_mono (Kd.R_far (p := ⟨gb395, 4, none⟩) (Kd.R_far (p := ⟨gb395, 3, none⟩) (Kd.R_far (p := ⟨gb395, 2, none⟩) (Kd.R_far (p := ⟨gb395, 1, none⟩) (Kd.R_far (p := ⟨gb395, 0, none⟩) (Kd.R_types HO380.out BK395.out (by decide)) (fun _ hk => hk.2) (.int .i64 t386)) (fun _ hk => hk.2) (.string t387)) (fun _ hk => hk.2) (.string t388)) (fun _ hk => hk.2) (.slice Ao19 t389.length co19)) (fun _ hk => hk.2) (.bool t392)) (fun _ hk => hk.1.2)⟩, ⟨by (with_reducible repeat (first | apply Kd.R_alloc | apply Kd.R_drewN | apply Kd.R_drew)); exact Kd.R_mono (Kd.R_far (p := ⟨gb395, 4, none⟩) (Kd.R_far (p := ⟨gb395, 3, none⟩) (Kd.R_far (p := ⟨gb395, 2, none⟩) (Kd.R_far (p := ⟨gb395, 1, none⟩) (Kd.R_far (p := ⟨gb395, 0, none⟩) (Kd.R_types HO391.out BK395.out (by decide)) (fun _ hk => hk.2) (.int .i64 t386)) (fun _ hk => hk.2) (.string t387)) (fun _ hk => hk.2) (.string t388)) (fun _ hk => hk.2) (.slice Ao19 t389.length co19)) (fun _ hk => hk.2) (.bool t392)) (fun _ hk => hk.1.2)⟩, ⟨by (with_reducible repeat (first | refine blk_drewN ?_ _ | refine blk_drew ?_ | refine blk_alloc ?_ _)); refine blk_far ?_ NB384_395.out _; (with_reducible repeat (first | refine blk_drewN ?_ _ | refine blk_drew ?_ | refine blk_alloc ?_ _)); refine blk_far ?_ NB384_395.out _; (with_reducible repeat (first | refine blk_drewN ?_ _ | refine blk_drew ?_ | refine blk_alloc ?_ _)); refine blk_far ?_ NB384_395.out _; (with_reducible repeat (first | refine blk_drewN ?_ _ | refine blk_drew ?_ | refine blk_alloc ?_ _)); refine blk_far ?_ NB384_395.out _; (with_reducible repeat (first | refine blk_drewN ?_ _ | refine blk_drew ?_ | refine blk_alloc ?_ _)); refine blk_far ?_ NB384_395.out _; (with_reducible repeat (first | refine blk_drewN ?_ _ | refine blk_drew ?_ | refine blk_alloc ?_ _)); exact BK384.out⟩, ⟨by (with_reducible repeat (first | refine blk_drewN ?_ _ | refine blk_drew ?_ | refine blk_alloc ?_ _)); refine blk_put (cs := #[.int .i64 t386, .string t387, .string t388, .slice Ao19 t389.length co19, .bool false]) ?_ 4 _ rfl; (with_reducible repeat (first | refine blk_drewN ?_ _ | refine blk_drew ?_ | refine blk_alloc ?_ _)); refine blk_put (cs := #[.int .i64 t386, .string t387, .string t388, .slice none 0 0, .bool false]) ?_ 3 _ rfl; (with_reducible repeat (first | refine blk_drewN ?_ _ | refine blk_drew ?_ | refine blk_alloc ?_ _)); refine blk_put (cs := #[.int .i64 t386, .string t387, .string (⟨#[]⟩ : ByteArray), .slice none 0 0, .bool false]) ?_ 2 _ rfl; (with_reducible repeat (first | refine blk_drewN ?_ _ | refine blk_drew ?_ | refine blk_alloc ?_ _)); refine blk_put (cs := #[.int .i64 t386, .string (⟨#[]⟩ : ByteArray), .string (⟨#[]⟩ : ByteArray), .slice none 0 0, .bool false]) ?_ 1 _ rfl; (with_reducible repeat (first | refine blk_drewN ?_ _ | refine blk_drew ?_ | refine blk_alloc ?_ _)); refine blk_put (cs := #[.int .i64 0, .string (⟨#[]⟩ : ByteArray), .string (⟨#[]⟩ : ByteArray), .slice none 0 0, .bool false]) ?_ 0 _ rfl; (with_reducible repeat (first | refine blk_drewN ?_ _ | refine blk_drew ?_ | refine blk_alloc ?_ _)); exact BK395.out⟩, ⟨by repeat (first | (with_reducible first | exact HB.out | apply below_alloc | apply pw_below_drewN | apply below_drew1 | refine below_set ?_ GE384.out | refine below_set ?_ GE395.out) | exact HB.out)⟩⟩
          · rw [if_neg c22] at H
            have c22b0 : (t376.toList == t387.toList) = false := beq_eq_false_iff_ne.mpr c22
            have c22b1 : (t376.toList != t387.toList) = true := bne_iff_ne.mpr c22
            have H' := Aside0.mk H
            clear H
            have hnb34 := NB384_395.out
            have hnc34 := NB395_384.out
            have hcz35_0 : w16.cell? ⟨gb384, 0, none⟩ = some (.int .i64 t375) := (blk_cell BK384.out 0).trans rfl
            have hcz35_1 : w16.cell? ⟨gb384, 1, none⟩ = some (.string t376) := (blk_cell BK384.out 1).trans rfl
            have hcz35_2 : w16.cell? ⟨gb384, 2, none⟩ = some (.string t377) := (blk_cell BK384.out 2).trans rfl
            have hcz35_3 : w16.cell? ⟨gb384, 3, none⟩ = some (.slice Ao13 t378.length co13) := (blk_cell BK384.out 3).trans rfl
            have hcz35_4 : w16.cell? ⟨gb384, 4, none⟩ = some (.bool t381) := (blk_cell BK384.out 4).trans rfl
            have hfz35_0 := blk_frozen BK384.out 0
            have hfz35_1 := blk_frozen BK384.out 1
            have hfz35_2 := blk_frozen BK384.out 2
            have hfz35_3 := blk_frozen BK384.out 3
            have hfz35_4 := blk_frozen BK384.out 4
            have hcz36_0 : w16.cell? ⟨gb395, 0, none⟩ = some (.int .i64 0) := (blk_cell BK395.out 0).trans rfl
            have hcz36_1 : w16.cell? ⟨gb395, 1, none⟩ = some (.string (⟨#[]⟩ : ByteArray)) := (blk_cell BK395.out 1).trans rfl
            have hcz36_2 : w16.cell? ⟨gb395, 2, none⟩ = some (.string (⟨#[]⟩ : ByteArray)) := (blk_cell BK395.out 2).trans rfl
            have hcz36_3 : w16.cell? ⟨gb395, 3, none⟩ = some (.slice none 0 0) := (blk_cell BK395.out 3).trans rfl
            have hcz36_4 : w16.cell? ⟨gb395, 4, none⟩ = some (.bool false) := (blk_cell BK395.out 4).trans rfl
            have hfz36_0 := blk_frozen BK395.out 0
            have hfz36_1 := blk_frozen BK395.out 1
            have hfz36_2 := blk_frozen BK395.out 2
            have hfz36_3 := blk_frozen BK395.out 3
            have hfz36_4 := blk_frozen BK395.out 4
            go_wp2
            repeat (go_quiet (fail); try go_wp2)
            go_meet
            case rel => exact ⟨_, (true), (by first | rfl | (simp; done) | (simp [*]; done)), H', ⟨by first | omega | exact Nat.le_refl _⟩, ⟨by (with_reducible repeat (first | apply Kd.R_alloc | apply Kd.R_drewN | apply Kd.R_drew)); exact Kd.R_mono (Kd.R_far (p := ⟨gb395, 4, none⟩) (Kd.R_far (p := ⟨gb395, 3, none⟩) (Kd.R_far (p := ⟨gb395, 2, none⟩) (Kd.R_far (p := ⟨gb395, 1, none⟩) (Kd.R_far (p := ⟨gb395, 0, none⟩) (Kd.R_types HO380.out BK395.out (by decide)) (fun _ hk => hk.2) (.int .i64 t386)) (fun _ hk => hk.2) (.string t387)) (fun _ hk => hk.2) (.string t388)) (fun _ hk => hk.2) (.slice Ao19 t389.length co19)) (fun _ hk => hk.2) (.bool t392)) (fun _ hk => hk.1.2)⟩, ⟨by (with_reducible repeat (first | apply Kd.R_alloc | apply Kd.R_drewN | apply Kd.R_drew)); exact Kd.R_mono (Kd.R_far (p := ⟨gb395, 4, none⟩) (Kd.R_far (p := ⟨gb395, 3, none⟩) (Kd.R_far (p := ⟨gb395, 2, none⟩) (Kd.R_far (p := ⟨gb395, 1, none⟩) (Kd.R_far (p := ⟨gb395, 0, none⟩) (Kd.R_types HO391.out BK395.out (by decide)) (fun _ hk => hk.2) (.int .i64 t386)) (fun _ hk => hk.2) (.string t387)) (fun _ hk => hk.2) (.string t388)) (fun _ hk => hk.2) (.slice Ao19 t389.length co19)) (fun _ hk => hk.2) (.bool t392)) (fun _ hk => hk.1.2)⟩, ⟨by (with_reducible repeat (first | refine blk_drewN ?_ _ | refine blk_drew ?_ | refine blk_alloc ?_ _)); refine blk_far ?_ NB384_395.out _; (with_reducible repeat (first | refine blk_drewN ?_ _ | refine blk_drew ?_ | refine blk_alloc ?_ _)); refine blk_far ?_ NB384_395.out _; (with_reducible repeat (first | refine blk_drewN ?_ _ | refine blk_drew ?_ | refine blk_alloc ?_ _)); refine blk_far ?_ NB384_395.out _; (with_reducible repeat (first | refine blk_drewN ?_ _ | refine blk_drew ?_ | refine blk_alloc ?_ _)); refine blk_far ?_ NB384_395.out _; (with_reducible repeat (first | refine blk_drewN ?_ _ | refine blk_drew ?_ | refine blk_alloc ?_ _)); refine blk_far ?_ NB384_395.out _; (with_reducible repeat (first | refine blk_drewN ?_ _ | refine blk_drew ?_ | refine blk_alloc ?_ _)); exact BK384.out⟩, ⟨by (with_reducible repeat (first | refine blk_drewN ?_ _ | refine blk_drew ?_ | refine blk_alloc ?_ _)); refine blk_put (cs := #[.int .i64 t386, .string t387, .string t388, .slice Ao19 t389.length co19, .bool false]) ?_ 4 _ rfl; (with_reducible repeat (first | refine blk_drewN ?_ _ | refine blk_drew ?_ | refine blk_alloc ?_ _)); refine blk_put (cs := #[.int .i64 t386, .string t387, .string t388, .slice none 0 0, .bool false]) ?_ 3 _ rfl; (with_reducible repeat (first | refine blk_drewN ?_ _ | refine blk_drew ?_ | refine blk_alloc ?_ _)); refine blk_put (cs := #[.int .i64 t386, .string t387, .string (⟨#[]⟩ : ByteArray), .slice none 0 0, .bool false]) ?_ 2 _ rfl; (with_reducible repeat (first | refine blk_drewN ?_ _ | refine blk_drew ?_ | refine blk_alloc ?_ _)); refine blk_put (cs := #[.int .i64 t386, .string (⟨#[]⟩ : ByteArray), .string (⟨#[]⟩ : ByteArray), .slice none 0 0, .bool false]) ?_ 1 _ rfl; (with_reducible repeat (first | refine blk_drewN ?_ _ | refine blk_drew ?_ | refine blk_alloc ?_ _)); refine blk_put (cs := #[.int .i64 0, .string (⟨#[]⟩ : ByteArray), .string (⟨#[]⟩ : ByteArray), .slice none 0 0, .bool false]) ?_ 0 _ rfl; (with_reducible repeat (first | refine blk_drewN ?_ _ | refine blk_drew ?_ | refine blk_alloc ?_ _)); exact BK395.out⟩, ⟨by repeat (first | (with_reducible first | exact HB.out | apply below_alloc | apply pw_below_drewN | apply below_drew1 | refine below_set ?_ GE384.out | refine below_set ?_ GE395.out) | exact HB.out)⟩⟩
      · rw [if_neg c20] at H
        have c20b0 : (t382 == t393) = false := beq_eq_false_iff_ne.mpr c20
        have c20b1 : (t382 != t393) = true := bne_iff_ne.mpr c20
        (first | rw [c20b0] | (simp only [i64_w, i32_w]; rw [c20b0]) | skip)
        have H' := Aside0.mk H
        clear H
        go_wp2
        repeat (go_quiet (fail); try go_wp2)
        go_meet
        case rel => exact ⟨_, (true), (by first | rfl | (simp; done) | (simp [*]; done)), H', ⟨by first | omega | exact Nat.le_refl _⟩, ⟨by (with_reducible repeat (first | apply Kd.R_alloc | apply Kd.R_drewN | apply Kd.R_drew)); exact Kd.R_mono (Kd.R_far (p := ⟨gb395, 4, none⟩) (Kd.R_far (p := ⟨gb395, 3, none⟩) (Kd.R_far (p := ⟨gb395, 2, none⟩) (Kd.R_far (p := ⟨gb395, 1, none⟩) (Kd.R_far (p := ⟨gb395, 0, none⟩) (Kd.R_types HO380.out BK395.out (by decide)) (fun _ hk => hk.2) (.int .i64 t386)) (fun _ hk => hk.2) (.string t387)) (fun _ hk => hk.2) (.string t388)) (fun _ hk => hk.2) (.slice Ao19 t389.length co19)) (fun _ hk => hk.2) (.bool t392)) (fun _ hk => hk.1.2)⟩, ⟨by (with_reducible repeat (first | apply Kd.R_alloc | apply Kd.R_drewN | apply Kd.R_drew)); exact Kd.R_mono (Kd.R_far (p := ⟨gb395, 4, none⟩) (Kd.R_far (p := ⟨gb395, 3, none⟩) (Kd.R_far (p := ⟨gb395, 2, none⟩) (Kd.R_far (p := ⟨gb395, 1, none⟩) (Kd.R_far (p := ⟨gb395, 0, none⟩) (Kd.R_types HO391.out BK395.out (by decide)) (fun _ hk => hk.2) (.int .i64 t386)) (fun _ hk => hk.2) (.string t387)) (fun _ hk => hk.2) (.string t388)) (fun _ hk => hk.2) (.slice Ao19 t389.length co19)) (fun _ hk => hk.2) (.bool t392)) (fun _ hk => hk.1.2)⟩, ⟨by (with_reducible repeat (first | refine blk_drewN ?_ _ | refine blk_drew ?_ | refine blk_alloc ?_ _)); refine blk_far ?_ NB384_395.out _; (with_reducible repeat (first | refine blk_drewN ?_ _ | refine blk_drew ?_ | refine blk_alloc ?_ _)); refine blk_far ?_ NB384_395.out _; (with_reducible repeat (first | refine blk_drewN ?_ _ | refine blk_drew ?_ | refine blk_alloc ?_ _)); refine blk_far ?_ NB384_395.out _; (with_reducible repeat (first | refine blk_drewN ?_ _ | refine blk_drew ?_ | refine blk_alloc ?_ _)); refine blk_far ?_ NB384_395.out _; (with_reducible repeat (first | refine blk_drewN ?_ _ | refine blk_drew ?_ | refine blk_alloc ?_ _)); refine blk_far ?_ NB384_395.out _; (with_reducible repeat (first | refine blk_drewN ?_ _ | refine blk_drew ?_ | refine blk_alloc ?_ _)); exact BK384.out⟩, ⟨by (with_reducible repeat (first | refine blk_drewN ?_ _ | refine blk_drew ?_ | refine blk_alloc ?_ _)); refine blk_put (cs := #[.int .i64 t386, .string t387, .string t388, .slice Ao19 t389.length co19, .bool false]) ?_ 4 _ rfl; (with_reducible repeat (first | refine blk_drewN ?_ _ | refine blk_drew ?_ | refine blk_alloc ?_ _)); refine blk_put (cs := #[.int .i64 t386, .string t387, .string t388, .slice none 0 0, .bool false]) ?_ 3 _ rfl; (with_reducible repeat (first | refine blk_drewN ?_ _ | refine blk_drew ?_ | refine blk_alloc ?_ _)); refine blk_put (cs := #[.int .i64 t386, .string t387, .string (⟨#[]⟩ : ByteArray), .slice none 0 0, .bool false]) ?_ 2 _ rfl; (with_reducible repeat (first | refine blk_drewN ?_ _ | refine blk_drew ?_ | refine blk_alloc ?_ _)); refine blk_put (cs := #[.int .i64 t386, .string (⟨#[]⟩ : ByteArray), .string (⟨#[]⟩ : ByteArray), .slice none 0 0, .bool false]) ?_ 1 _ rfl; (with_reducible repeat (first | refine blk_drewN ?_ _ | refine blk_drew ?_ | refine blk_alloc ?_ _)); refine blk_put (cs := #[.int .i64 0, .string (⟨#[]⟩ : ByteArray), .string (⟨#[]⟩ : ByteArray), .slice none 0 0, .bool false]) ?_ 0 _ rfl; (with_reducible repeat (first | refine blk_drewN ?_ _ | refine blk_drew ?_ | refine blk_alloc ?_ _)); exact BK395.out⟩, ⟨by repeat (first | (with_reducible first | exact HB.out | apply below_alloc | apply pw_below_drewN | apply below_drew1 | refine below_set ?_ GE384.out | refine below_set ?_ GE395.out) | exact HB.out)⟩⟩
    case rest =>
      clear HC8
      try clear c1
      try clear c2
      try clear p2
      try clear c3
      try clear c3b0
      try clear c3b1
      try clear c11
      try clear c17
      try clear c20
      try clear c20b0
      try clear c20b1
      try clear c21
      try clear c21b0
      try clear c21b1
      try clear c21b2
      try clear c22
      try clear c22b0
      try clear c22b1
      try clear c23
      try clear c23b0
      try clear c23b1
      try clear c24
      try clear c24b0
      try clear c24b1
      try clear c24b2
      try clear c25
      try clear c28
      try clear c31
      try clear c34
      try clear hcz12_0
      try clear hcz12_1
      try clear hcz12_2
      try clear hcz12_3
      try clear hcz12_4
      try clear hcz18_0
      try clear hcz18_1
      try clear hcz18_2
      try clear hcz18_3
      try clear hcz18_4
      try clear hcz26_0
      try clear hcz26_1
      try clear hcz26_2
      try clear hcz26_3
      try clear hcz26_4
      try clear hcz27_0
      try clear hcz27_1
      try clear hcz27_2
      try clear hcz27_3
      try clear hcz27_4
      try clear hcz29_0
      try clear hcz29_1
      try clear hcz29_2
      try clear hcz29_3
      try clear hcz29_4
      try clear hcz30_0
      try clear hcz30_1
      try clear hcz30_2
      try clear hcz30_3
      try clear hcz30_4
      try clear hcz32_0
      try clear hcz32_1
      try clear hcz32_2
      try clear hcz32_3
      try clear hcz32_4
      try clear hcz33_0
      try clear hcz33_1
      try clear hcz33_2
      try clear hcz33_3
      try clear hcz33_4
      try clear hcz35_0
      try clear hcz35_1
      try clear hcz35_2
      try clear hcz35_3
      try clear hcz35_4
      try clear hcz36_0
      try clear hcz36_1
      try clear hcz36_2
      try clear hcz36_3
      try clear hcz36_4
      try clear hfz12_0
      try clear hfz12_1
      try clear hfz12_2
      try clear hfz12_3
      try clear hfz12_4
      try clear hfz18_0
      try clear hfz18_1
      try clear hfz18_2
      try clear hfz18_3
      try clear hfz18_4
      try clear hfz26_0
      try clear hfz26_1
      try clear hfz26_2
      try clear hfz26_3
      try clear hfz26_4
      try clear hfz27_0
      try clear hfz27_1
      try clear hfz27_2
      try clear hfz27_3
      try clear hfz27_4
      try clear hfz29_0
      try clear hfz29_1
      try clear hfz29_2
      try clear hfz29_3
      try clear hfz29_4
      try clear hfz30_0
      try clear hfz30_1
      try clear hfz30_2
      try clear hfz30_3
      try clear hfz30_4
      try clear hfz32_0
      try clear hfz32_1
      try clear hfz32_2
      try clear hfz32_3
      try clear hfz32_4
      try clear hfz33_0
      try clear hfz33_1
      try clear hfz33_2
      try clear hfz33_3
      try clear hfz33_4
      try clear hfz35_0
      try clear hfz35_1
      try clear hfz35_2
      try clear hfz35_3
      try clear hfz35_4
      try clear hfz36_0
      try clear hfz36_1
      try clear hfz36_2
      try clear hfz36_3
      try clear hfz36_4
      obtain ⟨kq, x66_7, rfl, HA, HJ7, HO_385003, HO_396003, BK384, BK395, HB⟩ := hcut
      cases kq with
      | zero => exact absurd HA.out (by simp [flaillaw09_TagCase.j0])
      | succ kj7 =>
        have H := HA.out
        clear HA
        simp only [flaillaw09_TagCase.j0] at H
        by_cases c37 : x66_7 = true
        · subst c37
          have H1 : (some false) = some r := by rw [if_pos rfl] at H; exact H
          clear H
          have H := H1
          clear H1
          obtain rfl := Option.some.inj H
          go_wp2
          repeat (go_quiet (fail); try go_wp2)
          go_ret
          exact ⟨by first | rfl | (simp [errW_none, errW_some] <;> rfl) | (simp [*, errW_none, errW_some] <;> rfl), by repeat (first | (with_reducible first | exact HB.out | apply below_alloc | apply pw_below_drewN | apply below_drew1 | refine below_set ?_ GE384.out | refine below_set ?_ GE395.out) | exact HB.out)⟩
        · replace c37 := Bool.eq_false_iff.mpr c37
          subst c37
          have H1 : (flaillaw09_TagCase.l0 kj7 t374 0 t375 t376 t377 t378 t381 t386 t387 t388 t389 t392) = some r := by rw [if_neg (show ¬ (false = true) by decide)] at H; exact H
          clear H
          have H := H1
          clear H1
          have H' := Aside0.mk H
          clear H
          go_wp2
          repeat (go_quiet (fail); try go_wp2)
          go_loopg [10] kj7 (fun kq v10 w' => ∃ (x10_2 : Int), v10 = .int .i64 x10_2 ∧ Aside0 (flaillaw09_TagCase.l0 kq t374 x10_2 t375 t376 t377 t378 t381 t386 t387 t388 t389 t392 = some r) ∧ Aside0 (kq ≤ kj7) ∧ Aside0 (Kd.R k27 27 w' w.heap.size (fun k_ => some k_ ≠ ((.slice Ao19 t389.length co19) : Value).ownBlock) (.slice Ao13 t378.length co13) t378) ∧ Aside0 (Kd.R k27 27 w' w.heap.size (fun k_ => some k_ ≠ ((.slice Ao13 t378.length co13) : Value).ownBlock) (.slice Ao19 t389.length co19) t389) ∧ Aside0 (w'.heap[gb384]? = some (.cells #[.int .i64 t375, .string t376, .string t377, (.slice Ao13 t378.length co13), .bool t381] 39 (0, 0))) ∧ Aside0 (w'.heap[gb395]? = some (.cells #[.int .i64 t386, .string t387, .string t388, (.slice Ao19 t389.length co19), .bool t392] 39 (0, 0))) ∧ Aside0 (Below w.heap.size w w'))
          case atStart => exact ⟨(0), (by first | rfl | (simp; done) | (simp [*]; done)), H', ⟨Nat.le_refl _⟩, ⟨by (with_reducible repeat (first | apply Kd.R_alloc | apply Kd.R_drewN | apply Kd.R_drew)); exact HO_385003.out⟩, ⟨by (with_reducible repeat (first | apply Kd.R_alloc | apply Kd.R_drewN | apply Kd.R_drew)); exact HO_396003.out⟩, ⟨by (with_reducible repeat (first | refine blk_drewN ?_ _ | refine blk_drew ?_ | refine blk_alloc ?_ _)); exact BK384.out⟩, ⟨by (with_reducible repeat (first | refine blk_drewN ?_ _ | refine blk_drew ?_ | refine blk_alloc ?_ _)); exact BK395.out⟩, ⟨by repeat (first | (with_reducible first | exact HB.out | apply below_alloc | apply pw_below_drewN | apply below_drew1 | refine below_set ?_ GE384.out | refine below_set ?_ GE395.out) | exact HB.out)⟩⟩
          case round =>
            clear H'
            try clear c1
            try clear c2
            try clear p2
            try clear c3
            try clear c3b0
            try clear c3b1
            try clear c11
            try clear c17
            try clear c20
            try clear c20b0
            try clear c20b1
            try clear c21
            try clear c21b0
            try clear c21b1
            try clear c21b2
            try clear c22
            try clear c22b0
            try clear c22b1
            try clear c23
            try clear c23b0
            try clear c23b1
            try clear c24
            try clear c24b0
            try clear c24b1
            try clear c24b2
            try clear c25
            try clear c28
            try clear c31
            try clear c34
            try clear c37
            try clear hcz12_0
            try clear hcz12_1
            try clear hcz12_2
            try clear hcz12_3
            try clear hcz12_4
            try clear hcz18_0
            try clear hcz18_1
            try clear hcz18_2
            try clear hcz18_3
            try clear hcz18_4
            try clear hcz26_0
            try clear hcz26_1
            try clear hcz26_2
            try clear hcz26_3
            try clear hcz26_4
            try clear hcz27_0
            try clear hcz27_1
            try clear hcz27_2
            try clear hcz27_3
            try clear hcz27_4
            try clear hcz29_0
            try clear hcz29_1
            try clear hcz29_2
            try clear hcz29_3
            try clear hcz29_4
            try clear hcz30_0
            try clear hcz30_1
            try clear hcz30_2
            try clear hcz30_3
            try clear hcz30_4
            try clear hcz32_0
            try clear hcz32_1
            try clear hcz32_2
            try clear hcz32_3
            try clear hcz32_4
            try clear hcz33_0
            try clear hcz33_1
            try clear hcz33_2
            try clear hcz33_3
            try clear hcz33_4
            try clear hcz35_0
            try clear hcz35_1
            try clear hcz35_2
            try clear hcz35_3
            try clear hcz35_4
            try clear hcz36_0
            try clear hcz36_1
            try clear hcz36_2
            try clear hcz36_3
            try clear hcz36_4
            try clear hfz12_0
            try clear hfz12_1
            try clear hfz12_2
            try clear hfz12_3
            try clear hfz12_4
            try clear hfz18_0
            try clear hfz18_1
            try clear hfz18_2
            try clear hfz18_3
            try clear hfz18_4
            try clear hfz26_0
            try clear hfz26_1
            try clear hfz26_2
            try clear hfz26_3
            try clear hfz26_4
            try clear hfz27_0
            try clear hfz27_1
            try clear hfz27_2
            try clear hfz27_3
            try clear hfz27_4
            try clear hfz29_0
            try clear hfz29_1
            try clear hfz29_2
            try clear hfz29_3
            try clear hfz29_4
            try clear hfz30_0
            try clear hfz30_1
            try clear hfz30_2
            try clear hfz30_3
            try clear hfz30_4
            try clear hfz32_0
            try clear hfz32_1
            try clear hfz32_2
            try clear hfz32_3
            try clear hfz32_4
            try clear hfz33_0
            try clear hfz33_1
            try clear hfz33_2
            try clear hfz33_3
            try clear hfz33_4
            try clear hfz35_0
            try clear hfz35_1
            try clear hfz35_2
            try clear hfz35_3
            try clear hfz35_4
            try clear hfz36_0
            try clear hfz36_1
            try clear hfz36_2
            try clear hfz36_3
            try clear hfz36_4
            try clear p2
            obtain ⟨x10_2, rfl, HA, HK2, HO_385003, HO_396003, BK384, BK395, HB⟩ := hrel
            cases gk with
            | zero => exact absurd HA.out (by simp [flaillaw09_TagCase.l0])
            | succ k2 =>
              have H := HA.out
              clear HA
              simp only [flaillaw09_TagCase.l0] at H
              by_cases c38 : x10_2 < (t378.length : Int)
              · rw [if_pos c38] at H
                have c38b0 : decide (x10_2 < (t378.length : Int)) = true := decide_eq_true c38
                clear c38
                by_cases c39 : 0 ≤ x10_2
                · rw [if_pos c39] at H
                  have c39b0 : decide (0 ≤ x10_2) = true := decide_eq_true c39
                  clear c39
                  by_cases c40 : x10_2 < (t389.length : Int)
                  · rw [if_pos c40] at H
                    have c40b0 : decide (x10_2 < (t389.length : Int)) = true := decide_eq_true c40
                    clear c40
                    by_cases c41 : ((rd_T27 t378 x10_2).f0).toList = ((rd_T27 t389 x10_2).f0).toList
                    · rw [if_pos c41] at H
                      have c41b0 : (((rd_T27 t378 x10_2).f0).toList == ((rd_T27 t389 x10_2).f0).toList) = true := beq_iff_eq.mpr c41
                      have c41b1 : (((rd_T27 t378 x10_2).f0).toList != ((rd_T27 t389 x10_2).f0).toList) = false := bne_eq_false_iff_eq.mpr c41
                      clear c41
                      have H' := Aside0.mk H
                      clear H
                      have hnb42 := NB384_395.out
                      have hnc42 := NB395_384.out
                      have hcz43_0 : wr.cell? ⟨gb384, 0, none⟩ = some (.int .i64 t375) := (blk_cell BK384.out 0).trans rfl
                      have hcz43_1 : wr.cell? ⟨gb384, 1, none⟩ = some (.string t376) := (blk_cell BK384.out 1).trans rfl
                      have hcz43_2 : wr.cell? ⟨gb384, 2, none⟩ = some (.string t377) := (blk_cell BK384.out 2).trans rfl
                      have hcz43_3 : wr.cell? ⟨gb384, 3, none⟩ = some (.slice Ao13 t378.length co13) := (blk_cell BK384.out 3).trans rfl
                      have hcz43_4 : wr.cell? ⟨gb384, 4, none⟩ = some (.bool t381) := (blk_cell BK384.out 4).trans rfl
                      have hfz43_0 := blk_frozen BK384.out 0
                      have hfz43_1 := blk_frozen BK384.out 1
                      have hfz43_2 := blk_frozen BK384.out 2
                      have hfz43_3 := blk_frozen BK384.out 3
                      have hfz43_4 := blk_frozen BK384.out 4
                      have p396 : 0 ≤ (x10_2 : Int) := of_decide_eq_true (by first | (with_reducible assumption) | assumption)
                      have q396 : x10_2 < (t378.length : Int) := of_decide_eq_true (by first | (with_reducible assumption) | assumption)
                      obtain ⟨ad396, e396, hx396_0, hx396_1⟩ := at_T27 (Kd.R_reads' HO_385003.out).2.2 x10_2 p396 q396
                      cases e396
                      replace p396 := eq_true p396
                      replace q396 := eq_true q396
                      have hcz44_0 : wr.cell? ⟨gb395, 0, none⟩ = some (.int .i64 t386) := (blk_cell BK395.out 0).trans rfl
                      have hcz44_1 : wr.cell? ⟨gb395, 1, none⟩ = some (.string t387) := (blk_cell BK395.out 1).trans rfl
                      have hcz44_2 : wr.cell? ⟨gb395, 2, none⟩ = some (.string t388) := (blk_cell BK395.out 2).trans rfl
                      have hcz44_3 : wr.cell? ⟨gb395, 3, none⟩ = some (.slice Ao19 t389.length co19) := (blk_cell BK395.out 3).trans rfl
                      have hcz44_4 : wr.cell? ⟨gb395, 4, none⟩ = some (.bool t392) := (blk_cell BK395.out 4).trans rfl
                      have hfz44_0 := blk_frozen BK395.out 0
                      have hfz44_1 := blk_frozen BK395.out 1
                      have hfz44_2 := blk_frozen BK395.out 2
                      have hfz44_3 := blk_frozen BK395.out 3
                      have hfz44_4 := blk_frozen BK395.out 4
                      have p397 : 0 ≤ (x10_2 : Int) := of_decide_eq_true (by first | (with_reducible assumption) | assumption)
                      have q397 : x10_2 < (t389.length : Int) := of_decide_eq_true (by first | (with_reducible assumption) | assumption)
                      obtain ⟨ad397, e397, hx397_0, hx397_1⟩ := at_T27 (Kd.R_reads' HO_396003.out).2.2 x10_2 p397 q397
                      cases e397
                      replace p397 := eq_true p397
                      replace q397 := eq_true q397
                      go_wp2
                      repeat (go_quiet (fail); try go_wp2)
                      go_roundg k2
                      case measure => have := HJ7.out; have := HK2.out; omega
                      case rel => exact ⟨(wrap64 (x10_2 + 1)), (by first | rfl | (simp; done) | (simp [*]; done)), H', ⟨by have := HJ7.out; have := HK2.out; omega⟩, ⟨by (with_reducible repeat (first | apply Kd.R_alloc | apply Kd.R_drewN | apply Kd.R_drew)); exact HO_385003.out⟩, ⟨by (with_reducible repeat (first | apply Kd.R_alloc | apply Kd.R_drewN | apply Kd.R_drew)); exact HO_396003.out⟩, ⟨by (with_reducible repeat (first | refine blk_drewN ?_ _ | refine blk_drew ?_ | refine blk_alloc ?_ _)); exact BK384.out⟩, ⟨by (with_reducible repeat (first | refine blk_drewN ?_ _ | refine blk_drew ?_ | refine blk_alloc ?_ _)); exact BK395.out⟩, ⟨by repeat (first | (with_reducible first | exact HB.out | apply below_alloc | apply pw_below_drewN | apply below_drew1 | refine below_set ?_ GE384.out | refine below_set ?_ GE395.out) | exact HB.out)⟩⟩
                    · rw [if_neg c41] at H
                      have c41b0 : (((rd_T27 t378 x10_2).f0).toList == ((rd_T27 t389 x10_2).f0).toList) = false := beq_eq_false_iff_ne.mpr c41
                      have c41b1 : (((rd_T27 t378 x10_2).f0).toList != ((rd_T27 t389 x10_2).f0).toList) = true := bne_iff_ne.mpr c41
                      obtain rfl := Option.some.inj H
                      have hnb45 := NB384_395.out
                      have hnc45 := NB395_384.out
                      have hcz46_0 : wr.cell? ⟨gb384, 0, none⟩ = some (.int .i64 t375) := (blk_cell BK384.out 0).trans rfl
                      have hcz46_1 : wr.cell? ⟨gb384, 1, none⟩ = some (.string t376) := (blk_cell BK384.out 1).trans rfl
                      have hcz46_2 : wr.cell? ⟨gb384, 2, none⟩ = some (.string t377) := (blk_cell BK384.out 2).trans rfl
                      have hcz46_3 : wr.cell? ⟨gb384, 3, none⟩ = some (.slice Ao13 t378.length co13) := (blk_cell BK384.out 3).trans rfl
                      have hcz46_4 : wr.cell? ⟨gb384, 4, none⟩ = some (.bool t381) := (blk_cell BK384.out 4).trans rfl
                      have hfz46_0 := blk_frozen BK384.out 0
                      have hfz46_1 := blk_frozen BK384.out 1
                      have hfz46_2 := blk_frozen BK384.out 2
                      have hfz46_3 := blk_frozen BK384.out 3
                      have hfz46_4 := blk_frozen BK384.out 4
                      have p396 : 0 ≤ (x10_2 : Int) := of_decide_eq_true (by first | (with_reducible assumption) | assumption)
                      have q396 : x10_2 < (t378.length : Int) := of_decide_eq_true (by first | (with_reducible assumption) | assumption)
                      obtain ⟨ad396, e396, hx396_0, hx396_1⟩ := at_T27 (Kd.R_reads' HO_385003.out).2.2 x10_2 p396 q396
                      cases e396
                      replace p396 := eq_true p396
                      replace q396 := eq_true q396
                      have hcz47_0 : wr.cell? ⟨gb395, 0, none⟩ = some (.int .i64 t386) := (blk_cell BK395.out 0).trans rfl
                      have hcz47_1 : wr.cell? ⟨gb395, 1, none⟩ = some (.string t387) := (blk_cell BK395.out 1).trans rfl
                      have hcz47_2 : wr.cell? ⟨gb395, 2, none⟩ = some (.string t388) := (blk_cell BK395.out 2).trans rfl
                      have hcz47_3 : wr.cell? ⟨gb395, 3, none⟩ = some (.slice Ao19 t389.length co19) := (blk_cell BK395.out 3).trans rfl
                      have hcz47_4 : wr.cell? ⟨gb395, 4, none⟩ = some (.bool t392) := (blk_cell BK395.out 4).trans rfl
                      have hfz47_0 := blk_frozen BK395.out 0
                      have hfz47_1 := blk_frozen BK395.out 1
                      have hfz47_2 := blk_frozen BK395.out 2
                      have hfz47_3 := blk_frozen BK395.out 3
                      have hfz47_4 := blk_frozen BK395.out 4
                      have p397 : 0 ≤ (x10_2 : Int) := of_decide_eq_true (by first | (with_reducible assumption) | assumption)
                      have q397 : x10_2 < (t389.length : Int) := of_decide_eq_true (by first | (with_reducible assumption) | assumption)
                      obtain ⟨ad397, e397, hx397_0, hx397_1⟩ := at_T27 (Kd.R_reads' HO_396003.out).2.2 x10_2 p397 q397
                      cases e397
                      replace p397 := eq_true p397
                      replace q397 := eq_true q397
                      go_wp2
                      repeat (go_quiet (fail); try go_wp2)
                      go_ret
                      exact ⟨by first | rfl | (simp [errW_none, errW_some] <;> rfl) | (simp [*, errW_none, errW_some] <;> rfl), by repeat (first | (with_reducible first | exact HB.out | apply below_alloc | apply pw_below_drewN | apply below_drew1 | refine below_set ?_ GE384.out | refine below_set ?_ GE395.out) | exact HB.out)⟩
                  · rw [if_neg c40] at H
                    exact absurd H (by simp)
                · rw [if_neg c39] at H
                  exact absurd H (by simp)
              · rw [if_neg c38] at H
                have c38b0 : decide (x10_2 < (t378.length : Int)) = false := decide_eq_false c38
                clear c38
                obtain rfl := Option.some.inj H
                have hnb48 := NB384_395.out
                have hnc48 := NB395_384.out
                have hcz49_0 : wr.cell? ⟨gb384, 0, none⟩ = some (.int .i64 t375) := (blk_cell BK384.out 0).trans rfl
                have hcz49_1 : wr.cell? ⟨gb384, 1, none⟩ = some (.string t376) := (blk_cell BK384.out 1).trans rfl
                have hcz49_2 : wr.cell? ⟨gb384, 2, none⟩ = some (.string t377) := (blk_cell BK384.out 2).trans rfl
                have hcz49_3 : wr.cell? ⟨gb384, 3, none⟩ = some (.slice Ao13 t378.length co13) := (blk_cell BK384.out 3).trans rfl
                have hcz49_4 : wr.cell? ⟨gb384, 4, none⟩ = some (.bool t381) := (blk_cell BK384.out 4).trans rfl
                have hfz49_0 := blk_frozen BK384.out 0
                have hfz49_1 := blk_frozen BK384.out 1
                have hfz49_2 := blk_frozen BK384.out 2
                have hfz49_3 := blk_frozen BK384.out 3
                have hfz49_4 := blk_frozen BK384.out 4
                go_wp2
                repeat (go_quiet (fail); try go_wp2)
                go_ret
                exact ⟨by first | rfl | (simp [errW_none, errW_some] <;> rfl) | (simp [*, errW_none, errW_some] <;> rfl), by repeat (first | (with_reducible first | exact HB.out | apply below_alloc | apply pw_below_drewN | apply below_drew1 | refine below_set ?_ GE384.out | refine below_set ?_ GE395.out) | exact HB.out)⟩

/-- THE ONE PURE STATEMENT of flaillaw09_TagCase: yours. -/
def flaillaw09_TagCase.Pure : Prop := ∀ (a0 : ByteArray), a0.size ≤ 140737488351232 → ∃ k, flaillaw09_TagCase.f k a0 = some true
theorem flaillaw09_TagCase.walk (P : flaillaw09_TagCase.Pure) (a0 : ByteArray) (w : World) (hG : Gl w) (w0 : a0.size ≤ 140737488351232) :
    Calls Tryd.prog 11 #[.string a0] w fun e w' => e = .returned (.bool true) ∧ Below w.heap.size w w' := by
  obtain ⟨k, h⟩ := P a0 w0
  refine (flaillaw09_TagCase.calls k a0 true w hG h).mono ?_
  rintro e w' ⟨rfl, hd⟩
  exact ⟨rfl, hd⟩

end Go.Proofs.YtfhjfidkcdcjnaaDoor.Q

/- TagCase: the pure statement. -/
namespace Go.Proofs.YtfhjfidkcdcjnaaDoor.Pure
open Go Go.RowKit Go.Proofs.YtfhjfidkcdcjnaaDoor.Q Go.Proofs.YtfhjfidkcdcjnaaDoorW.PrintWords Go.Proofs.YtfhjfidkcdcjnaaDoorW.PrintLast Go.Proofs.YtfhjfidkcdcjnaaDoorW.PrintMore
set_option linter.unusedVariables false
set_option linter.unusedSimpArgs false

theorem case_l0 (x y : List S27) (he : x.map (·.f0) = y.map (·.f0)) (hl : x.length < 2147483648) (c1 : Int) (n1 t1 : ByteArray) (s1 : Bool) (c2 : Int) (n2 t2 : ByteArray) (s2 : Bool) :
    ∀ (d i : Nat), i + d = x.length → Ev (fun k => flaillaw09_TagCase.l0 k true (i : Int) c1 n1 t1 x s1 c2 n2 t2 y s2) true := by
  have hlen : x.length = y.length := by simpa using congrArg List.length he
  intro d
  induction d with
  | zero =>
    intro i hi
    refine Ev.step (f := fun k => some true) (fun k => ?_) (Ev.now true)
    simp only [flaillaw09_TagCase.l0]
    rw [if_neg (by omega)]
  | succ d ih =>
    intro i hi
    refine Ev.step (f := fun k => flaillaw09_TagCase.l0 k true ((i + 1 : Nat) : Int) c1 n1 t1 x s1 c2 n2 t2 y s2) (fun k => ?_) (ih (i + 1) (by omega))
    have e : (rd_T27 x (i : Int)).f0 = (rd_T27 y (i : Int)).f0 := by
      unfold rd_T27
      rw [Int.toNat_natCast, List.getD, List.getD, List.getElem?_eq_getElem (by omega), List.getElem?_eq_getElem (by omega)]
      have h1 : (x.map (·.f0))[i]? = (y.map (·.f0))[i]? := by rw [he]
      rw [List.getElem?_map, List.getElem?_map, List.getElem?_eq_getElem (by omega), List.getElem?_eq_getElem (by omega)] at h1
      exact Option.some.inj h1
    simp only [flaillaw09_TagCase.l0]
    rw [if_pos (by omega), if_pos (by omega), if_pos (by omega), if_pos (by rw [e]), Fl.wrap_in _ (by omega) (by omega)]
    rfl
theorem toL_lower (s : ByteArray) : Fl.toL (Fl.ofL (Fl.lower (Fl.toL s))) = Fl.lower (Fl.toL s) := rfl
theorem TagCase : flaillaw09_TagCase.Pure := by
  intro s _
  apply Ev.rounds
  unfold flaillaw09_TagCase.f
  refine Ev.bind awake9_ev ?_
  by_cases hs : (s.size : Int) > 300
  · simp only [if_pos hs]; exact Ev.now true
  · have hlow : sign_Lower.f s = some (Fl.ofL (Fl.lower (Fl.toL s))) := by unfold sign_Lower.f; rw [if_pos (by omega)]
    obtain ⟨S, hS⟩ : ∃ S, Fl.ofL (Fl.lower (Fl.toL s)) = S := ⟨_, rfl⟩
    have hSl : Fl.toL S = Fl.lower (Fl.toL s) := by rw [← hS]; rfl
    have hSs : S.size = s.size := by rw [← Fl.toL_length S, hSl, Fl.lower_length, Fl.toL_length]
    rw [hS] at hlow
    have hin := tag_in (s := s) (i := 0) (by omega) (by omega)
    have hou := tag_out (s := s) (i := 0) (by omega) (by omega)
    have hin' := tag_in (s := S) (i := 0) (by omega) (by omega)
    have hou' := tag_out (s := S) (i := 0) (by omega) (by omega)
    rw [List.drop_zero] at hin hou hin' hou'
    rw [hSl] at hin' hou'
    rw [Fl.nameL_lower] at hin' hou'
    by_cases hn : Fl.nameL (Fl.toL s) = 0
    · refine Ev.congr (f := fun k => flaillaw09_TagCase.j0 k true false 0 ⟨#[]⟩ ⟨#[]⟩ [] false 0 ⟨#[]⟩ ⟨#[]⟩ [] false) (fun k => ?_) ?_
      · rw [if_neg hs, hlow, show (0 : Int) = ((0 : Nat) : Int) from rfl, hou hn]
        simp only [Option.bind_some]
        rw [hou' hn]
        simp
      · refine Ev.step (f := fun k => flaillaw09_TagCase.l0 k true ((0 : Nat) : Int) 0 ⟨#[]⟩ ⟨#[]⟩ [] false 0 ⟨#[]⟩ ⟨#[]⟩ [] false) (fun k => ?_) (case_l0 [] [] rfl (by decide) 0 ⟨#[]⟩ ⟨#[]⟩ false 0 ⟨#[]⟩ ⟨#[]⟩ false 0 0 rfl)
        simp only [flaillaw09_TagCase.j0]
        rw [if_neg (by simp)]; rfl
    · have hin := hin hn
      have hin' := hin' hn
      have hT := Fl.tagL_lower hn
      cases h1 : Fl.tagL (Fl.toL s) with
      | none =>
        rw [h1] at hin hT
        have h2 : Fl.tagL (Fl.lower (Fl.toL s)) = none := by simpa using hT
        rw [h2] at hin'
        refine Ev.congr (f := fun k => flaillaw09_TagCase.j0 k true false 0 ⟨#[]⟩ ⟨#[]⟩ [] false 0 ⟨#[]⟩ ⟨#[]⟩ [] false) (fun k => ?_) ?_
        · rw [if_neg hs, hlow, show (0 : Int) = ((0 : Nat) : Int) from rfl, hin]
          simp only [Option.bind_some]
          rw [hin']
          simp [hSs]
        · refine Ev.step (f := fun k => flaillaw09_TagCase.l0 k true ((0 : Nat) : Int) 0 ⟨#[]⟩ ⟨#[]⟩ [] false 0 ⟨#[]⟩ ⟨#[]⟩ [] false) (fun k => ?_) (case_l0 [] [] rfl (by decide) 0 ⟨#[]⟩ ⟨#[]⟩ false 0 ⟨#[]⟩ ⟨#[]⟩ false 0 0 rfl)
          simp only [flaillaw09_TagCase.j0]
          rw [if_neg (by simp)]; rfl
      | some t =>
        rw [h1] at hin hT
        cases h2 : Fl.tagL (Fl.lower (Fl.toL s)) with
        | none => rw [h2] at hT; simp at hT
        | some u =>
          rw [h2] at hin' hT
          simp only [Option.map_some, Option.some.injEq, Fl.Tag.shape, Prod.mk.injEq] at hT
          obtain ⟨e1, e2, e3, e4, e5⟩ := hT
          simp only at hin hin'
          have hr : S.size - u.rest.length = s.size - t.rest.length := by rw [e5, Fl.lower_length, hSs]
          rw [hr, e1, e2, e4] at hin'
          have hal : u.attrs.length = t.attrs.length := by simpa using congrArg List.length e3
          have hcount : t.attrs.length ≤ s.size := by
            obtain ⟨x, r, hx, ⟨_, hl⟩ | ⟨_, hl⟩⟩ := Fl.nameL_form hn
            · rw [hl, Fl.tagL_one hx] at h1
              obtain ⟨⟨as_, b, r2⟩, h3, rfl⟩ := Option.map_eq_some_iff.1 h1
              have h4 := Fl.readL_count h3
              have h5 : (r.dropWhile Fl.nm).length ≤ r.length := (List.dropWhile_suffix _).length_le
              have h6 := congrArg List.length hl
              rw [Fl.toL_length] at h6
              simp only [List.length_cons] at h6
              show as_.length ≤ s.size
              omega
            · rw [hl, Fl.tagL_two hx] at h1
              obtain ⟨⟨as_, b, r2⟩, h3, rfl⟩ := Option.map_eq_some_iff.1 h1
              simp
          refine Ev.congr (f := fun k => flaillaw09_TagCase.j0 k true false (t.kind : Int) (Fl.ofL t.name) ⟨#[]⟩ (t.attrs.map toS) t.self (t.kind : Int) (Fl.ofL t.name) ⟨#[]⟩ (u.attrs.map toS) t.self) (fun k => ?_) ?_
          · rw [if_neg hs, hlow, show (0 : Int) = ((0 : Nat) : Int) from rfl, hin]
            simp only [Option.bind_some]
            rw [hin']
            simp [hal]
          · refine Ev.step (f := fun k => flaillaw09_TagCase.l0 k true ((0 : Nat) : Int) (t.kind : Int) (Fl.ofL t.name) ⟨#[]⟩ (t.attrs.map toS) t.self (t.kind : Int) (Fl.ofL t.name) ⟨#[]⟩ (u.attrs.map toS) t.self) (fun k => ?_) (case_l0 _ _ ?_ (by rw [List.length_map]; omega) _ _ _ _ _ _ _ _ t.attrs.length 0 (by rw [List.length_map]; omega))
            · simp only [flaillaw09_TagCase.j0]
              rw [if_neg (by simp)]; rfl
            · rw [List.map_map, List.map_map]
              have := congrArg (List.map Fl.ofL) e3
              rw [List.map_map, List.map_map] at this
              exact this.symm
end Go.Proofs.YtfhjfidkcdcjnaaDoor.Pure

/- The law TagCase: its row and its card. -/
namespace Go.Proofs.YtfhjfidkcdcjnaaDoor.tagCase
open Go.ChangeShapes Go.WideShapes Go.ChangeAt Go.RowKit
open Go.ChangeMaps (open_string shut_string)
set_option linter.unusedVariables false
set_option maxRecDepth 100000 in
theorem lifted (os : Os) (started : os.Started) (H : Type) (enc : TypeId × Value → H) :
    ReturnsInHanded {} Tryd.checked os 11 .any (fun w args => (Rows.tagCaseSpec.pre enc Tryd.prog Tryd.f11 Rows.tagCaseRow.domain false w args ∧ laidMetH Tryd.prog laid7 w) ∧ sizedMet enc Tryd.prog Tryd.f11 (OpenSpec.ofChange Rows.tagCaseSpec) false w args) (Rows.tagCaseSpec.post enc Tryd.prog Tryd.f11 false true false false) := by
  refine row_returns started (by kernel_rfl) Tryd.func11 #[.string ByteArray.empty] (by kernel_rfl) (by kernel_rfl) (by kernel_rfl) ?_
  intro W base args ds gs before hval0 hW hsz0 hG
  have hsz : (DataW.weightsEach Tryd.prog (Tryd.f11.params.toList ++ Rows.tagCaseSpec.plain.varTypes Tryd.prog) (ds ++ gs)).all (· ≤ reachBytes) = true := hsz0
  have hval : ∀ (j : Nat) t v, Tryd.f11.params[j]? = some t → args[j]? = some v → Value.okWide Tryd.prog W .any base t v := hval0
  have hW' := hW
  obtain ⟨p, q, hA0, hV, rfl, hfz, hnd⟩ := hW
  have hA : DataW.TrodAll enc Tryd.prog W 0 (fun _ => true) true Tryd.f11.params.toList args.toList ds p := hA0
  rw [Tryd.params11] at hA hval hsz
  obtain ⟨v0, vs0, d0, ds0, p0, q0, hargs, rfl, rfl, h0, r0⟩ := trodAll_cons hA
  obtain ⟨rfl, rfl, rfl⟩ := trodAll_nil r0
  obtain rfl : args = #[v0] := by cases args; simp_all
  obtain ⟨rfl, rfl⟩ := trodVars_none hV
  obtain ⟨a0, rfl, rfl, rfl, y0⟩ := open_string Tryd.underlying9 (hval 0 9 v0 rfl rfl) h0
  have w0 : a0.size ≤ 140737488351232 := by
    have z := sized_string hsz (j := 0) (t := 9) rfl rfl
    rw [Array.length_toList] at z
    exact z
  clear hA0 hval0 hsz0 hsz
  refine (Q.flaillaw09_TagCase.walk Pure.TagCase a0 W hG w0).mono fun e W' ⟨he, bel⟩ => ?_
  subst he
  exact ⟨_, rfl, _, _, _, [], _, [], hW', trodAll_mk1 (shut_bool Tryd.underlying4 _), (trodAll_cons_mk (shut_string Tryd.underlying9 y0) trodAll_mk0), rfl, bel.frame _, fun h => by cases h⟩
theorem over : Rows.tagCaseRow.holds Tryd.pinned (OpenSpec.ofChange Rows.tagCaseSpec) :=
  OpenClaim.holds_of_wide 11 Tryd.f11 rfl rfl rfl rfl rfl rfl rfl ⟨rfl, rfl, rfl, rfl, rfl⟩ rfl rfl rfl rfl rfl (by kernel_rfl) Tryd.func11 (by kernel_rfl)
    (of_decide_eq_true (by kernel_rfl)) (by unfold Func.isWrapper; first | (rw [if_pos (by decide +kernel)]; kernel_rfl) | (rw [if_neg (by decide +kernel)]; exact ⟨rfl, rfl⟩))
    (fun os started H enc _ => lifted os started H enc)
theorem proved : Rows.TagCaseCardSaid :=
  Claim7.holds_tied_plain_at .later [] [.data, .data, .data, .data, .sentinel, .sentinel, .pinned] true Rows.tagCaseCard.stood.harness true over (fun _ h => by cases h) (by kernel_rfl) (fun _ h => by cases h) tagCase_row_tie rfl ⟨rfl, rfl⟩ (by kernel_rfl) rfl
    (card_in 11 Tryd.func11 (by kernel_rfl) [9] Tryd.params11 (by kernel_rfl) (by kernel_rfl)) (by kernel_rfl)
end Go.Proofs.YtfhjfidkcdcjnaaDoor.tagCase
namespace Go.Proofs.YtfhjfidkcdcjnaaDoor
theorem tagCase_holds : Rows.TagCaseCardSaid := tagCase.proved
#print axioms tagCase_holds
end Go.Proofs.YtfhjfidkcdcjnaaDoor
