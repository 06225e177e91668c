/- The law TagRest, proved whole (for every input, as the given card says; no condition beyond it): its row and its card, and what they lean on. -/
import Derived.Test.YtfhjfidkcdcjnaaDoorT1
import Derived.Test.YtfhjfidkcdcjnaaDoorTie
import Derived.Test.YtfhjfidkcdcjnaaDoorCards
set_option linter.unusedVariables false
set_option linter.unusedSimpArgs false
set_option linter.unusedSectionVars false

namespace Go.Proofs.YtfhjfidkcdcjnaaDoor.Q
open Go.RowKit Go.Proofs.YtfhjfidkcdcjnaaDoorW.PrintWords Go.Proofs.YtfhjfidkcdcjnaaDoorW.PrintLast Go.Proofs.YtfhjfidkcdcjnaaDoorW.PrintMore
attribute [local go_sem] max2_int min2_int max_two min_two max_three min_three max_four min_four   -- for this text's walks alone
set_option linter.unusedVariables false
set_option linter.unusedSimpArgs false

/-! ### flaillaw09_TagRest: function 10 -/
mutual
noncomputable def flaillaw09_TagRest.j0 : Nat → ByteArray → ByteArray → ByteArray → Bool → Bool → Option (Bool)
  | 0, _, _, _, _, _ => none
  | k + 1, x0, x1, x2, x7, x27 => if x27 = true then (some x7) else ((tag_Read.f x1 0).bind fun bt352 => (if bt352.2.2.2.2.2.2 = true then (if bt352.2.2.2.2.2.1 < 3 then (flaillaw09_TagRest.j1 k x0 x1 x2 x7 bt352.2.2.2.2.2.1 true bt352.1 bt352.2.1 bt352.2.2.1 bt352.2.2.2.1 bt352.2.2.2.2.1) else (flaillaw09_TagRest.j1 k x0 x1 x2 x7 bt352.2.2.2.2.2.1 (decide (bt352.2.2.2.2.2.1 > (x1.size : Int))) bt352.1 bt352.2.1 bt352.2.2.1 bt352.2.2.2.1 bt352.2.2.2.2.1)) else (some x7)))
noncomputable def flaillaw09_TagRest.j1 : Nat → ByteArray → ByteArray → ByteArray → Bool → Int → Bool → Int → ByteArray → ByteArray → List (S27) → Bool → Option (Bool)
  | 0, _, _, _, _, _, _, _, _, _, _, _ => none
  | k + 1, x0, x1, x2, x7, x9, x45, x362000, x362001, x362002, x362003, x362004 => if x45 = true then (some false) else (if 0 ≤ x9 then (if x9 ≤ (x1.size : Int) then (if x0.size + (x1.extract 0 (x9 : Int).toNat).size ≤ 9223372036854775807 then (if (x0 ++ (x1.extract 0 (x9 : Int).toNat)).size + x2.size ≤ 9223372036854775807 then ((tag_Read.f ((x0 ++ (x1.extract 0 (x9 : Int).toNat)) ++ x2) (x0.size : Int)).bind fun bt362 => (if x7 = true then (if bt362.2.2.2.2.2.2 = true then (if bt362.2.2.2.2.2.1 = (wrap64 ((x0.size : Int) + x9)) then ((flailref09_Same.f k x362000 x362001 x362002 x362003 x362004 bt362.1 bt362.2.1 bt362.2.2.1 bt362.2.2.2.1 bt362.2.2.2.2.1).bind fun t372 => (if t372 = true then (if x0.size + x1.size ≤ 9223372036854775807 then ((tag_Begins.f (x0 ++ x1) (x0.size : Int)).bind fun t373 => (some t373)) else (none)) else (some false))) else (some false)) else (some false)) else (some false))) else (none)) else (none)) else (none)) else (none))
end
noncomputable def flaillaw09_TagRest.f (k : Nat) (a0 : ByteArray) (a1 : ByteArray) (a2 : ByteArray) : Option (Bool) := (flaillaw09_awake.f k).bind fun t351 => (if (a0.size : Int) > 300 then (flaillaw09_TagRest.j0 k a0 a1 a2 t351 true) else (if (a1.size : Int) > 300 then (flaillaw09_TagRest.j0 k a0 a1 a2 t351 true) else (flaillaw09_TagRest.j0 k a0 a1 a2 t351 (decide ((a2.size : Int) > 300)))))
theorem flaillaw09_TagRest.mono_l : ∀ k, (∀ y0 y1 y2 y3 y4, LeO (flaillaw09_TagRest.j0 k y0 y1 y2 y3 y4) (flaillaw09_TagRest.j0 (k + 1) y0 y1 y2 y3 y4)) ∧ (∀ y0 y1 y2 y3 y4 y5 y6 y7 y8 y9 y10, LeO (flaillaw09_TagRest.j1 k y0 y1 y2 y3 y4 y5 y6 y7 y8 y9 y10) (flaillaw09_TagRest.j1 (k + 1) y0 y1 y2 y3 y4 y5 y6 y7 y8 y9 y10))
  | 0 => ⟨fun _ _ _ _ _ r h => by simp [flaillaw09_TagRest.j0] at h, fun _ _ _ _ _ _ _ _ _ _ _ r h => by simp [flaillaw09_TagRest.j1] at h⟩
  | k + 1 => by
    obtain ⟨ih0, ih1⟩ := flaillaw09_TagRest.mono_l k
    refine ⟨?_, ?_⟩
    · intro y0 y1 y2 y3 y4
      unfold flaillaw09_TagRest.j0
      repeat' first
      | (with_reducible exact ih0 _ _ _ _ _)
      | (with_reducible exact ih1 _ _ _ _ _ _ _ _ _ _ _)
      | (with_reducible exact flaillaw09_awake.mono _)
      | (with_reducible exact flailref09_Same.mono _ _ _ _ _ _ _ _ _ _ _)
      | (with_reducible exact LeO.refl _)
      | (with_reducible exact LeO.none _)
      | (with_reducible refine LeO.ite ?_ ?_)
      | (with_reducible refine LeO.bind ?_ (fun _ => ?_))
      | exact ih0 _ _ _ _ _
      | exact ih1 _ _ _ _ _ _ _ _ _ _ _
      | exact flaillaw09_awake.mono _
      | exact flailref09_Same.mono _ _ _ _ _ _ _ _ _ _ _
      | exact LeO.none _
      | refine LeO.ite ?_ ?_
      | refine LeO.bind ?_ (fun _ => ?_)
    · intro y0 y1 y2 y3 y4 y5 y6 y7 y8 y9 y10
      unfold flaillaw09_TagRest.j1
      repeat' first
      | (with_reducible exact ih0 _ _ _ _ _)
      | (with_reducible exact ih1 _ _ _ _ _ _ _ _ _ _ _)
      | (with_reducible exact flaillaw09_awake.mono _)
      | (with_reducible exact flailref09_Same.mono _ _ _ _ _ _ _ _ _ _ _)
      | (with_reducible exact LeO.refl _)
      | (with_reducible exact LeO.none _)
      | (with_reducible refine LeO.ite ?_ ?_)
      | (with_reducible refine LeO.bind ?_ (fun _ => ?_))
      | exact ih0 _ _ _ _ _
      | exact ih1 _ _ _ _ _ _ _ _ _ _ _
      | exact flaillaw09_awake.mono _
      | exact flailref09_Same.mono _ _ _ _ _ _ _ _ _ _ _
      | exact LeO.none _
      | refine LeO.ite ?_ ?_
      | refine LeO.bind ?_ (fun _ => ?_)
theorem flaillaw09_TagRest.mono : ∀ a0 a1 a2 k, LeO (flaillaw09_TagRest.f k a0 a1 a2) (flaillaw09_TagRest.f (k + 1) a0 a1 a2) := by
  intro a0 a1 a2 k
  obtain ⟨ih0, ih1⟩ := flaillaw09_TagRest.mono_l k
  unfold flaillaw09_TagRest.f
  repeat' first
      | (with_reducible exact ih0 _ _ _ _ _)
      | (with_reducible exact ih1 _ _ _ _ _ _ _ _ _ _ _)
      | (with_reducible exact flaillaw09_awake.mono _)
      | (with_reducible exact flailref09_Same.mono _ _ _ _ _ _ _ _ _ _ _)
      | (with_reducible exact LeO.refl _)
      | (with_reducible exact LeO.none _)
      | (with_reducible refine LeO.ite ?_ ?_)
      | (with_reducible refine LeO.bind ?_ (fun _ => ?_))
      | exact ih0 _ _ _ _ _
      | exact ih1 _ _ _ _ _ _ _ _ _ _ _
      | exact flaillaw09_awake.mono _
      | exact flailref09_Same.mono _ _ _ _ _ _ _ _ _ _ _
      | exact LeO.none _
      | refine LeO.ite ?_ ?_
      | refine LeO.bind ?_ (fun _ => ?_)
set_option maxHeartbeats 8000000 in
set_option maxRecDepth 100000 in
theorem flaillaw09_TagRest.calls (k : Nat) (a0 : ByteArray) (a1 : ByteArray) (a2 : ByteArray) (r : Bool) (w : World) (hG : Gl w) (h : flaillaw09_TagRest.f k a0 a1 a2 = some r) :
    Calls Tryd.prog 10 #[.string a0, .string a1, .string a2] w fun e w' => e = .returned (.bool r) ∧ Below w.heap.size w w' := by
  have hu39 := Tryd.underlying39
  have HB := Aside0.mk (Below.refl w.heap.size w)
  have HG := Aside0.mk hG
  clear hG
  have H : ((flaillaw09_awake.f k).bind fun t351 => (if (a0.size : Int) > 300 then (flaillaw09_TagRest.j0 k a0 a1 a2 t351 true) else (if (a1.size : Int) > 300 then (flaillaw09_TagRest.j0 k a0 a1 a2 t351 true) else (flaillaw09_TagRest.j0 k a0 a1 a2 t351 (decide ((a2.size : Int) > 300)))))) = some r := h
  clear h
  replace H := Option.bind_eq_some_iff.mp H
  obtain ⟨t351, A40, H⟩ := H
  replace H : (if (a0.size : Int) > 300 then (flaillaw09_TagRest.j0 k a0 a1 a2 t351 true) else (if (a1.size : Int) > 300 then (flaillaw09_TagRest.j0 k a0 a1 a2 t351 true) else (flaillaw09_TagRest.j0 k a0 a1 a2 t351 (decide ((a2.size : Int) > 300))))) = some r := H
  have A4 := Aside0.mk A40
  clear A40
  have HC5 := Aside0.mk H
  clear H
  go_enter Tryd.func10, Tryd.ntmps10
  go_upto_region 2 with (first | ((with_reducible refine gate_callee (f := 17) rfl ?_); refine goesL_ (some 14) rfl rfl Tryd.func17 (by kernel_rfl) rfl #[] rfl (by (try simp only [List.map_toArray, List.map_cons, List.map_nil]); first | done | rfl | (simp only [List.length_drop, List.length_take]; rfl)) ?_; (with_reducible refine (flaillaw09_awake.calls k  t351 _ ?side1 A4.out).mono ?_); (case side1 => first | (with_reducible exact HG.out) | exact Gl.below HG.out (by repeat (first | (with_reducible first | exact HB.out | apply below_alloc | apply pw_below_drewN | apply below_drew1) | exact HB.out)) | exact HG.out); rintro e w6 ⟨rfl, hb⟩; refine ⟨_, rfl, ?_⟩; have n0_ := Aside0.mk (below_step (by repeat (first | (with_reducible first | exact HB.out | apply below_alloc | apply pw_below_drewN | apply below_drew1) | exact HB.out)) hb); clear HB; have HB := n0_; clear n0_; (try clear hb); (try clear hb2); (try clear hk); (try clear hi)))
  (try simp only [Act.put, List.setIfInBounds_toArray, List.set_cons_zero, List.set_cons_succ])
  go_cut [27] (fun v27 wc => ∃ (kq : Nat) (x27_4 : Bool), v27 = .bool x27_4 ∧ Aside0 (flaillaw09_TagRest.j0 kq a0 a1 a2 t351 x27_4 = some r) ∧ Aside0 (kq ≤ k) ∧ Aside0 (Below w.heap.size w wc))
  case first =>
    have H := HC5.out
    clear HC5
    by_cases c7 : (a0.size : Int) > 300
    · rw [if_pos c7] at H
      have c7b0 : decide (300 < (a0.size : Int)) = true := decide_eq_true c7
      have c7b1 : decide (300 < a0.size) = true := decide_eq_true (by omega)
      clear c7
      (first | rw [c7b0] | (simp only [i64_w, i32_w]; rw [c7b0]) | skip)
      have H' := Aside0.mk H
      clear H
      go_wp2
      go_meet
      case rel => exact ⟨_, (true), (by first | rfl | (simp; done) | (simp [*]; done)), H', ⟨by first | omega | exact Nat.le_refl _⟩, ⟨by repeat (first | (with_reducible first | exact HB.out | apply below_alloc | apply pw_below_drewN | apply below_drew1) | exact HB.out)⟩⟩
    · rw [if_neg c7] at H
      have c7b0 : decide (300 < (a0.size : Int)) = false := decide_eq_false c7
      have c7b1 : decide (300 < a0.size) = false := decide_eq_false (by omega)
      clear c7
      (first | rw [c7b0] | (simp only [i64_w, i32_w]; rw [c7b0]) | skip)
      by_cases c8 : (a1.size : Int) > 300
      · rw [if_pos c8] at H
        have c8b0 : decide (300 < (a1.size : Int)) = true := decide_eq_true c8
        have c8b1 : decide (300 < a1.size) = true := decide_eq_true (by omega)
        clear c8
        have H' := Aside0.mk H
        clear H
        go_wp2
        go_meet
        case rel => exact ⟨_, (true), (by first | rfl | (simp; done) | (simp [*]; done)), H', ⟨by first | omega | exact Nat.le_refl _⟩, ⟨by repeat (first | (with_reducible first | exact HB.out | apply below_alloc | apply pw_below_drewN | apply below_drew1) | exact HB.out)⟩⟩
      · rw [if_neg c8] at H
        have c8b0 : decide (300 < (a1.size : Int)) = false := decide_eq_false c8
        have c8b1 : decide (300 < a1.size) = false := decide_eq_false (by omega)
        clear c8
        have H' := Aside0.mk H
        clear H
        go_wp2
        go_meet
        case rel => exact ⟨_, (decide ((a2.size : Int) > 300)), (by first | rfl | (simp; done) | (simp [*]; done)), H', ⟨by first | omega | exact Nat.le_refl _⟩, ⟨by repeat (first | (with_reducible first | exact HB.out | apply below_alloc | apply pw_below_drewN | apply below_drew1) | exact HB.out)⟩⟩
  case rest =>
    clear HC5
    try clear c1
    try clear p2
    try clear c7
    try clear c7b0
    try clear c7b1
    try clear c8
    try clear c8b0
    try clear c8b1
    obtain ⟨kq, x27_4, rfl, HA, HJ4, HB⟩ := hcut
    cases kq with
    | zero => exact absurd HA.out (by simp [flaillaw09_TagRest.j0])
    | succ kj4 =>
      have H := HA.out
      clear HA
      simp only [flaillaw09_TagRest.j0] at H
      by_cases c9 : x27_4 = true
      · subst c9
        have H1 : (some t351) = some r := by rw [if_pos rfl] at H; exact H
        clear H
        have H := H1
        clear H1
        obtain rfl := Option.some.inj H
        go_wp2
        go_ret
        exact ⟨by first | rfl | (simp [errW_none, errW_some] <;> rfl) | (simp [*, errW_none, errW_some] <;> rfl), by repeat (first | (with_reducible first | exact HB.out | apply below_alloc | apply pw_below_drewN | apply below_drew1) | exact HB.out)⟩
      · replace c9 := Bool.eq_false_iff.mpr c9
        subst c9
        have H1 : ((tag_Read.f a1 0).bind fun bt352 => (if bt352.2.2.2.2.2.2 = true then (if bt352.2.2.2.2.2.1 < 3 then (flaillaw09_TagRest.j1 kj4 a0 a1 a2 t351 bt352.2.2.2.2.2.1 true bt352.1 bt352.2.1 bt352.2.2.1 bt352.2.2.2.1 bt352.2.2.2.2.1) else (flaillaw09_TagRest.j1 kj4 a0 a1 a2 t351 bt352.2.2.2.2.2.1 (decide (bt352.2.2.2.2.2.1 > (a1.size : Int))) bt352.1 bt352.2.1 bt352.2.2.1 bt352.2.2.2.1 bt352.2.2.2.2.1)) else (some t351))) = some r := by rw [if_neg (show ¬ (false = true) by decide)] at H; exact H
        clear H
        have H := H1
        clear H1
        replace H := Option.bind_eq_some_iff.mp H
        obtain ⟨⟨t352, t353, t354, t355, t358, t359, t360⟩, A100, H⟩ := H
        replace H : (if t360 = true then (if t359 < 3 then (flaillaw09_TagRest.j1 kj4 a0 a1 a2 t351 t359 true t352 t353 t354 t355 t358) else (flaillaw09_TagRest.j1 kj4 a0 a1 a2 t351 t359 (decide (t359 > (a1.size : Int))) t352 t353 t354 t355 t358)) else (some t351)) = some r := H
        have A10 := Aside0.mk A100
        clear A100
        by_cases c11 : t360 = true
        · subst c11
          have H1 : (if t359 < 3 then (flaillaw09_TagRest.j1 kj4 a0 a1 a2 t351 t359 true t352 t353 t354 t355 t358) else (flaillaw09_TagRest.j1 kj4 a0 a1 a2 t351 t359 (decide (t359 > (a1.size : Int))) t352 t353 t354 t355 t358)) = some r := by rw [if_pos rfl] at H; exact H
          clear H
          have H := H1
          clear H1
          have HC12 := Aside0.mk H
          clear H
          go_upto_region 7 with (first | ((with_reducible refine gate_callee (f := 18) rfl ?_); refine goesL_ (some 31) rfl rfl Tryd.func18 (by kernel_rfl) rfl #[.string a1, .int .i64 0] rfl (by (try simp only [List.map_toArray, List.map_cons, List.map_nil]); first | done | rfl | (simp only [List.length_drop, List.length_take]; rfl)) ?_; (with_reducible refine (tag_Read.calls a1 0 t352 t353 t354 t355 t358 t359 true _ ?side1 A10.out).mono ?_); (case side1 => first | (with_reducible exact HG.out) | exact Gl.below HG.out (by repeat (first | (with_reducible first | exact HB.out | apply below_alloc | apply pw_below_drewN | apply below_drew1) | exact HB.out)) | exact HG.out); rintro e w13 ⟨v356, rfl, ho0, hb⟩; refine ⟨_, rfl, ?_⟩; have n0_ := Aside0.mk (Kd.R_lower ho0 (below_size (by repeat (first | (with_reducible first | exact HB.out | apply below_alloc | apply pw_below_drewN | apply below_drew1) | exact HB.out)))); have n1_ := Aside0.mk (below_step (by repeat (first | (with_reducible first | exact HB.out | apply below_alloc | apply pw_below_drewN | apply below_drew1) | exact HB.out)) hb); clear HB; have HO357 := n0_; have HB := n1_; clear n0_ n1_; (try clear hb); (try clear hb2); (try clear hk); (try clear hi); (try clear ho0)) | ((with_reducible refine gate_dst (N := 8) rfl ?_); (try (refine gate_guard (by rfl) ?_; dsimp only)); refine box_event ?hg (N := 8) ?hd (cs := #[.int .i64 0, .string (⟨#[]⟩ : ByteArray), .string (⟨#[]⟩ : ByteArray), .slice none 0 0, .bool false]) (t := 39) ?hr ?_; (case hd => rfl); (case hg => rfl); (case hr => first | (go_simp; done) | (go_simp; rfl)); intro gb361 hg w14 hbox hb; have n0_ := Aside0.mk (Kd.R_below (by (with_reducible repeat (first | apply Kd.R_alloc | apply Kd.R_drewN | apply Kd.R_drew)); exact HO357.out) hb); have n1_ := Aside0.mk (below_step (by repeat (first | (with_reducible first | exact HB.out | apply below_alloc | apply pw_below_drewN | apply below_drew1) | exact HB.out)) hb); have n2_ := Aside0.mk (hbox); have n3_ := Aside0.mk ((by rw [hg]; exact (below_size (by repeat (first | (with_reducible first | exact HB.out | apply below_alloc | apply pw_below_drewN | apply below_drew1) | exact HB.out))) : w.heap.size ≤ gb361)); have n4_ := Aside0.mk ((by rw [hg]; exact (below_size (by repeat (first | (with_reducible first | exact HB.out | apply below_alloc | apply pw_below_drewN | apply below_drew1) | exact HB.out))) : w.heap.size ≤ gb361)); clear HO357; clear HB; have HO357 := n0_; have HB := n1_; have BK361 := n2_; have GW361 := n3_; have GE361 := n4_; clear n0_ n1_ n2_ n3_ n4_; clear hb hbox hg; have hcz15_0 : w14.cell? ⟨gb361, 0, none⟩ = some (.int .i64 0) := (blk_cell BK361.out 0).trans rfl; have hcz15_1 : w14.cell? ⟨gb361, 1, none⟩ = some (.string (⟨#[]⟩ : ByteArray)) := (blk_cell BK361.out 1).trans rfl; have hcz15_2 : w14.cell? ⟨gb361, 2, none⟩ = some (.string (⟨#[]⟩ : ByteArray)) := (blk_cell BK361.out 2).trans rfl; have hcz15_3 : w14.cell? ⟨gb361, 3, none⟩ = some (.slice none 0 0) := (blk_cell BK361.out 3).trans rfl; have hcz15_4 : w14.cell? ⟨gb361, 4, none⟩ = some (.bool false) := (blk_cell BK361.out 4).trans rfl; have hfz15_0 := blk_frozen BK361.out 0; have hfz15_1 := blk_frozen BK361.out 1; have hfz15_2 := blk_frozen BK361.out 2; have hfz15_3 := blk_frozen BK361.out 3; have hfz15_4 := blk_frozen BK361.out 4; obtain ⟨Ao16, co16, eo16⟩ := Kd.R_slice HO357.out; subst eo16))
          (try simp only [Act.put, List.setIfInBounds_toArray, List.set_cons_zero, List.set_cons_succ])
          go_cut [45] (fun v45 wc => ∃ (kq : Nat) (x45_11 : Bool), v45 = .bool x45_11 ∧ Aside0 (flaillaw09_TagRest.j1 kq a0 a1 a2 t351 t359 x45_11 t352 t353 t354 t355 t358 = some r) ∧ Aside0 (kq ≤ kj4) ∧ Aside0 (Kd.R k27 27 wc w.heap.size (fun _ => True) (.slice Ao16 t355.length co16) t355) ∧ Aside0 (wc.heap[gb361]? = some (.cells #[.int .i64 t352, .string t353, .string t354, (.slice Ao16 t355.length co16), .bool t358] 39 (0, 0))) ∧ Aside0 (Below w.heap.size w wc))
          case first =>
            have H := HC12.out
            clear HC12
            by_cases c17 : t359 < 3
            · rw [if_pos c17] at H
              have c17b0 : decide (t359 < 3) = true := decide_eq_true c17
              clear c17
              (first | rw [c17b0] | (simp only [i64_w, i32_w]; rw [c17b0]) | skip)
              have H' := Aside0.mk H
              clear H
              go_wp2
              go_meet
              case rel => exact ⟨_, (true), (by first | rfl | (simp; done) | (simp [*]; done)), H', ⟨by have := HJ4.out; first | omega | exact Nat.le_refl _⟩, ⟨by (with_reducible repeat (first | apply Kd.R_alloc | apply Kd.R_drewN | apply Kd.R_drew)); exact Kd.R_mono (Kd.R_far (p := ⟨gb361, 4, none⟩) (Kd.R_far (p := ⟨gb361, 3, none⟩) (Kd.R_far (p := ⟨gb361, 2, none⟩) (Kd.R_far (p := ⟨gb361, 1, none⟩) (Kd.R_far (p := ⟨gb361, 0, none⟩) (Kd.R_types HO357.out BK361.out (by decide)) (fun _ hk => hk.2) (.int .i64 t352)) (fun _ hk => hk.2) (.string t353)) (fun _ hk => hk.2) (.string t354)) (fun _ hk => hk.2) (.slice Ao16 t355.length co16)) (fun _ hk => hk.2) (.bool t358)) (fun _ hk => trivial)⟩, ⟨by (with_reducible repeat (first | refine blk_drewN ?_ _ | refine blk_drew ?_ | refine blk_alloc ?_ _)); refine blk_put (cs := #[.int .i64 t352, .string t353, .string t354, .slice Ao16 t355.length co16, .bool false]) ?_ 4 _ rfl; (with_reducible repeat (first | refine blk_drewN ?_ _ | refine blk_drew ?_ | refine blk_alloc ?_ _)); refine blk_put (cs := #[.int .i64 t352, .string t353, .string t354, .slice none 0 0, .bool false]) ?_ 3 _ rfl; (with_reducible repeat (first | refine blk_drewN ?_ _ | refine blk_drew ?_ | refine blk_alloc ?_ _)); refine blk_put (cs := #[.int .i64 t352, .string t353, .string (⟨#[]⟩ : ByteArray), .slice none 0 0, .bool false]) ?_ 2 _ rfl; (with_reducible repeat (first | refine blk_drewN ?_ _ | refine blk_drew ?_ | refine blk_alloc ?_ _)); refine blk_put (cs := #[.int .i64 t352, .string (⟨#[]⟩ : ByteArray), .string (⟨#[]⟩ : ByteArray), .slice none 0 0, .bool false]) ?_ 1 _ rfl; (with_reducible repeat (first | refine blk_drewN ?_ _ | refine blk_drew ?_ | refine blk_alloc ?_ _)); refine blk_put (cs := #[.int .i64 0, .string (⟨#[]⟩ : ByteArray), .string (⟨#[]⟩ : ByteArray), .slice none 0 0, .bool false]) ?_ 0 _ rfl; (with_reducible repeat (first | refine blk_drewN ?_ _ | refine blk_drew ?_ | refine blk_alloc ?_ _)); exact BK361.out⟩, ⟨by repeat (first | (with_reducible first | exact HB.out | apply below_alloc | apply pw_below_drewN | apply below_drew1 | refine below_set ?_ GE361.out) | exact HB.out)⟩⟩
            · rw [if_neg c17] at H
              have c17b0 : decide (t359 < 3) = false := decide_eq_false c17
              clear c17
              (first | rw [c17b0] | (simp only [i64_w, i32_w]; rw [c17b0]) | skip)
              have H' := Aside0.mk H
              clear H
              go_wp2
              go_meet
              case rel => exact ⟨_, (decide (t359 > (a1.size : Int))), (by first | rfl | (simp; done) | (simp [*]; done)), H', ⟨by have := HJ4.out; first | omega | exact Nat.le_refl _⟩, ⟨by (with_reducible repeat (first | apply Kd.R_alloc | apply Kd.R_drewN | apply Kd.R_drew)); exact Kd.R_mono (Kd.R_far (p := ⟨gb361, 4, none⟩) (Kd.R_far (p := ⟨gb361, 3, none⟩) (Kd.R_far (p := ⟨gb361, 2, none⟩) (Kd.R_far (p := ⟨gb361, 1, none⟩) (Kd.R_far (p := ⟨gb361, 0, none⟩) (Kd.R_types HO357.out BK361.out (by decide)) (fun _ hk => hk.2) (.int .i64 t352)) (fun _ hk => hk.2) (.string t353)) (fun _ hk => hk.2) (.string t354)) (fun _ hk => hk.2) (.slice Ao16 t355.length co16)) (fun _ hk => hk.2) (.bool t358)) (fun _ hk => trivial)⟩, ⟨by (with_reducible repeat (first | refine blk_drewN ?_ _ | refine blk_drew ?_ | refine blk_alloc ?_ _)); refine blk_put (cs := #[.int .i64 t352, .string t353, .string t354, .slice Ao16 t355.length co16, .bool false]) ?_ 4 _ rfl; (with_reducible repeat (first | refine blk_drewN ?_ _ | refine blk_drew ?_ | refine blk_alloc ?_ _)); refine blk_put (cs := #[.int .i64 t352, .string t353, .string t354, .slice none 0 0, .bool false]) ?_ 3 _ rfl; (with_reducible repeat (first | refine blk_drewN ?_ _ | refine blk_drew ?_ | refine blk_alloc ?_ _)); refine blk_put (cs := #[.int .i64 t352, .string t353, .string (⟨#[]⟩ : ByteArray), .slice none 0 0, .bool false]) ?_ 2 _ rfl; (with_reducible repeat (first | refine blk_drewN ?_ _ | refine blk_drew ?_ | refine blk_alloc ?_ _)); refine blk_put (cs := #[.int .i64 t352, .string (⟨#[]⟩ : ByteArray), .string (⟨#[]⟩ : ByteArray), .slice none 0 0, .bool false]) ?_ 1 _ rfl; (with_reducible repeat (first | refine blk_drewN ?_ _ | refine blk_drew ?_ | refine blk_alloc ?_ _)); refine blk_put (cs := #[.int .i64 0, .string (⟨#[]⟩ : ByteArray), .string (⟨#[]⟩ : ByteArray), .slice none 0 0, .bool false]) ?_ 0 _ rfl; (with_reducible repeat (first | refine blk_drewN ?_ _ | refine blk_drew ?_ | refine blk_alloc ?_ _)); exact BK361.out⟩, ⟨by repeat (first | (with_reducible first | exact HB.out | apply below_alloc | apply pw_below_drewN | apply below_drew1 | refine below_set ?_ GE361.out) | exact HB.out)⟩⟩
          case rest =>
            clear HC12
            try clear c1
            try clear p2
            try clear c7
            try clear c7b0
            try clear c7b1
            try clear c8
            try clear c8b0
            try clear c8b1
            try clear c9
            try clear c10
            try clear c11
            try clear c17
            try clear c17b0
            try clear hcz15_0
            try clear hcz15_1
            try clear hcz15_2
            try clear hcz15_3
            try clear hcz15_4
            try clear hfz15_0
            try clear hfz15_1
            try clear hfz15_2
            try clear hfz15_3
            try clear hfz15_4
            try clear p2
            obtain ⟨kq, x45_11, rfl, HA, HJ11, HO_362003, BK361, HB⟩ := hcut
            cases kq with
            | zero => exact absurd HA.out (by simp [flaillaw09_TagRest.j1])
            | succ kj11 =>
              have H := HA.out
              clear HA
              simp only [flaillaw09_TagRest.j1] at H
              by_cases c18 : x45_11 = true
              · subst c18
                have H1 : (some false) = some r := by rw [if_pos rfl] at H; exact H
                clear H
                have H := H1
                clear H1
                obtain rfl := Option.some.inj H
                go_wp2
                go_ret
                exact ⟨by first | rfl | (simp [errW_none, errW_some] <;> rfl) | (simp [*, errW_none, errW_some] <;> rfl), by repeat (first | (with_reducible first | exact HB.out | apply below_alloc | apply pw_below_drewN | apply below_drew1 | refine below_set ?_ GE361.out) | exact HB.out)⟩
              · replace c18 := Bool.eq_false_iff.mpr c18
                subst c18
                have H1 : (if 0 ≤ t359 then (if t359 ≤ (a1.size : Int) then (if a0.size + (a1.extract 0 (t359 : Int).toNat).size ≤ 9223372036854775807 then (if (a0 ++ (a1.extract 0 (t359 : Int).toNat)).size + a2.size ≤ 9223372036854775807 then ((tag_Read.f ((a0 ++ (a1.extract 0 (t359 : Int).toNat)) ++ a2) (a0.size : Int)).bind fun bt362 => (if t351 = true then (if bt362.2.2.2.2.2.2 = true then (if bt362.2.2.2.2.2.1 = (wrap64 ((a0.size : Int) + t359)) then ((flailref09_Same.f kj11 t352 t353 t354 t355 t358 bt362.1 bt362.2.1 bt362.2.2.1 bt362.2.2.2.1 bt362.2.2.2.2.1).bind fun t372 => (if t372 = true then (if a0.size + a1.size ≤ 9223372036854775807 then ((tag_Begins.f (a0 ++ a1) (a0.size : Int)).bind fun t373 => (some t373)) else (none)) else (some false))) else (some false)) else (some false)) else (some false))) else (none)) else (none)) else (none)) else (none)) = some r := by rw [if_neg (show ¬ (false = true) by decide)] at H; exact H
                clear H
                have H := H1
                clear H1
                by_cases c19 : 0 ≤ t359
                · rw [if_pos c19] at H
                  have c19b0 := eq_true c19
                  have c19b1 : decide (0 ≤ t359) = true := decide_eq_true c19
                  clear c19
                  by_cases c20 : t359 ≤ (a1.size : Int)
                  · rw [if_pos c20] at H
                    have c20b0 := eq_true c20
                    have c20b1 : decide (t359 ≤ (a1.size : Int)) = true := decide_eq_true c20
                    clear c20
                    by_cases c21 : a0.size + (a1.extract 0 (t359 : Int).toNat).size ≤ 9223372036854775807
                    · rw [if_pos c21] at H
                      have c21b0 := eq_true c21
                      have c21b1 : decide (a0.size + (a1.extract 0 (t359 : Int).toNat).size ≤ 9223372036854775807) = true := decide_eq_true c21
                      try have c21b2 : (9223372036854775807 < a0.size + (a1.extract 0 (t359 : Int).toNat).size) = False := eq_false (Nat.not_lt.2 c21)
                      by_cases c22 : (a0 ++ (a1.extract 0 (t359 : Int).toNat)).size + a2.size ≤ 9223372036854775807
                      · rw [if_pos c22] at H
                        have c22b0 := eq_true c22
                        have c22b1 : decide ((a0 ++ (a1.extract 0 (t359 : Int).toNat)).size + a2.size ≤ 9223372036854775807) = true := decide_eq_true c22
                        try have c22b2 : (9223372036854775807 < (a0 ++ (a1.extract 0 (t359 : Int).toNat)).size + a2.size) = False := eq_false (Nat.not_lt.2 c22)
                        (try (have c22b3 : (9223372036854775807 < (a0.size + (((a1.extract 0 (t359 : Int).toNat)).size : Int)) + a2.size) = False := eq_false (Nat.not_lt.2 (by have h_ := c22; simp only [ByteArray.size_append] at h_; exact h_))))
                        (try (have c22b4 : ((a0.size + (((a1.extract 0 (t359 : Int).toNat)).size : Int)) + a2.size ≤ 9223372036854775807) = True := eq_true (by have h_ := c22; simp only [ByteArray.size_append] at h_; exact h_)))
                        (try (have c22b5 : decide ((a0.size + (((a1.extract 0 (t359 : Int).toNat)).size : Int)) + a2.size ≤ 9223372036854775807) = true := decide_eq_true (by have h_ := c22; simp only [ByteArray.size_append] at h_; exact h_)))
                        replace H := Option.bind_eq_some_iff.mp H
                        obtain ⟨⟨t362, t363, t364, t365, t368, t369, t370⟩, A230, H⟩ := H
                        replace H : (if t351 = true then (if t370 = true then (if t369 = (wrap64 ((a0.size : Int) + t359)) then ((flailref09_Same.f kj11 t352 t353 t354 t355 t358 t362 t363 t364 t365 t368).bind fun t372 => (if t372 = true then (if a0.size + a1.size ≤ 9223372036854775807 then ((tag_Begins.f (a0 ++ a1) (a0.size : Int)).bind fun t373 => (some t373)) else (none)) else (some false))) else (some false)) else (some false)) else (some false)) = some r := H
                        have A23 := Aside0.mk A230
                        clear A230
                        by_cases c24 : t351 = true
                        · subst c24
                          have H1 : (if t370 = true then (if t369 = (wrap64 ((a0.size : Int) + t359)) then ((flailref09_Same.f kj11 t352 t353 t354 t355 t358 t362 t363 t364 t365 t368).bind fun t372 => (if t372 = true then (if a0.size + a1.size ≤ 9223372036854775807 then ((tag_Begins.f (a0 ++ a1) (a0.size : Int)).bind fun t373 => (some t373)) else (none)) else (some false))) else (some false)) else (some false)) = some r := by rw [if_pos rfl] at H; exact H
                          clear H
                          have H := H1
                          clear H1
                          by_cases c25 : t370 = true
                          · subst c25
                            have H1 : (if t369 = (wrap64 ((a0.size : Int) + t359)) then ((flailref09_Same.f kj11 t352 t353 t354 t355 t358 t362 t363 t364 t365 t368).bind fun t372 => (if t372 = true then (if a0.size + a1.size ≤ 9223372036854775807 then ((tag_Begins.f (a0 ++ a1) (a0.size : Int)).bind fun t373 => (some t373)) else (none)) else (some false))) else (some false)) = some r := by rw [if_pos rfl] at H; exact H
                            clear H
                            have H := H1
                            clear H1
                            by_cases c26 : t369 = (wrap64 ((a0.size : Int) + t359))
                            · rw [if_pos c26] at H
                              have c26b0 : (t369 == (wrap64 ((a0.size : Int) + t359))) = true := beq_iff_eq.mpr c26
                              have c26b1 : (t369 != (wrap64 ((a0.size : Int) + t359))) = false := bne_eq_false_iff_eq.mpr c26
                              (try (have c26b2 : (t369 == (((a0.size : Int) + t359))) = true := by have h_ := c26; rw [IntWalk.wrap64_in ((a0.size : Int) + t359) ⟨by omega, by omega⟩] at h_; exact beq_iff_eq.mpr h_))
                              (try (have c26b3 : (t369 != (((a0.size : Int) + t359))) = false := by have h_ := c26; rw [IntWalk.wrap64_in ((a0.size : Int) + t359) ⟨by omega, by omega⟩] at h_; exact bne_eq_false_iff_eq.mpr h_))
                              clear c26
                              replace H := Option.bind_eq_some_iff.mp H
                              obtain ⟨t372, A270, H⟩ := H
                              replace H : (if t372 = true then (if a0.size + a1.size ≤ 9223372036854775807 then ((tag_Begins.f (a0 ++ a1) (a0.size : Int)).bind fun t373 => (some t373)) else (none)) else (some false)) = some r := H
                              have A27 := Aside0.mk A270
                              clear A270
                              by_cases c28 : t372 = true
                              · subst c28
                                have H1 : (if a0.size + a1.size ≤ 9223372036854775807 then ((tag_Begins.f (a0 ++ a1) (a0.size : Int)).bind fun t373 => (some t373)) else (none)) = some r := by rw [if_pos rfl] at H; exact H
                                clear H
                                have H := H1
                                clear H1
                                by_cases c29 : a0.size + a1.size ≤ 9223372036854775807
                                · rw [if_pos c29] at H
                                  have c29b0 := eq_true c29
                                  have c29b1 : decide (a0.size + a1.size ≤ 9223372036854775807) = true := decide_eq_true c29
                                  try have c29b2 : (9223372036854775807 < a0.size + a1.size) = False := eq_false (Nat.not_lt.2 c29)
                                  replace H := Option.bind_eq_some_iff.mp H
                                  obtain ⟨t373, A300, H⟩ := H
                                  replace H : (some t373) = some r := H
                                  have A30 := Aside0.mk A300
                                  clear A300
                                  obtain rfl := Option.some.inj H
                                  go_wp2_with (first | ((with_reducible refine gate_callee (f := 18) rfl ?_); refine goesL_ (some 56) rfl rfl Tryd.func18 (by kernel_rfl) rfl #[.string ((a0 ++ (a1.extract 0 (t359 : Int).toNat)) ++ a2), .int .i64 (a0.size : Int)] rfl (by (try simp only [List.map_toArray, List.map_cons, List.map_nil]); first | done | rfl | (simp only [List.length_drop, List.length_take]; rfl)) ?_; (with_reducible refine (tag_Read.calls ((a0 ++ (a1.extract 0 (t359 : Int).toNat)) ++ a2) (a0.size : Int) t362 t363 t364 t365 t368 t369 true _ ?side1 A23.out).mono ?_); (case side1 => first | (with_reducible exact HG.out) | exact Gl.below HG.out (by repeat (first | (with_reducible first | exact HB.out | apply below_alloc | apply pw_below_drewN | apply below_drew1 | refine below_set ?_ GE361.out) | exact HB.out)) | exact HG.out); rintro e w31 ⟨v366, rfl, ho0, hb⟩; refine ⟨_, rfl, ?_⟩; have n0_ := Aside0.mk (Kd.R_elder' (by (with_reducible repeat (first | apply Kd.R_alloc | apply Kd.R_drewN | apply Kd.R_drew)); exact HO_362003.out) (Kd.R_base ho0) hb); have n1_ := Aside0.mk (Kd.R_lower (Kd.R_new' ho0 (Kd.R_lt (by (with_reducible repeat (first | apply Kd.R_alloc | apply Kd.R_drewN | apply Kd.R_drew)); exact HO_362003.out))) (below_size (by repeat (first | (with_reducible first | exact HB.out | apply below_alloc | apply pw_below_drewN | apply below_drew1 | refine below_set ?_ GE361.out) | exact HB.out)))); have n2_ := Aside0.mk (blk_below (g := gb361) (o := .cells #[.int .i64 t352, .string t353, .string t354, .slice Ao16 t355.length co16, .bool t358] 39 (0, 0)) (by (with_reducible repeat (first | refine blk_drewN ?_ _ | refine blk_drew ?_ | refine blk_alloc ?_ _)); exact BK361.out) hb); have n3_ := Aside0.mk (below_step (by repeat (first | (with_reducible first | exact HB.out | apply below_alloc | apply pw_below_drewN | apply below_drew1 | refine below_set ?_ GE361.out) | exact HB.out)) hb); clear HO_362003; clear BK361; clear HB; have HO_362003 := n0_; have HO367 := n1_; have BK361 := n2_; have HB := n3_; clear n0_ n1_ n2_ n3_; (try clear hb); (try clear hb2); (try clear hk); (try clear hi); (try clear ho0)) | ((with_reducible refine gate_dst (N := 11) rfl ?_); (try (refine gate_guard (by rfl) ?_; dsimp only)); refine box_event ?hg (N := 11) ?hd (cs := #[.int .i64 0, .string (⟨#[]⟩ : ByteArray), .string (⟨#[]⟩ : ByteArray), .slice none 0 0, .bool false]) (t := 39) ?hr ?_; (case hd => rfl); (case hg => rfl); (case hr => first | (go_simp; done) | (go_simp; rfl)); intro gb371 hg w32 hbox hb; have n0_ := Aside0.mk (Kd.R_below (by (with_reducible repeat (first | apply Kd.R_alloc | apply Kd.R_drewN | apply Kd.R_drew)); exact HO_362003.out) hb); have n1_ := Aside0.mk (Kd.R_below (by (with_reducible repeat (first | apply Kd.R_alloc | apply Kd.R_drewN | apply Kd.R_drew)); exact HO367.out) hb); have n2_ := Aside0.mk (blk_below (g := gb361) (o := .cells #[.int .i64 t352, .string t353, .string t354, .slice Ao16 t355.length co16, .bool t358] 39 (0, 0)) (by (with_reducible repeat (first | refine blk_drewN ?_ _ | refine blk_drew ?_ | refine blk_alloc ?_ _)); exact BK361.out) hb); have n3_ := Aside0.mk (below_step (by repeat (first | (with_reducible first | exact HB.out | apply below_alloc | apply pw_below_drewN | apply below_drew1 | refine below_set ?_ GE361.out) | exact HB.out)) hb); have n4_ := Aside0.mk (hbox); have n5_ := Aside0.mk ((by rw [hg]; exact (below_size (by repeat (first | (with_reducible first | exact HB.out | apply below_alloc | apply pw_below_drewN | apply below_drew1 | refine below_set ?_ GE361.out) | exact HB.out))) : w.heap.size ≤ gb371)); have n6_ := Aside0.mk ((by rw [hg]; exact (below_size (by repeat (first | (with_reducible first | exact HB.out | apply below_alloc | apply pw_below_drewN | apply below_drew1 | refine below_set ?_ GE361.out) | exact HB.out))) : w.heap.size ≤ gb371)); have n7_ := Aside0.mk ((by rw [hg]; exact Nat.ne_of_lt (blk_lt (g := gb361) (o := .cells #[.int .i64 t352, .string t353, .string t354, .slice Ao16 t355.length co16, .bool t358] 39 (0, 0)) (by (with_reducible repeat (first | refine blk_drewN ?_ _ | refine blk_drew ?_ | refine blk_alloc ?_ _)); exact BK361.out)) : gb361 ≠ gb371)); have n8_ := Aside0.mk ((by rw [hg]; exact Nat.ne_of_gt (blk_lt (g := gb361) (o := .cells #[.int .i64 t352, .string t353, .string t354, .slice Ao16 t355.length co16, .bool t358] 39 (0, 0)) (by (with_reducible repeat (first | refine blk_drewN ?_ _ | refine blk_drew ?_ | refine blk_alloc ?_ _)); exact BK361.out)) : gb371 ≠ gb361)); clear HO_362003; clear HO367; clear BK361; clear HB; have HO_362003 := n0_; have HO367 := n1_; have BK361 := n2_; have HB := n3_; have BK371 := n4_; have GW371 := n5_; have GE371 := n6_; have NB361_371 := n7_; have NB371_361 := n8_; clear n0_ n1_ n2_ n3_ n4_ n5_ n6_ n7_ n8_; clear hb hbox hg; have hnb33 := NB371_361.out; have hnc33 := NB361_371.out; have hcz34_0 : w32.cell? ⟨gb371, 0, none⟩ = some (.int .i64 0) := (blk_cell BK371.out 0).trans rfl; have hcz34_1 : w32.cell? ⟨gb371, 1, none⟩ = some (.string (⟨#[]⟩ : ByteArray)) := (blk_cell BK371.out 1).trans rfl; have hcz34_2 : w32.cell? ⟨gb371, 2, none⟩ = some (.string (⟨#[]⟩ : ByteArray)) := (blk_cell BK371.out 2).trans rfl; have hcz34_3 : w32.cell? ⟨gb371, 3, none⟩ = some (.slice none 0 0) := (blk_cell BK371.out 3).trans rfl; have hcz34_4 : w32.cell? ⟨gb371, 4, none⟩ = some (.bool false) := (blk_cell BK371.out 4).trans rfl; have hfz34_0 := blk_frozen BK371.out 0; have hfz34_1 := blk_frozen BK371.out 1; have hfz34_2 := blk_frozen BK371.out 2; have hfz34_3 := blk_frozen BK371.out 3; have hfz34_4 := blk_frozen BK371.out 4; obtain ⟨Ao35, co35, eo35⟩ := Kd.R_slice HO367.out; subst eo35; have hcz36_0 : w32.cell? ⟨gb361, 0, none⟩ = some (.int .i64 t352) := (blk_cell BK361.out 0).trans rfl; have hcz36_1 : w32.cell? ⟨gb361, 1, none⟩ = some (.string t353) := (blk_cell BK361.out 1).trans rfl; have hcz36_2 : w32.cell? ⟨gb361, 2, none⟩ = some (.string t354) := (blk_cell BK361.out 2).trans rfl; have hcz36_3 : w32.cell? ⟨gb361, 3, none⟩ = some (.slice Ao16 t355.length co16) := (blk_cell BK361.out 3).trans rfl; have hcz36_4 : w32.cell? ⟨gb361, 4, none⟩ = some (.bool t358) := (blk_cell BK361.out 4).trans rfl; have hfz36_0 := blk_frozen BK361.out 0; have hfz36_1 := blk_frozen BK361.out 1; have hfz36_2 := blk_frozen BK361.out 2; have hfz36_3 := blk_frozen BK361.out 3; have hfz36_4 := blk_frozen BK361.out 4) | (go_at_call 19; (with_reducible refine (flailref09_Same.calls kj11 t352 t353 t354 _ _ t355 t358 t362 t363 t364 _ _ t365 t368 true _ ?side1 ?side2 ?side3 ?side4 A27.out).mono ?_); (case side1 => refine (Kd.R_reads' (e := 27) (base := w.heap.size) (ok := fun k_ => (True ∧ some k_ ≠ (.slice Ao35 t365.length co35 : Value).ownBlock)) (n := t355.length) (c := co16) ?_).2.2; exact (by (with_reducible repeat (first | apply Kd.R_alloc | apply Kd.R_drewN | apply Kd.R_drew)); exact (Kd.R_mono (Kd.R_far (p := ⟨gb371, 4, none⟩) (Kd.R_far (p := ⟨gb371, 3, none⟩) (Kd.R_far (p := ⟨gb371, 2, none⟩) (Kd.R_far (p := ⟨gb371, 1, none⟩) (Kd.R_far (p := ⟨gb371, 0, none⟩) (Kd.R_types HO_362003.out BK371.out (by decide)) (fun _ hk => hk.2) (.int .i64 t362)) (fun _ hk => hk.2) (.string t363)) (fun _ hk => hk.2) (.string t364)) (fun _ hk => hk.2) (.slice Ao35 t365.length co35)) (fun _ hk => hk.2) (.bool t368)) (fun _ h_ => h_.1)))); (case side2 => exact (Kd.R_reads' HO_362003.out).2.1); (case side3 => refine (Kd.R_reads' (e := 27) (base := w.heap.size) (ok := fun k_ => (True ∧ some k_ ≠ (.slice Ao16 t355.length co16 : Value).ownBlock)) (n := t365.length) (c := co35) ?_).2.2; exact (by (with_reducible repeat (first | apply Kd.R_alloc | apply Kd.R_drewN | apply Kd.R_drew)); exact (Kd.R_mono (Kd.R_far (p := ⟨gb371, 4, none⟩) (Kd.R_far (p := ⟨gb371, 3, none⟩) (Kd.R_far (p := ⟨gb371, 2, none⟩) (Kd.R_far (p := ⟨gb371, 1, none⟩) (Kd.R_far (p := ⟨gb371, 0, none⟩) (Kd.R_types HO367.out BK371.out (by decide)) (fun _ hk => hk.2) (.int .i64 t362)) (fun _ hk => hk.2) (.string t363)) (fun _ hk => hk.2) (.string t364)) (fun _ hk => hk.2) (.slice Ao35 t365.length co35)) (fun _ hk => hk.2) (.bool t368)) (fun _ h_ => h_.1)))); (case side4 => exact (Kd.R_reads' HO367.out).2.1); rintro e w37 ⟨rfl, hb⟩; have n0_ := Aside0.mk (Kd.R_below (by (with_reducible repeat (first | apply Kd.R_alloc | apply Kd.R_drewN | apply Kd.R_drew)); exact (Kd.R_mono (Kd.R_far (p := ⟨gb371, 4, none⟩) (Kd.R_far (p := ⟨gb371, 3, none⟩) (Kd.R_far (p := ⟨gb371, 2, none⟩) (Kd.R_far (p := ⟨gb371, 1, none⟩) (Kd.R_far (p := ⟨gb371, 0, none⟩) (Kd.R_types HO_362003.out BK371.out (by decide)) (fun _ hk => hk.2) (.int .i64 t362)) (fun _ hk => hk.2) (.string t363)) (fun _ hk => hk.2) (.string t364)) (fun _ hk => hk.2) (.slice Ao35 t365.length co35)) (fun _ hk => hk.2) (.bool t368)) (fun _ h_ => h_.1))) hb); have n1_ := Aside0.mk (Kd.R_below (by (with_reducible repeat (first | apply Kd.R_alloc | apply Kd.R_drewN | apply Kd.R_drew)); exact (Kd.R_mono (Kd.R_far (p := ⟨gb371, 4, none⟩) (Kd.R_far (p := ⟨gb371, 3, none⟩) (Kd.R_far (p := ⟨gb371, 2, none⟩) (Kd.R_far (p := ⟨gb371, 1, none⟩) (Kd.R_far (p := ⟨gb371, 0, none⟩) (Kd.R_types HO367.out BK371.out (by decide)) (fun _ hk => hk.2) (.int .i64 t362)) (fun _ hk => hk.2) (.string t363)) (fun _ hk => hk.2) (.string t364)) (fun _ hk => hk.2) (.slice Ao35 t365.length co35)) (fun _ hk => hk.2) (.bool t368)) (fun _ h_ => h_.1))) hb); have n2_ := Aside0.mk (blk_below (g := gb361) (o := .cells #[.int .i64 t352, .string t353, .string t354, .slice Ao16 t355.length co16, .bool t358] 39 (0, 0)) (by (with_reducible repeat (first | refine blk_drewN ?_ _ | refine blk_drew ?_ | refine blk_alloc ?_ _)); refine blk_far ?_ NB361_371.out _; (with_reducible repeat (first | refine blk_drewN ?_ _ | refine blk_drew ?_ | refine blk_alloc ?_ _)); refine blk_far ?_ NB361_371.out _; (with_reducible repeat (first | refine blk_drewN ?_ _ | refine blk_drew ?_ | refine blk_alloc ?_ _)); refine blk_far ?_ NB361_371.out _; (with_reducible repeat (first | refine blk_drewN ?_ _ | refine blk_drew ?_ | refine blk_alloc ?_ _)); refine blk_far ?_ NB361_371.out _; (with_reducible repeat (first | refine blk_drewN ?_ _ | refine blk_drew ?_ | refine blk_alloc ?_ _)); refine blk_far ?_ NB361_371.out _; (with_reducible repeat (first | refine blk_drewN ?_ _ | refine blk_drew ?_ | refine blk_alloc ?_ _)); exact BK361.out) hb); have n3_ := Aside0.mk (blk_below (g := gb371) (o := .cells #[.int .i64 t362, .string t363, .string t364, .slice Ao35 t365.length co35, .bool t368] 39 (0, 0)) (by (with_reducible repeat (first | refine blk_drewN ?_ _ | refine blk_drew ?_ | refine blk_alloc ?_ _)); refine blk_put (cs := #[.int .i64 t362, .string t363, .string t364, .slice Ao35 t365.length co35, .bool false]) ?_ 4 _ rfl; (with_reducible repeat (first | refine blk_drewN ?_ _ | refine blk_drew ?_ | refine blk_alloc ?_ _)); refine blk_put (cs := #[.int .i64 t362, .string t363, .string t364, .slice none 0 0, .bool false]) ?_ 3 _ rfl; (with_reducible repeat (first | refine blk_drewN ?_ _ | refine blk_drew ?_ | refine blk_alloc ?_ _)); refine blk_put (cs := #[.int .i64 t362, .string t363, .string (⟨#[]⟩ : ByteArray), .slice none 0 0, .bool false]) ?_ 2 _ rfl; (with_reducible repeat (first | refine blk_drewN ?_ _ | refine blk_drew ?_ | refine blk_alloc ?_ _)); refine blk_put (cs := #[.int .i64 t362, .string (⟨#[]⟩ : ByteArray), .string (⟨#[]⟩ : ByteArray), .slice none 0 0, .bool false]) ?_ 1 _ rfl; (with_reducible repeat (first | refine blk_drewN ?_ _ | refine blk_drew ?_ | refine blk_alloc ?_ _)); refine blk_put (cs := #[.int .i64 0, .string (⟨#[]⟩ : ByteArray), .string (⟨#[]⟩ : ByteArray), .slice none 0 0, .bool false]) ?_ 0 _ rfl; (with_reducible repeat (first | refine blk_drewN ?_ _ | refine blk_drew ?_ | refine blk_alloc ?_ _)); exact BK371.out) hb); have n4_ := Aside0.mk (below_step (by repeat (first | (with_reducible first | exact HB.out | apply below_alloc | apply pw_below_drewN | apply below_drew1 | refine below_set ?_ GE361.out | refine below_set ?_ GE371.out) | exact HB.out)) hb); clear HO_362003; clear HO367; clear BK361; clear BK371; clear HB; have HO_362003 := n0_; have HO367 := n1_; have BK361 := n2_; have BK371 := n3_; have HB := n4_; clear n0_ n1_ n2_ n3_ n4_; (try clear hb); (try clear hb2); (try clear hk); (try clear hi)) | (go_at_call 20; (with_reducible refine (tag_Begins.calls (a0 ++ a1) (a0.size : Int) t373 _ A30.out).mono ?_); rintro e w38 ⟨rfl, hb⟩; have n0_ := Aside0.mk (Kd.R_below (by (with_reducible repeat (first | apply Kd.R_alloc | apply Kd.R_drewN | apply Kd.R_drew)); exact HO_362003.out) hb); have n1_ := Aside0.mk (Kd.R_below (by (with_reducible repeat (first | apply Kd.R_alloc | apply Kd.R_drewN | apply Kd.R_drew)); exact HO367.out) hb); have n2_ := Aside0.mk (blk_below (g := gb361) (o := .cells #[.int .i64 t352, .string t353, .string t354, .slice Ao16 t355.length co16, .bool t358] 39 (0, 0)) (by (with_reducible repeat (first | refine blk_drewN ?_ _ | refine blk_drew ?_ | refine blk_alloc ?_ _)); exact BK361.out) hb); have n3_ := Aside0.mk (blk_below (g := gb371) (o := .cells #[.int .i64 t362, .string t363, .string t364, .slice Ao35 t365.length co35, .bool t368] 39 (0, 0)) (by (with_reducible repeat (first | refine blk_drewN ?_ _ | refine blk_drew ?_ | refine blk_alloc ?_ _)); exact BK371.out) hb); have n4_ := Aside0.mk (below_step (by repeat (first | (with_reducible first | exact HB.out | apply below_alloc | apply pw_below_drewN | apply below_drew1 | refine below_set ?_ GE361.out | refine below_set ?_ GE371.out) | exact HB.out)) hb); clear HO_362003; clear HO367; clear BK361; clear BK371; clear HB; have HO_362003 := n0_; have HO367 := n1_; have BK361 := n2_; have BK371 := n3_; have HB := n4_; clear n0_ n1_ n2_ n3_ n4_; (try clear hb); (try clear hb2); (try clear hk); (try clear hi)))
                                  go_ret
                                  exact ⟨by first | rfl | (simp [errW_none, errW_some] <;> rfl) | (simp [*, errW_none, errW_some] <;> rfl), by repeat (first | (with_reducible first | exact HB.out | apply below_alloc | apply pw_below_drewN | apply below_drew1 | refine below_set ?_ GE361.out | refine below_set ?_ GE371.out) | exact HB.out)⟩
                                · rw [if_neg c29] at H
                                  exact absurd H (by simp)
                              · replace c28 := Bool.eq_false_iff.mpr c28
                                subst c28
                                have H1 : (some false) = some r := by rw [if_neg (show ¬ (false = true) by decide)] at H; exact H
                                clear H
                                have H := H1
                                clear H1
                                obtain rfl := Option.some.inj H
                                go_wp2_with (first | ((with_reducible refine gate_callee (f := 18) rfl ?_); refine goesL_ (some 56) rfl rfl Tryd.func18 (by kernel_rfl) rfl #[.string ((a0 ++ (a1.extract 0 (t359 : Int).toNat)) ++ a2), .int .i64 (a0.size : Int)] rfl (by (try simp only [List.map_toArray, List.map_cons, List.map_nil]); first | done | rfl | (simp only [List.length_drop, List.length_take]; rfl)) ?_; (with_reducible refine (tag_Read.calls ((a0 ++ (a1.extract 0 (t359 : Int).toNat)) ++ a2) (a0.size : Int) t362 t363 t364 t365 t368 t369 true _ ?side1 A23.out).mono ?_); (case side1 => first | (with_reducible exact HG.out) | exact Gl.below HG.out (by repeat (first | (with_reducible first | exact HB.out | apply below_alloc | apply pw_below_drewN | apply below_drew1 | refine below_set ?_ GE361.out) | exact HB.out)) | exact HG.out); rintro e w39 ⟨v366, rfl, ho0, hb⟩; refine ⟨_, rfl, ?_⟩; have n0_ := Aside0.mk (Kd.R_elder' (by (with_reducible repeat (first | apply Kd.R_alloc | apply Kd.R_drewN | apply Kd.R_drew)); exact HO_362003.out) (Kd.R_base ho0) hb); have n1_ := Aside0.mk (Kd.R_lower (Kd.R_new' ho0 (Kd.R_lt (by (with_reducible repeat (first | apply Kd.R_alloc | apply Kd.R_drewN | apply Kd.R_drew)); exact HO_362003.out))) (below_size (by repeat (first | (with_reducible first | exact HB.out | apply below_alloc | apply pw_below_drewN | apply below_drew1 | refine below_set ?_ GE361.out) | exact HB.out)))); have n2_ := Aside0.mk (blk_below (g := gb361) (o := .cells #[.int .i64 t352, .string t353, .string t354, .slice Ao16 t355.length co16, .bool t358] 39 (0, 0)) (by (with_reducible repeat (first | refine blk_drewN ?_ _ | refine blk_drew ?_ | refine blk_alloc ?_ _)); exact BK361.out) hb); have n3_ := Aside0.mk (below_step (by repeat (first | (with_reducible first | exact HB.out | apply below_alloc | apply pw_below_drewN | apply below_drew1 | refine below_set ?_ GE361.out) | exact HB.out)) hb); clear HO_362003; clear BK361; clear HB; have HO_362003 := n0_; have HO367 := n1_; have BK361 := n2_; have HB := n3_; clear n0_ n1_ n2_ n3_; (try clear hb); (try clear hb2); (try clear hk); (try clear hi); (try clear ho0)) | ((with_reducible refine gate_dst (N := 11) rfl ?_); (try (refine gate_guard (by rfl) ?_; dsimp only)); refine box_event ?hg (N := 11) ?hd (cs := #[.int .i64 0, .string (⟨#[]⟩ : ByteArray), .string (⟨#[]⟩ : ByteArray), .slice none 0 0, .bool false]) (t := 39) ?hr ?_; (case hd => rfl); (case hg => rfl); (case hr => first | (go_simp; done) | (go_simp; rfl)); intro gb371 hg w40 hbox hb; have n0_ := Aside0.mk (Kd.R_below (by (with_reducible repeat (first | apply Kd.R_alloc | apply Kd.R_drewN | apply Kd.R_drew)); exact HO_362003.out) hb); have n1_ := Aside0.mk (Kd.R_below (by (with_reducible repeat (first | apply Kd.R_alloc | apply Kd.R_drewN | apply Kd.R_drew)); exact HO367.out) hb); have n2_ := Aside0.mk (blk_below (g := gb361) (o := .cells #[.int .i64 t352, .string t353, .string t354, .slice Ao16 t355.length co16, .bool t358] 39 (0, 0)) (by (with_reducible repeat (first | refine blk_drewN ?_ _ | refine blk_drew ?_ | refine blk_alloc ?_ _)); exact BK361.out) hb); have n3_ := Aside0.mk (below_step (by repeat (first | (with_reducible first | exact HB.out | apply below_alloc | apply pw_below_drewN | apply below_drew1 | refine below_set ?_ GE361.out) | exact HB.out)) hb); have n4_ := Aside0.mk (hbox); have n5_ := Aside0.mk ((by rw [hg]; exact (below_size (by repeat (first | (with_reducible first | exact HB.out | apply below_alloc | apply pw_below_drewN | apply below_drew1 | refine below_set ?_ GE361.out) | exact HB.out))) : w.heap.size ≤ gb371)); have n6_ := Aside0.mk ((by rw [hg]; exact (below_size (by repeat (first | (with_reducible first | exact HB.out | apply below_alloc | apply pw_below_drewN | apply below_drew1 | refine below_set ?_ GE361.out) | exact HB.out))) : w.heap.size ≤ gb371)); have n7_ := Aside0.mk ((by rw [hg]; exact Nat.ne_of_lt (blk_lt (g := gb361) (o := .cells #[.int .i64 t352, .string t353, .string t354, .slice Ao16 t355.length co16, .bool t358] 39 (0, 0)) (by (with_reducible repeat (first | refine blk_drewN ?_ _ | refine blk_drew ?_ | refine blk_alloc ?_ _)); exact BK361.out)) : gb361 ≠ gb371)); have n8_ := Aside0.mk ((by rw [hg]; exact Nat.ne_of_gt (blk_lt (g := gb361) (o := .cells #[.int .i64 t352, .string t353, .string t354, .slice Ao16 t355.length co16, .bool t358] 39 (0, 0)) (by (with_reducible repeat (first | refine blk_drewN ?_ _ | refine blk_drew ?_ | refine blk_alloc ?_ _)); exact BK361.out)) : gb371 ≠ gb361)); clear HO_362003; clear HO367; clear BK361; clear HB; have HO_362003 := n0_; have HO367 := n1_; have BK361 := n2_; have HB := n3_; have BK371 := n4_; have GW371 := n5_; have GE371 := n6_; have NB361_371 := n7_; have NB371_361 := n8_; clear n0_ n1_ n2_ n3_ n4_ n5_ n6_ n7_ n8_; clear hb hbox hg; have hnb41 := NB371_361.out; have hnc41 := NB361_371.out; have hcz42_0 : w40.cell? ⟨gb371, 0, none⟩ = some (.int .i64 0) := (blk_cell BK371.out 0).trans rfl; have hcz42_1 : w40.cell? ⟨gb371, 1, none⟩ = some (.string (⟨#[]⟩ : ByteArray)) := (blk_cell BK371.out 1).trans rfl; have hcz42_2 : w40.cell? ⟨gb371, 2, none⟩ = some (.string (⟨#[]⟩ : ByteArray)) := (blk_cell BK371.out 2).trans rfl; have hcz42_3 : w40.cell? ⟨gb371, 3, none⟩ = some (.slice none 0 0) := (blk_cell BK371.out 3).trans rfl; have hcz42_4 : w40.cell? ⟨gb371, 4, none⟩ = some (.bool false) := (blk_cell BK371.out 4).trans rfl; have hfz42_0 := blk_frozen BK371.out 0; have hfz42_1 := blk_frozen BK371.out 1; have hfz42_2 := blk_frozen BK371.out 2; have hfz42_3 := blk_frozen BK371.out 3; have hfz42_4 := blk_frozen BK371.out 4; obtain ⟨Ao43, co43, eo43⟩ := Kd.R_slice HO367.out; subst eo43; have hcz44_0 : w40.cell? ⟨gb361, 0, none⟩ = some (.int .i64 t352) := (blk_cell BK361.out 0).trans rfl; have hcz44_1 : w40.cell? ⟨gb361, 1, none⟩ = some (.string t353) := (blk_cell BK361.out 1).trans rfl; have hcz44_2 : w40.cell? ⟨gb361, 2, none⟩ = some (.string t354) := (blk_cell BK361.out 2).trans rfl; have hcz44_3 : w40.cell? ⟨gb361, 3, none⟩ = some (.slice Ao16 t355.length co16) := (blk_cell BK361.out 3).trans rfl; have hcz44_4 : w40.cell? ⟨gb361, 4, none⟩ = some (.bool t358) := (blk_cell BK361.out 4).trans rfl; have hfz44_0 := blk_frozen BK361.out 0; have hfz44_1 := blk_frozen BK361.out 1; have hfz44_2 := blk_frozen BK361.out 2; have hfz44_3 := blk_frozen BK361.out 3; have hfz44_4 := blk_frozen BK361.out 4) | (go_at_call 19; (with_reducible refine (flailref09_Same.calls kj11 t352 t353 t354 _ _ t355 t358 t362 t363 t364 _ _ t365 t368 false _ ?side1 ?side2 ?side3 ?side4 A27.out).mono ?_); (case side1 => refine (Kd.R_reads' (e := 27) (base := w.heap.size) (ok := fun k_ => (True ∧ some k_ ≠ (.slice Ao43 t365.length co43 : Value).ownBlock)) (n := t355.length) (c := co16) ?_).2.2; exact (by (with_reducible repeat (first | apply Kd.R_alloc | apply Kd.R_drewN | apply Kd.R_drew)); exact (Kd.R_mono (Kd.R_far (p := ⟨gb371, 4, none⟩) (Kd.R_far (p := ⟨gb371, 3, none⟩) (Kd.R_far (p := ⟨gb371, 2, none⟩) (Kd.R_far (p := ⟨gb371, 1, none⟩) (Kd.R_far (p := ⟨gb371, 0, none⟩) (Kd.R_types HO_362003.out BK371.out (by decide)) (fun _ hk => hk.2) (.int .i64 t362)) (fun _ hk => hk.2) (.string t363)) (fun _ hk => hk.2) (.string t364)) (fun _ hk => hk.2) (.slice Ao43 t365.length co43)) (fun _ hk => hk.2) (.bool t368)) (fun _ h_ => h_.1)))); (case side2 => exact (Kd.R_reads' HO_362003.out).2.1); (case side3 => refine (Kd.R_reads' (e := 27) (base := w.heap.size) (ok := fun k_ => (True ∧ some k_ ≠ (.slice Ao16 t355.length co16 : Value).ownBlock)) (n := t365.length) (c := co43) ?_).2.2; exact (by (with_reducible repeat (first | apply Kd.R_alloc | apply Kd.R_drewN | apply Kd.R_drew)); exact (Kd.R_mono (Kd.R_far (p := ⟨gb371, 4, none⟩) (Kd.R_far (p := ⟨gb371, 3, none⟩) (Kd.R_far (p := ⟨gb371, 2, none⟩) (Kd.R_far (p := ⟨gb371, 1, none⟩) (Kd.R_far (p := ⟨gb371, 0, none⟩) (Kd.R_types HO367.out BK371.out (by decide)) (fun _ hk => hk.2) (.int .i64 t362)) (fun _ hk => hk.2) (.string t363)) (fun _ hk => hk.2) (.string t364)) (fun _ hk => hk.2) (.slice Ao43 t365.length co43)) (fun _ hk => hk.2) (.bool t368)) (fun _ h_ => h_.1)))); (case side4 => exact (Kd.R_reads' HO367.out).2.1); rintro e w45 ⟨rfl, hb⟩; have n0_ := Aside0.mk (Kd.R_below (by (with_reducible repeat (first | apply Kd.R_alloc | apply Kd.R_drewN | apply Kd.R_drew)); exact (Kd.R_mono (Kd.R_far (p := ⟨gb371, 4, none⟩) (Kd.R_far (p := ⟨gb371, 3, none⟩) (Kd.R_far (p := ⟨gb371, 2, none⟩) (Kd.R_far (p := ⟨gb371, 1, none⟩) (Kd.R_far (p := ⟨gb371, 0, none⟩) (Kd.R_types HO_362003.out BK371.out (by decide)) (fun _ hk => hk.2) (.int .i64 t362)) (fun _ hk => hk.2) (.string t363)) (fun _ hk => hk.2) (.string t364)) (fun _ hk => hk.2) (.slice Ao43 t365.length co43)) (fun _ hk => hk.2) (.bool t368)) (fun _ h_ => h_.1))) hb); have n1_ := Aside0.mk (Kd.R_below (by (with_reducible repeat (first | apply Kd.R_alloc | apply Kd.R_drewN | apply Kd.R_drew)); exact (Kd.R_mono (Kd.R_far (p := ⟨gb371, 4, none⟩) (Kd.R_far (p := ⟨gb371, 3, none⟩) (Kd.R_far (p := ⟨gb371, 2, none⟩) (Kd.R_far (p := ⟨gb371, 1, none⟩) (Kd.R_far (p := ⟨gb371, 0, none⟩) (Kd.R_types HO367.out BK371.out (by decide)) (fun _ hk => hk.2) (.int .i64 t362)) (fun _ hk => hk.2) (.string t363)) (fun _ hk => hk.2) (.string t364)) (fun _ hk => hk.2) (.slice Ao43 t365.length co43)) (fun _ hk => hk.2) (.bool t368)) (fun _ h_ => h_.1))) hb); have n2_ := Aside0.mk (blk_below (g := gb361) (o := .cells #[.int .i64 t352, .string t353, .string t354, .slice Ao16 t355.length co16, .bool t358] 39 (0, 0)) (by (with_reducible repeat (first | refine blk_drewN ?_ _ | refine blk_drew ?_ | refine blk_alloc ?_ _)); refine blk_far ?_ NB361_371.out _; (with_reducible repeat (first | refine blk_drewN ?_ _ | refine blk_drew ?_ | refine blk_alloc ?_ _)); refine blk_far ?_ NB361_371.out _; (with_reducible repeat (first | refine blk_drewN ?_ _ | refine blk_drew ?_ | refine blk_alloc ?_ _)); refine blk_far ?_ NB361_371.out _; (with_reducible repeat (first | refine blk_drewN ?_ _ | refine blk_drew ?_ | refine blk_alloc ?_ _)); refine blk_far ?_ NB361_371.out _; (with_reducible repeat (first | refine blk_drewN ?_ _ | refine blk_drew ?_ | refine blk_alloc ?_ _)); refine blk_far ?_ NB361_371.out _; (with_reducible repeat (first | refine blk_drewN ?_ _ | refine blk_drew ?_ | refine blk_alloc ?_ _)); exact BK361.out) hb); have n3_ := Aside0.mk (blk_below (g := gb371) (o := .cells #[.int .i64 t362, .string t363, .string t364, .slice Ao43 t365.length co43, .bool t368] 39 (0, 0)) (by (with_reducible repeat (first | refine blk_drewN ?_ _ | refine blk_drew ?_ | refine blk_alloc ?_ _)); refine blk_put (cs := #[.int .i64 t362, .string t363, .string t364, .slice Ao43 t365.length co43, .bool false]) ?_ 4 _ rfl; (with_reducible repeat (first | refine blk_drewN ?_ _ | refine blk_drew ?_ | refine blk_alloc ?_ _)); refine blk_put (cs := #[.int .i64 t362, .string t363, .string t364, .slice none 0 0, .bool false]) ?_ 3 _ rfl; (with_reducible repeat (first | refine blk_drewN ?_ _ | refine blk_drew ?_ | refine blk_alloc ?_ _)); refine blk_put (cs := #[.int .i64 t362, .string t363, .string (⟨#[]⟩ : ByteArray), .slice none 0 0, .bool false]) ?_ 2 _ rfl; (with_reducible repeat (first | refine blk_drewN ?_ _ | refine blk_drew ?_ | refine blk_alloc ?_ _)); refine blk_put (cs := #[.int .i64 t362, .string (⟨#[]⟩ : ByteArray), .string (⟨#[]⟩ : ByteArray), .slice none 0 0, .bool false]) ?_ 1 _ rfl; (with_reducible repeat (first | refine blk_drewN ?_ _ | refine blk_drew ?_ | refine blk_alloc ?_ _)); refine blk_put (cs := #[.int .i64 0, .string (⟨#[]⟩ : ByteArray), .string (⟨#[]⟩ : ByteArray), .slice none 0 0, .bool false]) ?_ 0 _ rfl; (with_reducible repeat (first | refine blk_drewN ?_ _ | refine blk_drew ?_ | refine blk_alloc ?_ _)); exact BK371.out) hb); have n4_ := Aside0.mk (below_step (by repeat (first | (with_reducible first | exact HB.out | apply below_alloc | apply pw_below_drewN | apply below_drew1 | refine below_set ?_ GE361.out | refine below_set ?_ GE371.out) | exact HB.out)) hb); clear HO_362003; clear HO367; clear BK361; clear BK371; clear HB; have HO_362003 := n0_; have HO367 := n1_; have BK361 := n2_; have BK371 := n3_; have HB := n4_; clear n0_ n1_ n2_ n3_ n4_; (try clear hb); (try clear hb2); (try clear hk); (try clear hi)))
                                go_ret
                                exact ⟨by first | rfl | (simp [errW_none, errW_some] <;> rfl) | (simp [*, errW_none, errW_some] <;> rfl), by repeat (first | (with_reducible first | exact HB.out | apply below_alloc | apply pw_below_drewN | apply below_drew1 | refine below_set ?_ GE361.out | refine below_set ?_ GE371.out) | exact HB.out)⟩
                            · rw [if_neg c26] at H
                              have c26b0 : (t369 == (wrap64 ((a0.size : Int) + t359))) = false := beq_eq_false_iff_ne.mpr c26
                              have c26b1 : (t369 != (wrap64 ((a0.size : Int) + t359))) = true := bne_iff_ne.mpr c26
                              (try (have c26b2 : (t369 == (((a0.size : Int) + t359))) = false := by have h_ := c26; rw [IntWalk.wrap64_in ((a0.size : Int) + t359) ⟨by omega, by omega⟩] at h_; exact beq_eq_false_iff_ne.mpr h_))
                              (try (have c26b3 : (t369 != (((a0.size : Int) + t359))) = true := by have h_ := c26; rw [IntWalk.wrap64_in ((a0.size : Int) + t359) ⟨by omega, by omega⟩] at h_; exact bne_iff_ne.mpr h_))
                              obtain rfl := Option.some.inj H
                              go_wp2_with (first | ((with_reducible refine gate_callee (f := 18) rfl ?_); refine goesL_ (some 56) rfl rfl Tryd.func18 (by kernel_rfl) rfl #[.string ((a0 ++ (a1.extract 0 (t359 : Int).toNat)) ++ a2), .int .i64 (a0.size : Int)] rfl (by (try simp only [List.map_toArray, List.map_cons, List.map_nil]); first | done | rfl | (simp only [List.length_drop, List.length_take]; rfl)) ?_; (with_reducible refine (tag_Read.calls ((a0 ++ (a1.extract 0 (t359 : Int).toNat)) ++ a2) (a0.size : Int) t362 t363 t364 t365 t368 t369 true _ ?side1 A23.out).mono ?_); (case side1 => first | (with_reducible exact HG.out) | exact Gl.below HG.out (by repeat (first | (with_reducible first | exact HB.out | apply below_alloc | apply pw_below_drewN | apply below_drew1 | refine below_set ?_ GE361.out) | exact HB.out)) | exact HG.out); rintro e w46 ⟨v366, rfl, ho0, hb⟩; refine ⟨_, rfl, ?_⟩; have n0_ := Aside0.mk (Kd.R_elder' (by (with_reducible repeat (first | apply Kd.R_alloc | apply Kd.R_drewN | apply Kd.R_drew)); exact HO_362003.out) (Kd.R_base ho0) hb); have n1_ := Aside0.mk (Kd.R_lower (Kd.R_new' ho0 (Kd.R_lt (by (with_reducible repeat (first | apply Kd.R_alloc | apply Kd.R_drewN | apply Kd.R_drew)); exact HO_362003.out))) (below_size (by repeat (first | (with_reducible first | exact HB.out | apply below_alloc | apply pw_below_drewN | apply below_drew1 | refine below_set ?_ GE361.out) | exact HB.out)))); have n2_ := Aside0.mk (blk_below (g := gb361) (o := .cells #[.int .i64 t352, .string t353, .string t354, .slice Ao16 t355.length co16, .bool t358] 39 (0, 0)) (by (with_reducible repeat (first | refine blk_drewN ?_ _ | refine blk_drew ?_ | refine blk_alloc ?_ _)); exact BK361.out) hb); have n3_ := Aside0.mk (below_step (by repeat (first | (with_reducible first | exact HB.out | apply below_alloc | apply pw_below_drewN | apply below_drew1 | refine below_set ?_ GE361.out) | exact HB.out)) hb); clear HO_362003; clear BK361; clear HB; have HO_362003 := n0_; have HO367 := n1_; have BK361 := n2_; have HB := n3_; clear n0_ n1_ n2_ n3_; (try clear hb); (try clear hb2); (try clear hk); (try clear hi); (try clear ho0)) | ((with_reducible refine gate_dst (N := 11) rfl ?_); (try (refine gate_guard (by rfl) ?_; dsimp only)); refine box_event ?hg (N := 11) ?hd (cs := #[.int .i64 0, .string (⟨#[]⟩ : ByteArray), .string (⟨#[]⟩ : ByteArray), .slice none 0 0, .bool false]) (t := 39) ?hr ?_; (case hd => rfl); (case hg => rfl); (case hr => first | (go_simp; done) | (go_simp; rfl)); intro gb371 hg w47 hbox hb; have n0_ := Aside0.mk (Kd.R_below (by (with_reducible repeat (first | apply Kd.R_alloc | apply Kd.R_drewN | apply Kd.R_drew)); exact HO_362003.out) hb); have n1_ := Aside0.mk (Kd.R_below (by (with_reducible repeat (first | apply Kd.R_alloc | apply Kd.R_drewN | apply Kd.R_drew)); exact HO367.out) hb); have n2_ := Aside0.mk (blk_below (g := gb361) (o := .cells #[.int .i64 t352, .string t353, .string t354, .slice Ao16 t355.length co16, .bool t358] 39 (0, 0)) (by (with_reducible repeat (first | refine blk_drewN ?_ _ | refine blk_drew ?_ | refine blk_alloc ?_ _)); exact BK361.out) hb); have n3_ := Aside0.mk (below_step (by repeat (first | (with_reducible first | exact HB.out | apply below_alloc | apply pw_below_drewN | apply below_drew1 | refine below_set ?_ GE361.out) | exact HB.out)) hb); have n4_ := Aside0.mk (hbox); have n5_ := Aside0.mk ((by rw [hg]; exact (below_size (by repeat (first | (with_reducible first | exact HB.out | apply below_alloc | apply pw_below_drewN | apply below_drew1 | refine below_set ?_ GE361.out) | exact HB.out))) : w.heap.size ≤ gb371)); have n6_ := Aside0.mk ((by rw [hg]; exact (below_size (by repeat (first | (with_reducible first | exact HB.out | apply below_alloc | apply pw_below_drewN | apply below_drew1 | refine below_set ?_ GE361.out) | exact HB.out))) : w.heap.size ≤ gb371)); have n7_ := Aside0.mk ((by rw [hg]; exact Nat.ne_of_lt (blk_lt (g := gb361) (o := .cells #[.int .i64 t352, .string t353, .string t354, .slice Ao16 t355.length co16, .bool t358] 39 (0, 0)) (by (with_reducible repeat (first | refine blk_drewN ?_ _ | refine blk_drew ?_ | refine blk_alloc ?_ _)); exact BK361.out)) : gb361 ≠ gb371)); have n8_ := Aside0.mk ((by rw [hg]; exact Nat.ne_of_gt (blk_lt (g := gb361) (o := .cells #[.int .i64 t352, .string t353, .string t354, .slice Ao16 t355.length co16, .bool t358] 39 (0, 0)) (by (with_reducible repeat (first | refine blk_drewN ?_ _ | refine blk_drew ?_ | refine blk_alloc ?_ _)); exact BK361.out)) : gb371 ≠ gb361)); clear HO_362003; clear HO367; clear BK361; clear HB; have HO_362003 := n0_; have HO367 := n1_; have BK361 := n2_; have HB := n3_; have BK371 := n4_; have GW371 := n5_; have GE371 := n6_; have NB361_371 := n7_; have NB371_361 := n8_; clear n0_ n1_ n2_ n3_ n4_ n5_ n6_ n7_ n8_; clear hb hbox hg; have hnb48 := NB371_361.out; have hnc48 := NB361_371.out; have hcz49_0 : w47.cell? ⟨gb371, 0, none⟩ = some (.int .i64 0) := (blk_cell BK371.out 0).trans rfl; have hcz49_1 : w47.cell? ⟨gb371, 1, none⟩ = some (.string (⟨#[]⟩ : ByteArray)) := (blk_cell BK371.out 1).trans rfl; have hcz49_2 : w47.cell? ⟨gb371, 2, none⟩ = some (.string (⟨#[]⟩ : ByteArray)) := (blk_cell BK371.out 2).trans rfl; have hcz49_3 : w47.cell? ⟨gb371, 3, none⟩ = some (.slice none 0 0) := (blk_cell BK371.out 3).trans rfl; have hcz49_4 : w47.cell? ⟨gb371, 4, none⟩ = some (.bool false) := (blk_cell BK371.out 4).trans rfl; have hfz49_0 := blk_frozen BK371.out 0; have hfz49_1 := blk_frozen BK371.out 1; have hfz49_2 := blk_frozen BK371.out 2; have hfz49_3 := blk_frozen BK371.out 3; have hfz49_4 := blk_frozen BK371.out 4; obtain ⟨Ao50, co50, eo50⟩ := Kd.R_slice HO367.out; subst eo50))
                              go_ret
                              exact ⟨by first | rfl | (simp [errW_none, errW_some] <;> rfl) | (simp [*, errW_none, errW_some] <;> rfl), by repeat (first | (with_reducible first | exact HB.out | apply below_alloc | apply pw_below_drewN | apply below_drew1 | refine below_set ?_ GE361.out | refine below_set ?_ GE371.out) | exact HB.out)⟩
                          · replace c25 := Bool.eq_false_iff.mpr c25
                            subst c25
                            have H1 : (some false) = some r := by rw [if_neg (show ¬ (false = true) by decide)] at H; exact H
                            clear H
                            have H := H1
                            clear H1
                            obtain rfl := Option.some.inj H
                            go_wp2_with (first | ((with_reducible refine gate_callee (f := 18) rfl ?_); refine goesL_ (some 56) rfl rfl Tryd.func18 (by kernel_rfl) rfl #[.string ((a0 ++ (a1.extract 0 (t359 : Int).toNat)) ++ a2), .int .i64 (a0.size : Int)] rfl (by (try simp only [List.map_toArray, List.map_cons, List.map_nil]); first | done | rfl | (simp only [List.length_drop, List.length_take]; rfl)) ?_; (with_reducible refine (tag_Read.calls ((a0 ++ (a1.extract 0 (t359 : Int).toNat)) ++ a2) (a0.size : Int) t362 t363 t364 t365 t368 t369 false _ ?side1 A23.out).mono ?_); (case side1 => first | (with_reducible exact HG.out) | exact Gl.below HG.out (by repeat (first | (with_reducible first | exact HB.out | apply below_alloc | apply pw_below_drewN | apply below_drew1 | refine below_set ?_ GE361.out) | exact HB.out)) | exact HG.out); rintro e w51 ⟨v366, rfl, ho0, hb⟩; refine ⟨_, rfl, ?_⟩; have n0_ := Aside0.mk (Kd.R_elder' (by (with_reducible repeat (first | apply Kd.R_alloc | apply Kd.R_drewN | apply Kd.R_drew)); exact HO_362003.out) (Kd.R_base ho0) hb); have n1_ := Aside0.mk (Kd.R_lower (Kd.R_new' ho0 (Kd.R_lt (by (with_reducible repeat (first | apply Kd.R_alloc | apply Kd.R_drewN | apply Kd.R_drew)); exact HO_362003.out))) (below_size (by repeat (first | (with_reducible first | exact HB.out | apply below_alloc | apply pw_below_drewN | apply below_drew1 | refine below_set ?_ GE361.out) | exact HB.out)))); have n2_ := Aside0.mk (blk_below (g := gb361) (o := .cells #[.int .i64 t352, .string t353, .string t354, .slice Ao16 t355.length co16, .bool t358] 39 (0, 0)) (by (with_reducible repeat (first | refine blk_drewN ?_ _ | refine blk_drew ?_ | refine blk_alloc ?_ _)); exact BK361.out) hb); have n3_ := Aside0.mk (below_step (by repeat (first | (with_reducible first | exact HB.out | apply below_alloc | apply pw_below_drewN | apply below_drew1 | refine below_set ?_ GE361.out) | exact HB.out)) hb); clear HO_362003; clear BK361; clear HB; have HO_362003 := n0_; have HO367 := n1_; have BK361 := n2_; have HB := n3_; clear n0_ n1_ n2_ n3_; (try clear hb); (try clear hb2); (try clear hk); (try clear hi); (try clear ho0)) | ((with_reducible refine gate_dst (N := 11) rfl ?_); (try (refine gate_guard (by rfl) ?_; dsimp only)); refine box_event ?hg (N := 11) ?hd (cs := #[.int .i64 0, .string (⟨#[]⟩ : ByteArray), .string (⟨#[]⟩ : ByteArray), .slice none 0 0, .bool false]) (t := 39) ?hr ?_; (case hd => rfl); (case hg => rfl); (case hr => first | (go_simp; done) | (go_simp; rfl)); intro gb371 hg w52 hbox hb; have n0_ := Aside0.mk (Kd.R_below (by (with_reducible repeat (first | apply Kd.R_alloc | apply Kd.R_drewN | apply Kd.R_drew)); exact HO_362003.out) hb); have n1_ := Aside0.mk (Kd.R_below (by (with_reducible repeat (first | apply Kd.R_alloc | apply Kd.R_drewN | apply Kd.R_drew)); exact HO367.out) hb); have n2_ := Aside0.mk (blk_below (g := gb361) (o := .cells #[.int .i64 t352, .string t353, .string t354, .slice Ao16 t355.length co16, .bool t358] 39 (0, 0)) (by (with_reducible repeat (first | refine blk_drewN ?_ _ | refine blk_drew ?_ | refine blk_alloc ?_ _)); exact BK361.out) hb); have n3_ := Aside0.mk (below_step (by repeat (first | (with_reducible first | exact HB.out | apply below_alloc | apply pw_below_drewN | apply below_drew1 | refine below_set ?_ GE361.out) | exact HB.out)) hb); have n4_ := Aside0.mk (hbox); have n5_ := Aside0.mk ((by rw [hg]; exact (below_size (by repeat (first | (with_reducible first | exact HB.out | apply below_alloc | apply pw_below_drewN | apply below_drew1 | refine below_set ?_ GE361.out) | exact HB.out))) : w.heap.size ≤ gb371)); have n6_ := Aside0.mk ((by rw [hg]; exact (below_size (by repeat (first | (with_reducible first | exact HB.out | apply below_alloc | apply pw_below_drewN | apply below_drew1 | refine below_set ?_ GE361.out) | exact HB.out))) : w.heap.size ≤ gb371)); have n7_ := Aside0.mk ((by rw [hg]; exact Nat.ne_of_lt (blk_lt (g := gb361) (o := .cells #[.int .i64 t352, .string t353, .string t354, .slice Ao16 t355.length co16, .bool t358] 39 (0, 0)) (by (with_reducible repeat (first | refine blk_drewN ?_ _ | refine blk_drew ?_ | refine blk_alloc ?_ _)); exact BK361.out)) : gb361 ≠ gb371)); have n8_ := Aside0.mk ((by rw [hg]; exact Nat.ne_of_gt (blk_lt (g := gb361) (o := .cells #[.int .i64 t352, .string t353, .string t354, .slice Ao16 t355.length co16, .bool t358] 39 (0, 0)) (by (with_reducible repeat (first | refine blk_drewN ?_ _ | refine blk_drew ?_ | refine blk_alloc ?_ _)); exact BK361.out)) : gb371 ≠ gb361)); clear HO_362003; clear HO367; clear BK361; clear HB; have HO_362003 := n0_; have HO367 := n1_; have BK361 := n2_; have HB := n3_; have BK371 := n4_; have GW371 := n5_; have GE371 := n6_; have NB361_371 := n7_; have NB371_361 := n8_; clear n0_ n1_ n2_ n3_ n4_ n5_ n6_ n7_ n8_; clear hb hbox hg; have hnb53 := NB371_361.out; have hnc53 := NB361_371.out; have hcz54_0 : w52.cell? ⟨gb371, 0, none⟩ = some (.int .i64 0) := (blk_cell BK371.out 0).trans rfl; have hcz54_1 : w52.cell? ⟨gb371, 1, none⟩ = some (.string (⟨#[]⟩ : ByteArray)) := (blk_cell BK371.out 1).trans rfl; have hcz54_2 : w52.cell? ⟨gb371, 2, none⟩ = some (.string (⟨#[]⟩ : ByteArray)) := (blk_cell BK371.out 2).trans rfl; have hcz54_3 : w52.cell? ⟨gb371, 3, none⟩ = some (.slice none 0 0) := (blk_cell BK371.out 3).trans rfl; have hcz54_4 : w52.cell? ⟨gb371, 4, none⟩ = some (.bool false) := (blk_cell BK371.out 4).trans rfl; have hfz54_0 := blk_frozen BK371.out 0; have hfz54_1 := blk_frozen BK371.out 1; have hfz54_2 := blk_frozen BK371.out 2; have hfz54_3 := blk_frozen BK371.out 3; have hfz54_4 := blk_frozen BK371.out 4; obtain ⟨Ao55, co55, eo55⟩ := Kd.R_slice HO367.out; subst eo55))
                            go_ret
                            exact ⟨by first | rfl | (simp [errW_none, errW_some] <;> rfl) | (simp [*, errW_none, errW_some] <;> rfl), by repeat (first | (with_reducible first | exact HB.out | apply below_alloc | apply pw_below_drewN | apply below_drew1 | refine below_set ?_ GE361.out | refine below_set ?_ GE371.out) | exact HB.out)⟩
                        · replace c24 := Bool.eq_false_iff.mpr c24
                          subst c24
                          have H1 : (some false) = some r := by rw [if_neg (show ¬ (false = true) by decide)] at H; exact H
                          clear H
                          have H := H1
                          clear H1
                          obtain rfl := Option.some.inj H
                          go_wp2_with (first | ((with_reducible refine gate_callee (f := 18) rfl ?_); refine goesL_ (some 56) rfl rfl Tryd.func18 (by kernel_rfl) rfl #[.string ((a0 ++ (a1.extract 0 (t359 : Int).toNat)) ++ a2), .int .i64 (a0.size : Int)] rfl (by (try simp only [List.map_toArray, List.map_cons, List.map_nil]); first | done | rfl | (simp only [List.length_drop, List.length_take]; rfl)) ?_; (with_reducible refine (tag_Read.calls ((a0 ++ (a1.extract 0 (t359 : Int).toNat)) ++ a2) (a0.size : Int) t362 t363 t364 t365 t368 t369 t370 _ ?side1 A23.out).mono ?_); (case side1 => first | (with_reducible exact HG.out) | exact Gl.below HG.out (by repeat (first | (with_reducible first | exact HB.out | apply below_alloc | apply pw_below_drewN | apply below_drew1 | refine below_set ?_ GE361.out) | exact HB.out)) | exact HG.out); rintro e w56 ⟨v366, rfl, ho0, hb⟩; refine ⟨_, rfl, ?_⟩; have n0_ := Aside0.mk (Kd.R_elder' (by (with_reducible repeat (first | apply Kd.R_alloc | apply Kd.R_drewN | apply Kd.R_drew)); exact HO_362003.out) (Kd.R_base ho0) hb); have n1_ := Aside0.mk (Kd.R_lower (Kd.R_new' ho0 (Kd.R_lt (by (with_reducible repeat (first | apply Kd.R_alloc | apply Kd.R_drewN | apply Kd.R_drew)); exact HO_362003.out))) (below_size (by repeat (first | (with_reducible first | exact HB.out | apply below_alloc | apply pw_below_drewN | apply below_drew1 | refine below_set ?_ GE361.out) | exact HB.out)))); have n2_ := Aside0.mk (blk_below (g := gb361) (o := .cells #[.int .i64 t352, .string t353, .string t354, .slice Ao16 t355.length co16, .bool t358] 39 (0, 0)) (by (with_reducible repeat (first | refine blk_drewN ?_ _ | refine blk_drew ?_ | refine blk_alloc ?_ _)); exact BK361.out) hb); have n3_ := Aside0.mk (below_step (by repeat (first | (with_reducible first | exact HB.out | apply below_alloc | apply pw_below_drewN | apply below_drew1 | refine below_set ?_ GE361.out) | exact HB.out)) hb); clear HO_362003; clear BK361; clear HB; have HO_362003 := n0_; have HO367 := n1_; have BK361 := n2_; have HB := n3_; clear n0_ n1_ n2_ n3_; (try clear hb); (try clear hb2); (try clear hk); (try clear hi); (try clear ho0)) | ((with_reducible refine gate_dst (N := 11) rfl ?_); (try (refine gate_guard (by rfl) ?_; dsimp only)); refine box_event ?hg (N := 11) ?hd (cs := #[.int .i64 0, .string (⟨#[]⟩ : ByteArray), .string (⟨#[]⟩ : ByteArray), .slice none 0 0, .bool false]) (t := 39) ?hr ?_; (case hd => rfl); (case hg => rfl); (case hr => first | (go_simp; done) | (go_simp; rfl)); intro gb371 hg w57 hbox hb; have n0_ := Aside0.mk (Kd.R_below (by (with_reducible repeat (first | apply Kd.R_alloc | apply Kd.R_drewN | apply Kd.R_drew)); exact HO_362003.out) hb); have n1_ := Aside0.mk (Kd.R_below (by (with_reducible repeat (first | apply Kd.R_alloc | apply Kd.R_drewN | apply Kd.R_drew)); exact HO367.out) hb); have n2_ := Aside0.mk (blk_below (g := gb361) (o := .cells #[.int .i64 t352, .string t353, .string t354, .slice Ao16 t355.length co16, .bool t358] 39 (0, 0)) (by (with_reducible repeat (first | refine blk_drewN ?_ _ | refine blk_drew ?_ | refine blk_alloc ?_ _)); exact BK361.out) hb); have n3_ := Aside0.mk (below_step (by repeat (first | (with_reducible first | exact HB.out | apply below_alloc | apply pw_below_drewN | apply below_drew1 | refine below_set ?_ GE361.out) | exact HB.out)) hb); have n4_ := Aside0.mk (hbox); have n5_ := Aside0.mk ((by rw [hg]; exact (below_size (by repeat (first | (with_reducible first | exact HB.out | apply below_alloc | apply pw_below_drewN | apply below_drew1 | refine below_set ?_ GE361.out) | exact HB.out))) : w.heap.size ≤ gb371)); have n6_ := Aside0.mk ((by rw [hg]; exact (below_size (by repeat (first | (with_reducible first | exact HB.out | apply below_alloc | apply pw_below_drewN | apply below_drew1 | refine below_set ?_ GE361.out) | exact HB.out))) : w.heap.size ≤ gb371)); have n7_ := Aside0.mk ((by rw [hg]; exact Nat.ne_of_lt (blk_lt (g := gb361) (o := .cells #[.int .i64 t352, .string t353, .string t354, .slice Ao16 t355.length co16, .bool t358] 39 (0, 0)) (by (with_reducible repeat (first | refine blk_drewN ?_ _ | refine blk_drew ?_ | refine blk_alloc ?_ _)); exact BK361.out)) : gb361 ≠ gb371)); have n8_ := Aside0.mk ((by rw [hg]; exact Nat.ne_of_gt (blk_lt (g := gb361) (o := .cells #[.int .i64 t352, .string t353, .string t354, .slice Ao16 t355.length co16, .bool t358] 39 (0, 0)) (by (with_reducible repeat (first | refine blk_drewN ?_ _ | refine blk_drew ?_ | refine blk_alloc ?_ _)); exact BK361.out)) : gb371 ≠ gb361)); clear HO_362003; clear HO367; clear BK361; clear HB; have HO_362003 := n0_; have HO367 := n1_; have BK361 := n2_; have HB := n3_; have BK371 := n4_; have GW371 := n5_; have GE371 := n6_; have NB361_371 := n7_; have NB371_361 := n8_; clear n0_ n1_ n2_ n3_ n4_ n5_ n6_ n7_ n8_; clear hb hbox hg; have hnb58 := NB371_361.out; have hnc58 := NB361_371.out; have hcz59_0 : w57.cell? ⟨gb371, 0, none⟩ = some (.int .i64 0) := (blk_cell BK371.out 0).trans rfl; have hcz59_1 : w57.cell? ⟨gb371, 1, none⟩ = some (.string (⟨#[]⟩ : ByteArray)) := (blk_cell BK371.out 1).trans rfl; have hcz59_2 : w57.cell? ⟨gb371, 2, none⟩ = some (.string (⟨#[]⟩ : ByteArray)) := (blk_cell BK371.out 2).trans rfl; have hcz59_3 : w57.cell? ⟨gb371, 3, none⟩ = some (.slice none 0 0) := (blk_cell BK371.out 3).trans rfl; have hcz59_4 : w57.cell? ⟨gb371, 4, none⟩ = some (.bool false) := (blk_cell BK371.out 4).trans rfl; have hfz59_0 := blk_frozen BK371.out 0; have hfz59_1 := blk_frozen BK371.out 1; have hfz59_2 := blk_frozen BK371.out 2; have hfz59_3 := blk_frozen BK371.out 3; have hfz59_4 := blk_frozen BK371.out 4; obtain ⟨Ao60, co60, eo60⟩ := Kd.R_slice HO367.out; subst eo60))
                          go_ret
                          exact ⟨by first | rfl | (simp [errW_none, errW_some] <;> rfl) | (simp [*, errW_none, errW_some] <;> rfl), by repeat (first | (with_reducible first | exact HB.out | apply below_alloc | apply pw_below_drewN | apply below_drew1 | refine below_set ?_ GE361.out | refine below_set ?_ GE371.out) | exact HB.out)⟩
                      · rw [if_neg c22] at H
                        exact absurd H (by simp)
                    · rw [if_neg c21] at H
                      exact absurd H (by simp)
                  · rw [if_neg c20] at H
                    exact absurd H (by simp)
                · rw [if_neg c19] at H
                  exact absurd H (by simp)
        · replace c11 := Bool.eq_false_iff.mpr c11
          subst c11
          have H1 : (some t351) = some r := by rw [if_neg (show ¬ (false = true) by decide)] at H; exact H
          clear H
          have H := H1
          clear H1
          obtain rfl := Option.some.inj H
          go_wp2_with (first | ((with_reducible refine gate_callee (f := 18) rfl ?_); refine goesL_ (some 31) rfl rfl Tryd.func18 (by kernel_rfl) rfl #[.string a1, .int .i64 0] rfl (by (try simp only [List.map_toArray, List.map_cons, List.map_nil]); first | done | rfl | (simp only [List.length_drop, List.length_take]; rfl)) ?_; (with_reducible refine (tag_Read.calls a1 0 t352 t353 t354 t355 t358 t359 false _ ?side1 A10.out).mono ?_); (case side1 => first | (with_reducible exact HG.out) | exact Gl.below HG.out (by repeat (first | (with_reducible first | exact HB.out | apply below_alloc | apply pw_below_drewN | apply below_drew1) | exact HB.out)) | exact HG.out); rintro e w61 ⟨v356, rfl, ho0, hb⟩; refine ⟨_, rfl, ?_⟩; have n0_ := Aside0.mk (Kd.R_lower ho0 (below_size (by repeat (first | (with_reducible first | exact HB.out | apply below_alloc | apply pw_below_drewN | apply below_drew1) | exact HB.out)))); have n1_ := Aside0.mk (below_step (by repeat (first | (with_reducible first | exact HB.out | apply below_alloc | apply pw_below_drewN | apply below_drew1) | exact HB.out)) hb); clear HB; have HO357 := n0_; have HB := n1_; clear n0_ n1_; (try clear hb); (try clear hb2); (try clear hk); (try clear hi); (try clear ho0)) | ((with_reducible refine gate_dst (N := 8) rfl ?_); (try (refine gate_guard (by rfl) ?_; dsimp only)); refine box_event ?hg (N := 8) ?hd (cs := #[.int .i64 0, .string (⟨#[]⟩ : ByteArray), .string (⟨#[]⟩ : ByteArray), .slice none 0 0, .bool false]) (t := 39) ?hr ?_; (case hd => rfl); (case hg => rfl); (case hr => first | (go_simp; done) | (go_simp; rfl)); intro gb361 hg w62 hbox hb; have n0_ := Aside0.mk (Kd.R_below (by (with_reducible repeat (first | apply Kd.R_alloc | apply Kd.R_drewN | apply Kd.R_drew)); exact HO357.out) hb); have n1_ := Aside0.mk (below_step (by repeat (first | (with_reducible first | exact HB.out | apply below_alloc | apply pw_below_drewN | apply below_drew1) | exact HB.out)) hb); have n2_ := Aside0.mk (hbox); have n3_ := Aside0.mk ((by rw [hg]; exact (below_size (by repeat (first | (with_reducible first | exact HB.out | apply below_alloc | apply pw_below_drewN | apply below_drew1) | exact HB.out))) : w.heap.size ≤ gb361)); have n4_ := Aside0.mk ((by rw [hg]; exact (below_size (by repeat (first | (with_reducible first | exact HB.out | apply below_alloc | apply pw_below_drewN | apply below_drew1) | exact HB.out))) : w.heap.size ≤ gb361)); clear HO357; clear HB; have HO357 := n0_; have HB := n1_; have BK361 := n2_; have GW361 := n3_; have GE361 := n4_; clear n0_ n1_ n2_ n3_ n4_; clear hb hbox hg; have hcz63_0 : w62.cell? ⟨gb361, 0, none⟩ = some (.int .i64 0) := (blk_cell BK361.out 0).trans rfl; have hcz63_1 : w62.cell? ⟨gb361, 1, none⟩ = some (.string (⟨#[]⟩ : ByteArray)) := (blk_cell BK361.out 1).trans rfl; have hcz63_2 : w62.cell? ⟨gb361, 2, none⟩ = some (.string (⟨#[]⟩ : ByteArray)) := (blk_cell BK361.out 2).trans rfl; have hcz63_3 : w62.cell? ⟨gb361, 3, none⟩ = some (.slice none 0 0) := (blk_cell BK361.out 3).trans rfl; have hcz63_4 : w62.cell? ⟨gb361, 4, none⟩ = some (.bool false) := (blk_cell BK361.out 4).trans rfl; have hfz63_0 := blk_frozen BK361.out 0; have hfz63_1 := blk_frozen BK361.out 1; have hfz63_2 := blk_frozen BK361.out 2; have hfz63_3 := blk_frozen BK361.out 3; have hfz63_4 := blk_frozen BK361.out 4; obtain ⟨Ao64, co64, eo64⟩ := Kd.R_slice HO357.out; subst eo64))
          go_ret
          exact ⟨by first | rfl | (simp [errW_none, errW_some] <;> rfl) | (simp [*, errW_none, errW_some] <;> rfl), by repeat (first | (with_reducible first | exact HB.out | apply below_alloc | apply pw_below_drewN | apply below_drew1 | refine below_set ?_ GE361.out) | exact HB.out)⟩

/-- THE ONE PURE STATEMENT of flaillaw09_TagRest: yours. -/
def flaillaw09_TagRest.Pure : Prop := ∀ (a0 : ByteArray) (a1 : ByteArray) (a2 : ByteArray), a0.size ≤ 140737488351232 → a1.size ≤ 140737488351232 → a2.size ≤ 140737488351232 → ∃ k, flaillaw09_TagRest.f k a0 a1 a2 = some true
theorem flaillaw09_TagRest.walk (P : flaillaw09_TagRest.Pure) (a0 : ByteArray) (a1 : ByteArray) (a2 : ByteArray) (w : World) (hG : Gl w) (w0 : a0.size ≤ 140737488351232) (w1 : a1.size ≤ 140737488351232) (w2 : a2.size ≤ 140737488351232) :
    Calls Tryd.prog 10 #[.string a0, .string a1, .string a2] w fun e w' => e = .returned (.bool true) ∧ Below w.heap.size w w' := by
  obtain ⟨k, h⟩ := P a0 a1 a2 w0 w1 w2
  refine (flaillaw09_TagRest.calls k a0 a1 a2 true w hG h).mono ?_
  rintro e w' ⟨rfl, hd⟩
  exact ⟨rfl, hd⟩

end Go.Proofs.YtfhjfidkcdcjnaaDoor.Q

/- TagRest: the pure statement. -/
namespace Go.Proofs.YtfhjfidkcdcjnaaDoor.Pure
open Go Go.RowKit Go.Proofs.YtfhjfidkcdcjnaaDoor.Q Go.Proofs.YtfhjfidkcdcjnaaDoorW.PrintWords Go.Proofs.YtfhjfidkcdcjnaaDoorW.PrintLast Go.Proofs.YtfhjfidkcdcjnaaDoorW.PrintMore
set_option linter.unusedVariables false
set_option linter.unusedSimpArgs false

theorem tag_count {l : Fl.Bs} {t : Fl.Tag} (hn : Fl.nameL l ≠ 0) (h : Fl.tagL l = some t) : t.attrs.length ≤ l.length := by
  obtain ⟨x, r, hx, ⟨_, rfl⟩ | ⟨_, rfl⟩⟩ := Fl.nameL_form hn
  · rw [Fl.tagL_one hx] at h
    obtain ⟨⟨as_, b, r2⟩, h1, rfl⟩ := Option.map_eq_some_iff.1 h
    have h2 := Fl.readL_count h1
    have h3 : (r.dropWhile Fl.nm).length ≤ r.length := (List.dropWhile_suffix _).length_le
    simp only [List.length_cons]; omega
  · rw [Fl.tagL_two hx] at h
    obtain ⟨⟨as_, b, r2⟩, h1, rfl⟩ := Option.map_eq_some_iff.1 h
    simp
theorem le_big {n : Nat} (h : n < 4294967296) : n ≤ 9223372036854775807 := Nat.le_trans (Nat.le_of_lt h) (Nat.le_of_ble_eq_true rfl)
theorem rest_j1 (a s m : ByteArray) (ha : a.size ≤ 300) (hs : s.size ≤ 300) (hm : m.size ≤ 300) (t : Fl.Tag) (p : Fl.Bs) (hp : Fl.toL s = p ++ 62 :: t.rest) (hn : Fl.nameL (Fl.toL s) ≠ 0)
    (hloc : ∀ more, Fl.nameL (p ++ 62 :: more) = Fl.nameL (Fl.toL s) ∧ Fl.tagL (p ++ 62 :: more) = some { t with rest := more }) (hcount : t.attrs.length ≤ s.size) :
    Ev (fun k => flaillaw09_TagRest.j1 k a s m true ((p.length + 1 : Nat) : Int) false (t.kind : Int) (Fl.ofL t.name) ⟨#[]⟩ (t.attrs.map toS) t.self) true := by
  have hsz : s.size = p.length + 1 + t.rest.length := by
    have := congrArg List.length hp
    rw [Fl.toL_length] at this; simp at this; omega
  obtain ⟨A, hA⟩ : ∃ A, (a ++ s.extract 0 (p.length + 1)) ++ m = A := ⟨_, rfl⟩
  have hAl : Fl.toL A = Fl.toL a ++ (p ++ 62 :: Fl.toL m) := by
    rw [← hA, toL_append, toL_append, toL_extract0, hp, List.append_assoc]
    congr 1
    rw [show p ++ 62 :: t.rest = (p ++ [62]) ++ t.rest by simp, List.take_left' (by simp)]
    simp
  have hAs : A.size = a.size + (p.length + 1 + m.size) := by
    have := congrArg List.length hAl
    rw [Fl.toL_length, List.length_append, List.length_append, List.length_cons, Fl.toL_length, Fl.toL_length] at this
    omega
  have hdrop : (Fl.toL A).drop a.size = p ++ 62 :: Fl.toL m := by
    rw [hAl, ← Fl.toL_length a, List.drop_left]
  have hrd := tag_in (s := A) (i := a.size) (by omega) (by omega) (by rw [hdrop, (hloc (Fl.toL m)).1]; exact hn)
  rw [hdrop, (hloc (Fl.toL m)).2] at hrd
  simp only [Fl.toL_length] at hrd
  rw [show A.size - m.size = a.size + (p.length + 1) by omega] at hrd
  have hbg := tag_begins (s := a ++ s) (i := a.size) (by rw [ByteArray.size_append]; omega) (by rw [ByteArray.size_append]; omega)
  rw [toL_append, ← Fl.toL_length a, List.drop_left, Fl.toL_length, decide_eq_true hn] at hbg
  have hsame := same9_ev (t.kind : Int) (Fl.ofL t.name) ⟨#[]⟩ (t.attrs.map toS) t.self (by rw [List.length_map]; omega)
  have hw : wrap64 ((a.size : Int) + ((p.length + 1 : Nat) : Int)) = ((a.size + (p.length + 1) : Nat) : Int) := by rw [Fl.wrap_in _ (by omega) (by omega)]; omega
  refine Ev.step (f := fun k => (flailref09_Same.f k (t.kind : Int) (Fl.ofL t.name) ⟨#[]⟩ (t.attrs.map toS) t.self (t.kind : Int) (Fl.ofL t.name) ⟨#[]⟩ (t.attrs.map toS) t.self).bind fun x => if x = true then some true else some false) (fun k => ?_) ?_
  · simp only [flaillaw09_TagRest.j1]
    rw [if_neg (by simp), if_pos (by omega), if_pos (by omega), Int.toNat_natCast, if_pos (le_big (by rw [ByteArray.size_extract]; omega)), if_pos (le_big (by rw [ByteArray.size_append, ByteArray.size_extract]; omega)), hA, hrd, hw]
    simp only [Option.bind_some]
    rw [if_pos trivial, if_pos trivial, if_pos trivial, if_pos (le_big (by omega)), hbg]
    rfl
  · exact Ev.bind (f := fun _ x => if x = true then some true else some false) hsame (Ev.now true)
theorem TagRest : flaillaw09_TagRest.Pure := by
  intro a s m _ _ _
  apply Ev.rounds
  unfold flaillaw09_TagRest.f
  refine Ev.bind awake9_ev ?_
  have hout : Ev (fun k => flaillaw09_TagRest.j0 k a s m true true) true := by
    refine Ev.step (f := fun k => some true) (fun k => ?_) (Ev.now true)
    simp only [flaillaw09_TagRest.j0]
    rw [if_pos trivial]
  by_cases ha : (a.size : Int) > 300
  · simp only [if_pos ha]; exact hout
  · simp only [if_neg ha]
    by_cases hs : (s.size : Int) > 300
    · simp only [if_pos hs]; exact hout
    · simp only [if_neg hs]
      by_cases hm : (m.size : Int) > 300
      · rw [decide_eq_true hm]; exact hout
      · rw [decide_eq_false hm]
        have hread := tag_in (s := s) (i := 0) (by omega) (by omega)
        have hread0 := tag_out (s := s) (i := 0) (by omega) (by omega)
        rw [List.drop_zero] at hread hread0
        by_cases hn : Fl.nameL (Fl.toL s) = 0
        · refine Ev.step (f := fun k => some true) (fun k => ?_) (Ev.now true)
          simp only [flaillaw09_TagRest.j0]
          rw [show (0 : Int) = ((0 : Nat) : Int) from rfl, hread0 hn]
          simp
        · have hread := hread hn
          cases hT : Fl.tagL (Fl.toL s) with
          | none =>
            rw [hT] at hread
            refine Ev.step (f := fun k => some true) (fun k => ?_) (Ev.now true)
            simp only [flaillaw09_TagRest.j0]
            rw [show (0 : Int) = ((0 : Nat) : Int) from rfl, hread]
            simp
          | some t =>
            rw [hT] at hread
            simp only at hread
            obtain ⟨p, hp, hp2, hloc⟩ := Fl.tagL_local hn hT
            have hcount := tag_count hn hT
            rw [Fl.toL_length] at hcount
            have hsz : s.size = p.length + 1 + t.rest.length := by
              have := congrArg List.length hp
              rw [Fl.toL_length] at this; simp at this; omega
            rw [show s.size - t.rest.length = p.length + 1 by omega] at hread
            have hj1 := rest_j1 a s m (by omega) (by omega) (by omega) t p hp hn hloc hcount
            refine Ev.step (f := fun k => flaillaw09_TagRest.j1 k a s m true ((p.length + 1 : Nat) : Int) false (t.kind : Int) (Fl.ofL t.name) ⟨#[]⟩ (t.attrs.map toS) t.self) (fun k => ?_) hj1
            simp only [flaillaw09_TagRest.j0]
            rw [if_neg (by simp), show (0 : Int) = ((0 : Nat) : Int) from rfl, hread]
            simp only [Option.bind_some]
            rw [if_pos trivial, if_neg (by omega), decide_eq_false (by omega)]
end Go.Proofs.YtfhjfidkcdcjnaaDoor.Pure

/- The law TagRest: its row and its card. -/
namespace Go.Proofs.YtfhjfidkcdcjnaaDoor.tagRest
open Go.ChangeShapes Go.WideShapes Go.ChangeAt Go.RowKit
open Go.ChangeMaps (open_string shut_string)
set_option linter.unusedVariables false
set_option maxRecDepth 100000 in
theorem lifted (os : Os) (started : os.Started) (H : Type) (enc : TypeId × Value → H) :
    ReturnsInHanded {} Tryd.checked os 10 .any (fun w args => (Rows.tagRestSpec.pre enc Tryd.prog Tryd.f10 Rows.tagRestRow.domain false w args ∧ laidMetH Tryd.prog laid7 w) ∧ sizedMet enc Tryd.prog Tryd.f10 (OpenSpec.ofChange Rows.tagRestSpec) false w args) (Rows.tagRestSpec.post enc Tryd.prog Tryd.f10 false true false false) := by
  refine row_returns started (by kernel_rfl) Tryd.func10 #[.string ByteArray.empty, .string ByteArray.empty, .string ByteArray.empty] (by kernel_rfl) (by kernel_rfl) (by kernel_rfl) ?_
  intro W base args ds gs before hval0 hW hsz0 hG
  have hsz : (DataW.weightsEach Tryd.prog (Tryd.f10.params.toList ++ Rows.tagRestSpec.plain.varTypes Tryd.prog) (ds ++ gs)).all (· ≤ reachBytes) = true := hsz0
  have hval : ∀ (j : Nat) t v, Tryd.f10.params[j]? = some t → args[j]? = some v → Value.okWide Tryd.prog W .any base t v := hval0
  have hW' := hW
  obtain ⟨p, q, hA0, hV, rfl, hfz, hnd⟩ := hW
  have hA : DataW.TrodAll enc Tryd.prog W 0 (fun _ => true) true Tryd.f10.params.toList args.toList ds p := hA0
  rw [Tryd.params10] at hA hval hsz
  obtain ⟨v0, vs0, d0, ds0, p0, q0, hargs, rfl, rfl, h0, r0⟩ := trodAll_cons hA
  obtain ⟨v1, vs1, d1, ds1, p1, q1, rfl, rfl, rfl, h1, r1⟩ := trodAll_cons r0
  obtain ⟨v2, vs2, d2, ds2, p2, q2, rfl, rfl, rfl, h2, r2⟩ := trodAll_cons r1
  obtain ⟨rfl, rfl, rfl⟩ := trodAll_nil r2
  obtain rfl : args = #[v0, v1, v2] := by cases args; simp_all
  obtain ⟨rfl, rfl⟩ := trodVars_none hV
  obtain ⟨a0, rfl, rfl, rfl, y0⟩ := open_string Tryd.underlying9 (hval 0 9 v0 rfl rfl) h0
  have w0 : a0.size ≤ 140737488351232 := by
    have z := sized_string hsz (j := 0) (t := 9) rfl rfl
    rw [Array.length_toList] at z
    exact z
  obtain ⟨a1, rfl, rfl, rfl, y1⟩ := open_string Tryd.underlying9 (hval 1 9 v1 rfl rfl) h1
  have w1 : a1.size ≤ 140737488351232 := by
    have z := sized_string hsz (j := 1) (t := 9) rfl rfl
    rw [Array.length_toList] at z
    exact z
  obtain ⟨a2, rfl, rfl, rfl, y2⟩ := open_string Tryd.underlying9 (hval 2 9 v2 rfl rfl) h2
  have w2 : a2.size ≤ 140737488351232 := by
    have z := sized_string hsz (j := 2) (t := 9) rfl rfl
    rw [Array.length_toList] at z
    exact z
  clear hA0 hval0 hsz0 hsz
  refine (Q.flaillaw09_TagRest.walk Pure.TagRest a0 a1 a2 W hG w0 w1 w2).mono fun e W' ⟨he, bel⟩ => ?_
  subst he
  exact ⟨_, rfl, _, _, _, [], _, [], hW', trodAll_mk1 (shut_bool Tryd.underlying4 _), (trodAll_cons_mk (shut_string Tryd.underlying9 y0) (trodAll_cons_mk (shut_string Tryd.underlying9 y1) (trodAll_cons_mk (shut_string Tryd.underlying9 y2) trodAll_mk0))), rfl, bel.frame _, fun h => by cases h⟩
theorem over : Rows.tagRestRow.holds Tryd.pinned (OpenSpec.ofChange Rows.tagRestSpec) :=
  OpenClaim.holds_of_wide 10 Tryd.f10 rfl rfl rfl rfl rfl rfl rfl ⟨rfl, rfl, rfl, rfl, rfl⟩ rfl rfl rfl rfl rfl (by kernel_rfl) Tryd.func10 (by kernel_rfl)
    (of_decide_eq_true (by kernel_rfl)) (by unfold Func.isWrapper; first | (rw [if_pos (by decide +kernel)]; kernel_rfl) | (rw [if_neg (by decide +kernel)]; exact ⟨rfl, rfl⟩))
    (fun os started H enc _ => lifted os started H enc)
theorem proved : Rows.TagRestCardSaid :=
  Claim7.holds_tied_plain_at .later [] [.data, .data, .data, .data, .sentinel, .sentinel, .pinned] true Rows.tagRestCard.stood.harness true over (fun _ h => by cases h) (by kernel_rfl) (fun _ h => by cases h) tagRest_row_tie rfl ⟨rfl, rfl⟩ (by kernel_rfl) rfl
    (card_in 10 Tryd.func10 (by kernel_rfl) [9, 9, 9] Tryd.params10 (by kernel_rfl) (by kernel_rfl)) (by kernel_rfl)
end Go.Proofs.YtfhjfidkcdcjnaaDoor.tagRest
namespace Go.Proofs.YtfhjfidkcdcjnaaDoor
theorem tagRest_holds : Rows.TagRestCardSaid := tagRest.proved
#print axioms tagRest_holds
end Go.Proofs.YtfhjfidkcdcjnaaDoor
