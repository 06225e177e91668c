/- The law TagWritten, proved whole (for every input, as the given card says; no condition beyond it): its row and its card, and what they lean on. -/
import Derived.Test.YtfhjfidkcdcjnaaDoorB3
import Derived.Maps.StringElems
import Derived.WalkMore
import Derived.BigQuiet
set_option linter.unusedVariables false
set_option linter.unusedSimpArgs false
set_option linter.unusedSectionVars false

namespace Go.Proofs.YtfhjfidkcdcjnaaDoor.Q
open Go.RowKit Go.Proofs.YtfhjfidkcdcjnaaDoorW.PrintWords Go.Proofs.YtfhjfidkcdcjnaaDoorW.PrintLast Go.Proofs.YtfhjfidkcdcjnaaDoorW.PrintMore
attribute [local go_sem] max2_int min2_int max_two min_two max_three min_three max_four min_four   -- for this text's walks alone
set_option linter.unusedVariables false
set_option linter.unusedSimpArgs false

/-! ### tag_place_letter: function 43 -/
noncomputable def tag_place_letter.f (a0_0 : ByteArray) (a0_1 : Int) (a1 : Int) : Option (Bool) := if (wrap64 (a0_1 + a1)) < (a0_0.size : Int) then (if 0 ≤ (wrap64 (a0_1 + a1)) then ((sign_Letter.f (bt a0_0 (wrap64 (a0_1 + a1)))).bind fun t149 => (some t149)) else (none)) else (some false)
set_option maxHeartbeats 8000000 in
set_option maxRecDepth 100000 in
theorem tag_place_letter.calls (a0_0 : ByteArray) (a0_1 : Int) (a1 : Int) (r : Bool) (w : World) (h : tag_place_letter.f a0_0 a0_1 a1 = some r) :
    Calls Tryd.prog 43 #[.agg #[.string a0_0, .int .i64 a0_1], .int .i64 a1] w fun e w' => e = .returned (.bool r) ∧ Below w.heap.size w w' := by
  have hu62 := Tryd.underlying62
  have HB := Aside0.mk (Below.refl w.heap.size w)
  have H : (if (wrap64 (a0_1 + a1)) < (a0_0.size : Int) then (if 0 ≤ (wrap64 (a0_1 + a1)) then ((sign_Letter.f (bt a0_0 (wrap64 (a0_1 + a1)))).bind fun t149 => (some t149)) else (none)) else (some false)) = some r := h
  clear h
  by_cases c3 : (wrap64 (a0_1 + a1)) < (a0_0.size : Int)
  · rw [if_pos c3] at H
    have c3b0 : decide ((wrap64 (a0_1 + a1)) < (a0_0.size : Int)) = true := decide_eq_true c3
    (try (have c3b1 : decide (((a0_1 + a1)) < (a0_0.size : Int)) = true := by have h_ := c3; rw [IntWalk.wrap64_in (a0_1 + a1) ⟨by omega, by omega⟩] at h_; exact decide_eq_true h_))
    (try (have c3b2 : (((a0_1 + a1)) < (a0_0.size : Int)) = True := eq_true (by have h_ := c3; rw [IntWalk.wrap64_in (a0_1 + a1) ⟨by omega, by omega⟩] at h_; exact h_)))
    (try (have c3b3 : ((a0_0.size : Int) ≤ ((a0_1 + a1))) = False := eq_false (Int.not_le.2 (by have h_ := c3; rw [IntWalk.wrap64_in (a0_1 + a1) ⟨by omega, by omega⟩] at h_; exact h_))))
    clear c3
    obtain ⟨ji4, hji4⟩ : ∃ j_ : Int, (wrap64 (a0_1 + a1)) = j_ := ⟨_, rfl⟩
    replace H : (if 0 ≤ (ji4) then ((sign_Letter.f (bt a0_0 (ji4))).bind fun t149 => (some t149)) else (none)) = some r := by first | (rw [hji4] at H; exact H) | (simp only [hji4] at H ⊢; exact H)
    (try rw [hji4] at c3b0)
    have hji4w : (IntKind.i64.wrap (a0_1 + a1)) = ji4 := (i64_w _).trans hji4
    by_cases c5 : 0 ≤ (ji4)
    · rw [if_pos c5] at H
      have c5b0 : decide (0 ≤ (ji4)) = true := decide_eq_true c5
      clear c5
      replace H := Option.bind_eq_some_iff.mp H
      obtain ⟨t149, A70, H⟩ := H
      replace H : (some t149) = some r := H
      have A7 := Aside0.mk A70
      clear A70
      obtain rfl := Option.some.inj H
      go_enter Tryd.func43, Tryd.ntmps43
      go_wp2_with (first | ((with_reducible refine gate_dst (N := 2) rfl ?_); refine box_event ?hg (N := 2) ?hd (cs := #[.string a0_0, .int .i64 a0_1]) (t := 62) ?hr ?_; (case hd => rfl); (case hg => rfl); (case hr => first | (go_simp; done) | (go_simp; rfl)); intro gb148 hg w8 hbox hb; have n0_ := Aside0.mk (below_step (by repeat (first | (with_reducible first | exact HB.out | apply below_alloc | apply pw_below_drewN | apply below_drew1) | exact HB.out)) hb); have n1_ := Aside0.mk (hbox); have n2_ := Aside0.mk ((by rw [hg]; exact (below_size (by repeat (first | (with_reducible first | exact HB.out | apply below_alloc | apply pw_below_drewN | apply below_drew1) | exact HB.out))) : w.heap.size ≤ gb148)); have n3_ := Aside0.mk ((by rw [hg]; exact (below_size (by repeat (first | (with_reducible first | exact HB.out | apply below_alloc | apply pw_below_drewN | apply below_drew1) | exact HB.out))) : w.heap.size ≤ gb148)); clear HB; have HB := n0_; have BK148 := n1_; have GW148 := n2_; have GE148 := n3_; clear n0_ n1_ n2_ n3_; clear hb hbox hg; have hcz9_0 : w8.cell? ⟨gb148, 0, none⟩ = some (.string a0_0) := (blk_cell BK148.out 0).trans rfl; have hcz9_1 : w8.cell? ⟨gb148, 1, none⟩ = some (.int .i64 a0_1) := (blk_cell BK148.out 1).trans rfl; have hfz9_0 := blk_frozen BK148.out 0; have hfz9_1 := blk_frozen BK148.out 1; have p6 : 0 ≤ ((ji4) : Int) := of_decide_eq_true (by first | (with_reducible assumption) | assumption); have q6 : (ji4) < (a0_0.size : Int) := of_decide_eq_true (by first | (with_reducible assumption) | assumption); have hx6 := bt_at a0_0 (ji4); replace p6 := eq_true p6; replace q6 := eq_true q6) | (go_at_call 53; (with_reducible refine (sign_Letter.calls (bt a0_0 (ji4)) t149 _ A7.out).mono ?_); rintro e w' ⟨rfl, ⟨nd, rfl⟩⟩))
      go_ret
      exact ⟨by first | rfl | (simp [errW_none, errW_some] <;> rfl) | (simp only [← hji4]; first | rfl | (simp [errW_none, errW_some] <;> rfl)) | (simp [*, errW_none, errW_some] <;> rfl), by repeat (first | (with_reducible first | exact HB.out | apply below_alloc | apply pw_below_drewN | apply below_drew1 | refine below_set ?_ GE148.out) | exact HB.out)⟩
    · rw [if_neg c5] at H
      exact absurd H (by simp)
  · rw [if_neg c3] at H
    have c3b0 : decide ((wrap64 (a0_1 + a1)) < (a0_0.size : Int)) = false := decide_eq_false c3
    (try (have c3b1 : decide (((a0_1 + a1)) < (a0_0.size : Int)) = false := by have h_ := c3; rw [IntWalk.wrap64_in (a0_1 + a1) ⟨by omega, by omega⟩] at h_; exact decide_eq_false h_))
    (try (have c3b2 : (((a0_1 + a1)) < (a0_0.size : Int)) = False := eq_false (by have h_ := c3; rw [IntWalk.wrap64_in (a0_1 + a1) ⟨by omega, by omega⟩] at h_; exact h_)))
    (try (have c3b3 : ((a0_0.size : Int) ≤ ((a0_1 + a1))) = True := eq_true (Int.not_lt.1 (by have h_ := c3; rw [IntWalk.wrap64_in (a0_1 + a1) ⟨by omega, by omega⟩] at h_; exact h_))))
    clear c3
    obtain rfl := Option.some.inj H
    go_enter Tryd.func43, Tryd.ntmps43
    go_wp2_with (first | ((with_reducible refine gate_dst (N := 2) rfl ?_); refine box_event ?hg (N := 2) ?hd (cs := #[.string a0_0, .int .i64 a0_1]) (t := 62) ?hr ?_; (case hd => rfl); (case hg => rfl); (case hr => first | (go_simp; done) | (go_simp; rfl)); intro gb148 hg w10 hbox hb; have n0_ := Aside0.mk (below_step (by repeat (first | (with_reducible first | exact HB.out | apply below_alloc | apply pw_below_drewN | apply below_drew1) | exact HB.out)) hb); have n1_ := Aside0.mk (hbox); have n2_ := Aside0.mk ((by rw [hg]; exact (below_size (by repeat (first | (with_reducible first | exact HB.out | apply below_alloc | apply pw_below_drewN | apply below_drew1) | exact HB.out))) : w.heap.size ≤ gb148)); have n3_ := Aside0.mk ((by rw [hg]; exact (below_size (by repeat (first | (with_reducible first | exact HB.out | apply below_alloc | apply pw_below_drewN | apply below_drew1) | exact HB.out))) : w.heap.size ≤ gb148)); clear HB; have HB := n0_; have BK148 := n1_; have GW148 := n2_; have GE148 := n3_; clear n0_ n1_ n2_ n3_; clear hb hbox hg; have hcz11_0 : w10.cell? ⟨gb148, 0, none⟩ = some (.string a0_0) := (blk_cell BK148.out 0).trans rfl; have hcz11_1 : w10.cell? ⟨gb148, 1, none⟩ = some (.int .i64 a0_1) := (blk_cell BK148.out 1).trans rfl; have hfz11_0 := blk_frozen BK148.out 0; have hfz11_1 := blk_frozen BK148.out 1))
    go_ret
    exact ⟨by first | rfl | (simp [errW_none, errW_some] <;> rfl) | (simp [*, errW_none, errW_some] <;> rfl), by repeat (first | (with_reducible first | exact HB.out | apply below_alloc | apply pw_below_drewN | apply below_drew1 | refine below_set ?_ GE148.out) | exact HB.out)⟩

end Go.Proofs.YtfhjfidkcdcjnaaDoor.Q

/- '(tag.place).name': how many bytes are ahead of a tag's name: the walk, through a map of two entries. -/
namespace Go.Proofs.YtfhjfidkcdcjnaaDoor.Fl
open Go
def headLetter : Bs → Bool
  | d :: _ => letter d
  | [] => false
/-- How many bytes are ahead of a tag's name; 0: there is none. -/
def nameL (l : Bs) : Nat := match l with
  | [] => 0
  | c :: r => if c = 60 then (if headLetter r = true then 1 else if headIs 47 r = true ∧ headLetter (r.drop 1) = true then 2 else 0) else 0
end Go.Proofs.YtfhjfidkcdcjnaaDoor.Fl
namespace Go.Proofs.YtfhjfidkcdcjnaaDoor.Q
open Go.RowKit Go.Maps Go.Proofs.YtfhjfidkcdcjnaaDoorW.PrintWords Go.Proofs.YtfhjfidkcdcjnaaDoorW.PrintLast Go.Proofs.YtfhjfidkcdcjnaaDoorW.PrintMore
set_option linter.unusedVariables false
set_option linter.unusedSimpArgs false

theorem wpList_insert_own {H : Type} {P : Program} (w : World) {ops : Array Oper} {rest : List Oper} {o : Oper} {a : Act} {Q : Exit → Act → World → Prop}
    (hg : o.guard = none) (m x v : Operand) (t : TypeId) (hop : o.op = Op.insert t m x v)
    (k e : TypeId) (K : Keyed P k) (ht : P.underlying t = some (.map k e)) (R : Value → Option (DataW H × List MemPlace)) (b n : Nat) (D : DataW H)
    (hm : a.eval m = .map (some b)) (hown : w.ownsMap P k R b n D) (hn : n < maxLen) (key val : Value) (kl : Lit) (hx : a.eval x = key) (hv : a.eval v = val) (hkey : keyOf P k key = some kl)
    (d : DataW H) (ps : List MemPlace) (hval : R val = some (d, ps))
    (hK : ∀ w', w'.ownsMap P k R b (n + 1) (D.put kl d) → w.grownBy w' (some b) → wpList P ops Q rest (a.put o.dst undef) w') :
    wpList P ops Q (o :: rest) a w := by
  refine wpList_plain hg fun K' hK' => ?_
  obtain ⟨w', hrun, r1, r2⟩ := hown.update K ht hn hkey hval
  unfold Oper.wp
  simp [execOp, hop, hm, hx, hv, hrun, Result.andThen]
  exact hK' _ _ (hK w' r1 r2)

def D2 : DataW Nat := ((DataW.map []).put (.int .i64 1) (.lit (.string [60]))).put (.int .i64 2) (.lit (.string [60, 47]))
theorem D2_eq : D2 = .map [(.int .i64 1, .lit (.string [60])), (.int .i64 2, .lit (.string [60, 47]))] := by rfl
theorem D2_has (x : Int) (h : Maps.has D2 (.int .i64 x) = true) : x = 1 ∨ x = 2 := by
  rw [D2_eq] at h
  simp [Maps.has, Lit.sameKey] at h
  omega
theorem strike1 (left : Lit → Bool) : (left (.int .i64 1) && !(Lit.int .i64 1).sameKey (.int .i64 2)) = left (.int .i64 1) := by
  rw [show (Lit.int .i64 1).sameKey (.int .i64 2) = false from by decide]; simp
theorem strike2 (left : Lit → Bool) : (left (.int .i64 2) && !(Lit.int .i64 2).sameKey (.int .i64 1)) = left (.int .i64 2) := by
  rw [show (Lit.int .i64 2).sameKey (.int .i64 1) = false from by decide]; simp
theorem D2_at1 (zd : DataW Nat) : D2.atKey (.int .i64 1) zd = .lit (.string [60]) := by rfl
theorem D2_at2 (zd : DataW Nat) : D2.atKey (.int .i64 2) zd = .lit (.string [60, 47]) := by rfl

set_option maxHeartbeats 4000000 in
set_option maxRecDepth 100000 in
theorem name_walk (s : ByteArray) (i : Int) (b1 b2 l1 l2 : Bool) (w : World)
    (h1 : sign_Begins.f s i ⟨#[60]⟩ = some b1) (h2 : sign_Begins.f s i ⟨#[60, 47]⟩ = some b2)
    (g1 : b1 = true → tag_place_letter.f s i 1 = some l1) (g2 : b2 = true → tag_place_letter.f s i 2 = some l2) (R : Int) (q1 : (b1 && l1) = true → R = 1) (q2 : (b2 && l2) = true → R = 2) (q0 : (b1 && l1) = false → (b2 && l2) = false → R = 0) :
    Calls Tryd.prog 33 #[.agg #[.string s, .int .i64 i]] w fun e w' => e = .returned (.int .i64 R) ∧ Below w.heap.size w w' := by
  have hmk := fun W => run_makeMap (P := Tryd.prog) 77 W
  have K : Keyed Tryd.prog 3 := int_keyed Tryd.underlying3
  have hw0 := (Below.refl w.heap.size w).alloc (Nat.le_refl _) (.cells #[.string s, .int .i64 i] 62)
  have hown0 := World.ownsMap_made (H := Nat) (w.alloc (.cells #[.string s, .int .i64 i] 62)) Tryd.prog 3 (plainElem Tryd.prog 9)
  rw [show (w.alloc (.cells #[.string s, .int .i64 i] 62)).heap.size = w.heap.size + 1 by simp] at hown0
  have hk1 : keyOf Tryd.prog 3 (.int .i64 1) = some (.int .i64 1) := keyOf_int_mk Tryd.underlying3 (by decide)
  have hk2 : keyOf Tryd.prog 3 (.int .i64 2) = some (.int .i64 2) := keyOf_int_mk Tryd.underlying3 (by decide)
  have he1 : plainElem (H := Nat) Tryd.prog 9 (.string ⟨#[60]⟩) = some (.lit (.string [60]), []) := plainElem_string Tryd.underlying9 (by decide)
  have he2 : plainElem (H := Nat) Tryd.prog 9 (.string ⟨#[60, 47]⟩) = some (.lit (.string [60, 47]), []) := plainElem_string Tryd.underlying9 (by decide)
  have Hown0 := Lib.hid hown0
  have HK := Lib.hid K
  have Hk1 := Lib.hid hk1
  have Hk2 := Lib.hid hk2
  have He1 := Lib.hid he1
  have He2 := Lib.hid he2
  clear hown0 K hk1 hk2 he1 he2
  go_enter Tryd.func33, Tryd.ntmps33
  go_wp2_with (first
    | (refine wpList_insert_own _ rfl _ _ _ 77 rfl 3 9 HK.out Tryd.underlying77 _ _ 0 (.map []) rfl Hown0.out (by decide) _ _ _ rfl rfl Hk1.out _ _ He1.out ?_; intro w1 hown1 hgr1; have Hown1 := Lib.hid hown1; have Hgr1 := Lib.hid hgr1; clear hown1 hgr1)
    | (refine wpList_insert_own _ rfl _ _ _ 77 rfl 3 9 HK.out Tryd.underlying77 _ _ 1 _ rfl Hown1.out (by decide) _ _ _ rfl rfl Hk2.out _ _ He2.out ?_; intro w2 hown2 hgr2; have Hown2 := Lib.hid hown2; have Hgr2 := Lib.hid hgr2; clear hown2 hgr2)
    | (at_range; refine wpList_range_own _ rfl _ 77 rfl 3 9 HK.out Tryd.underlying77 _ _ 2 _ rfl Hown2.out ?_; intro w3 hrg3 hgr3 hsz3))
  have hb0 : (w.alloc (.cells #[.string s, .int .i64 i] 62)).heap[w.heap.size]? = some (.cells #[.string s, .int .i64 i] 62 (0, 0)) := by simpa using heap_alloc_new w (.cells #[.string s, .int .i64 i] 62)
  have hbA : ((w.alloc (.cells #[.string s, .int .i64 i] 62)).alloc (.map #[] 0)).heap[w.heap.size]? = some (.cells #[.string s, .int .i64 i] 62 (0, 0)) := blk_grown hb0 (World.grownBy_alloc _ _ none) (by simp)
  have hbB := blk_grown hbA Hgr1.out (by simp)
  have hbC := blk_grown hbB Hgr2.out (by simp)
  have hbD := blk_grown hbC hgr3 (by simp)
  have hBA := (below_alloc hw0 (.map #[] 0)).grown Hgr1.out (by simp; omega) (by simp)
  have hBB := hBA.grown Hgr2.out hBA.size (by simp)
  have hBC := hBB.grown hgr3 hBB.size (by simp)
  have Hbx := Lib.hid hbD
  have HBe := Lib.hid hBC
  have hrle : w.heap.size + 1 < w2.heap.size := by
    have := Hgr1.out.size
    have := Hgr2.out.size
    simp at *; omega
  have HR3 : Hid (w3.ranges Tryd.prog 3 (plainElem Tryd.prog 9) (w.heap.size + 1) w2.heap.size 2 D2 (Maps.has D2) (Maps.size D2)) := Lib.hid hrg3
  clear hb0 hbA hbB hbC hbD hBA hBB hBC hrg3 hgr3 Hown0 Hown1 Hown2 Hgr1 Hgr2 Hk1 Hk2 He1 He2 hmk hsz3 hw0
  generalize w2.heap.size = r at *
  clear w1 w2
  go_frame
  go_loopw [] (fun wr => ∃ left cnt, Hid (wr.ranges Tryd.prog 3 (plainElem Tryd.prog 9) (w.heap.size + 1) r 2 D2 left cnt) ∧ Hid (∀ kl, left kl = true → Maps.has D2 kl = true) ∧ Hid (left (.int .i64 1) = false → (b1 && l1) = false) ∧ Hid (left (.int .i64 2) = false → (b2 && l2) = false) ∧ Hid (wr.heap[w.heap.size]? = some (.cells #[.string s, .int .i64 i] 62 (0, 0))) ∧ Hid (Below w.heap.size w wr)) (fun wr => wr.rangeLeft (w.heap.size + 1) r)
  case atStart => exact ⟨_, _, HR3, Lib.hid (fun _ h => h), Lib.hid (fun h => absurd h (by decide)), Lib.hid (fun h => absurd h (by decide)), Hbx, HBe⟩
  case round =>
    obtain ⟨left, cnt, HR, HL, HL1, HL2, HX, HB⟩ := hrel
    go_wp2_with (first | (at_next; refine wpList_next_ranges_is _ rfl _ rfl 3 9 .i64 HK.out Tryd.underlying3 Tryd.underlying9 (w.heap.size + 1) r 2 _ _ _ rfl HR.out ?_ ?_))
    · intro hc0 hl0
      have e1 := HL1.out (hl0 _)
      have e2 := HL2.out (hl0 _)
      obtain rfl : R = 0 := q0 e1 e2
      clear e1 e2 hl0 hc0 q0 q1 q2 HL HL1 HL2
      go_wp2
      go_ret
      exact ⟨rfl, HB.out⟩
    · intro x c w' cnt' hwx hwc hlx hat hrg hlt hgr hsz hen
      have hx := D2_has x (HL.out _ hlx)
      have hbx := blk_grown HX.out hgr (by simp; omega)
      have HBg := Lib.hid (HB.out.grown hgr HB.out.size (by intro k hk; injection hk with hk; omega))
      have z0 : w'.cell? ⟨w.heap.size, 0, none⟩ = some (.string s) := (blk_cell hbx 0).trans rfl
      have z1 : w'.cell? ⟨w.heap.size, 1, none⟩ = some (.int .i64 i) := (blk_cell hbx 1).trans rfl
      clear hwx hwc hgr
      rcases hx with rfl | rfl
      · obtain rfl : c = ⟨#[60]⟩ := by
          have h := (hat .nil).symm.trans (D2_at1 _)
          injection h with h; injection h with h
          exact Fl.toL_inj h
        clear hat hlx HL1
        cases b1 with
        | false =>
          go_wp2_with (first | (go_at_call 24; refine (sign_Begins.calls s i ⟨#[60]⟩ false _ h1).mono ?_; rintro e w4 ⟨rfl, hb4⟩; have HX4 := Lib.hid ((hb4.block _ (blk_lt hbx)).trans hbx); have HB4 := Lib.hid (HBg.out.trans (hb4.mono HBg.out.size)); have Hrg := Lib.hid (hrg.kept (grown_of_below hb4 none) (by simp) (by simp)); clear hb4))
          go_roundw
          case measure => rw [Hrg.out.left_eq, HR.out.left_eq]; omega
          case rel => exact ⟨_, _, Hrg, Lib.hid (fun kl h => HL.out kl (by simp only [Bool.and_eq_true] at h; exact h.1)), Lib.hid (fun h => rfl), Lib.hid (fun h => HL2.out (by rw [← strike2 left]; exact h)), HX4, HB4⟩
        | true =>
          have h1l := g1 rfl
          cases l1 with
          | false =>
            go_wp2_with (first | (go_at_call 24; refine (sign_Begins.calls s i ⟨#[60]⟩ true _ h1).mono ?_; rintro e w5 ⟨rfl, hb5⟩; have HX5 := Lib.hid ((hb5.block _ (blk_lt hbx)).trans hbx); have HB5 := Lib.hid (HBg.out.trans (hb5.mono HBg.out.size)); have Hrg5 := Lib.hid (hrg.kept (grown_of_below hb5 none) (by simp) (by simp)); have y0 := (blk_cell HX5.out 0).trans rfl; have y1 := (blk_cell HX5.out 1).trans rfl; clear hb5) | (go_at_call 43; refine (tag_place_letter.calls s i 1 false _ h1l).mono ?_; rintro e w4 ⟨rfl, hb4⟩; have HX4 := Lib.hid ((hb4.block _ (blk_lt HX5.out)).trans HX5.out); have HB4 := Lib.hid (HB5.out.trans (hb4.mono HB5.out.size)); have Hrg := Lib.hid (Hrg5.out.kept (grown_of_below hb4 none) (by simp) (by simp)); clear hb4))
            go_roundw
            case measure => rw [Hrg.out.left_eq, HR.out.left_eq]; omega
            case rel => exact ⟨_, _, Hrg, Lib.hid (fun kl h => HL.out kl (by simp only [Bool.and_eq_true] at h; exact h.1)), Lib.hid (fun h => rfl), Lib.hid (fun h => HL2.out (by rw [← strike2 left]; exact h)), HX4, HB4⟩
          | true =>
            go_wp2_with (first | (go_at_call 24; refine (sign_Begins.calls s i ⟨#[60]⟩ true _ h1).mono ?_; rintro e w5 ⟨rfl, hb5⟩; have HX5 := Lib.hid ((hb5.block _ (blk_lt hbx)).trans hbx); have HB5 := Lib.hid (HBg.out.trans (hb5.mono HBg.out.size)); have y0 := (blk_cell HX5.out 0).trans rfl; have y1 := (blk_cell HX5.out 1).trans rfl; clear hb5) | (go_at_call 43; refine (tag_place_letter.calls s i 1 true _ h1l).mono ?_; rintro e w4 ⟨rfl, hb4⟩; have HB4 := Lib.hid (HB5.out.trans (hb4.mono HB5.out.size)); clear hb4))
            go_ret
            exact ⟨by rw [q1 rfl]; rfl, HB4.out⟩
      · obtain rfl : c = ⟨#[60, 47]⟩ := by
          have h := (hat .nil).symm.trans (D2_at2 _)
          injection h with h; injection h with h
          exact Fl.toL_inj h
        clear hat hlx HL2
        cases b2 with
        | false =>
          go_wp2_with (first | (go_at_call 24; refine (sign_Begins.calls s i ⟨#[60, 47]⟩ false _ h2).mono ?_; rintro e w4 ⟨rfl, hb4⟩; have HX4 := Lib.hid ((hb4.block _ (blk_lt hbx)).trans hbx); have HB4 := Lib.hid (HBg.out.trans (hb4.mono HBg.out.size)); have Hrg := Lib.hid (hrg.kept (grown_of_below hb4 none) (by simp) (by simp)); clear hb4))
          go_roundw
          case measure => rw [Hrg.out.left_eq, HR.out.left_eq]; omega
          case rel => exact ⟨_, _, Hrg, Lib.hid (fun kl h => HL.out kl (by simp only [Bool.and_eq_true] at h; exact h.1)), Lib.hid (fun h => HL1.out (by rw [← strike1 left]; exact h)), Lib.hid (fun h => rfl), HX4, HB4⟩
        | true =>
          have h2l := g2 rfl
          cases l2 with
          | false =>
            go_wp2_with (first | (go_at_call 24; refine (sign_Begins.calls s i ⟨#[60, 47]⟩ true _ h2).mono ?_; rintro e w5 ⟨rfl, hb5⟩; have HX5 := Lib.hid ((hb5.block _ (blk_lt hbx)).trans hbx); have HB5 := Lib.hid (HBg.out.trans (hb5.mono HBg.out.size)); have Hrg5 := Lib.hid (hrg.kept (grown_of_below hb5 none) (by simp) (by simp)); have y0 := (blk_cell HX5.out 0).trans rfl; have y1 := (blk_cell HX5.out 1).trans rfl; clear hb5) | (go_at_call 43; refine (tag_place_letter.calls s i 2 false _ h2l).mono ?_; rintro e w4 ⟨rfl, hb4⟩; have HX4 := Lib.hid ((hb4.block _ (blk_lt HX5.out)).trans HX5.out); have HB4 := Lib.hid (HB5.out.trans (hb4.mono HB5.out.size)); have Hrg := Lib.hid (Hrg5.out.kept (grown_of_below hb4 none) (by simp) (by simp)); clear hb4))
            go_roundw
            case measure => rw [Hrg.out.left_eq, HR.out.left_eq]; omega
            case rel => exact ⟨_, _, Hrg, Lib.hid (fun kl h => HL.out kl (by simp only [Bool.and_eq_true] at h; exact h.1)), Lib.hid (fun h => HL1.out (by rw [← strike1 left]; exact h)), Lib.hid (fun h => rfl), HX4, HB4⟩
          | true =>
            go_wp2_with (first | (go_at_call 24; refine (sign_Begins.calls s i ⟨#[60, 47]⟩ true _ h2).mono ?_; rintro e w5 ⟨rfl, hb5⟩; have HX5 := Lib.hid ((hb5.block _ (blk_lt hbx)).trans hbx); have HB5 := Lib.hid (HBg.out.trans (hb5.mono HBg.out.size)); have y0 := (blk_cell HX5.out 0).trans rfl; have y1 := (blk_cell HX5.out 1).trans rfl; clear hb5) | (go_at_call 43; refine (tag_place_letter.calls s i 2 true _ h2l).mono ?_; rintro e w4 ⟨rfl, hb4⟩; have HB4 := Lib.hid (HB5.out.trans (hb4.mono HB5.out.size)); clear hb4))
            go_ret
            exact ⟨by rw [q2 rfl]; rfl, HB4.out⟩

theorem letter_at (s : ByteArray) (hs : s.size < 2147483648) (i n : Nat) (hn : n ≤ 2) (hi : i ≤ s.size) : tag_place_letter.f s (i : Int) (n : Int) = some (Fl.headLetter ((Fl.toL s).drop (i + n))) := by
  unfold tag_place_letter.f
  rw [Fl.wrap_in ((i : Int) + (n : Int)) (by omega) (by omega)]
  rcases h : (Fl.toL s).drop (i + n) with _ | ⟨c, l⟩
  · have := Fl.drop_nil h
    rw [if_neg (by omega)]; rfl
  · obtain ⟨h1, h2, h3⟩ := Fl.drop_cons h
    rw [if_pos (by omega), if_pos (by omega), show ((i : Int) + (n : Int)) = ((i + n : Nat) : Int) from rfl, h2, Fl.letter_f]
    rfl
theorem lw60 (c : UInt8) : (Fl.lw c == 60) = (c == 60) := by
  have := Fl.byteAll (fun x => (Fl.lw x == 60) == (x == 60)) (by decide +kernel) c
  simpa using this
theorem lw47 (c : UInt8) : (Fl.lw c == 47) = (c == 47) := by
  have := Fl.byteAll (fun x => (Fl.lw x == 47) == (x == 47)) (by decide +kernel) c
  simpa using this
noncomputable def tag_place_name.f (a0_0 : ByteArray) (a0_1 : Int) : Option (Int) :=
  if a0_0.size < 2147483648 then some (if a0_1 < 0 ∨ (a0_0.size : Int) < a0_1 then 0 else ((Fl.nameL ((Fl.toL a0_0).drop a0_1.toNat) : Nat) : Int)) else none
theorem tag_place_name.calls (a0_0 : ByteArray) (a0_1 : Int) (r : Int) (w : World) (h : tag_place_name.f a0_0 a0_1 = some r) :
    Calls Tryd.prog 33 #[.agg #[.string a0_0, .int .i64 a0_1]] w fun e w' => e = .returned (.int .i64 r) ∧ Below w.heap.size w w' := by
  unfold tag_place_name.f at h
  split at h
  · rename_i hs
    obtain rfl := Option.some.inj h
    clear h
    by_cases ho : a0_1 < 0 ∨ (a0_0.size : Int) < a0_1
    · rw [if_pos ho]
      have hb : ∀ x, sign_Begins.f a0_0 a0_1 x = some false := by
        intro x
        unfold sign_Begins.f
        by_cases h0 : a0_1 < 0
        · rw [if_pos h0]
        · rw [if_neg h0, if_pos (by omega)]
      exact name_walk a0_0 a0_1 false false false false w (hb _) (hb _) (fun h => by cases h) (fun h => by cases h) 0 (fun h => by cases h) (fun h => by cases h) (fun _ _ => rfl)
    · rw [if_neg ho]
      obtain ⟨i, rfl⟩ : ∃ n : Nat, a0_1 = n := ⟨a0_1.toNat, by omega⟩
      rw [Int.toNat_natCast]
      have hi : i ≤ a0_0.size := by omega
      have e1 := Fl.begins_f a0_0 ⟨#[60]⟩ i hs (by decide) hi
      have e2 := Fl.begins_f a0_0 ⟨#[60, 47]⟩ i hs (by decide) hi
      have f1 := letter_at a0_0 hs i 1 (by omega) hi
      have f2 := letter_at a0_0 hs i 2 (by omega) hi
      rw [← List.drop_drop] at f1 f2
      generalize (Fl.toL a0_0).drop i = l at *
      refine name_walk a0_0 i _ _ _ _ w e1 e2 (fun _ => f1) (fun _ => f2) _ ?_ ?_ ?_
      · intro h
        rcases l with _ | ⟨c, l⟩
        · simp [Fl.headLetter] at h
        · have h' : ((Fl.lw c == 60) && true && Fl.headLetter l) = true := h
          rw [lw60] at h'
          simp only [Bool.and_true, Bool.and_eq_true, beq_iff_eq] at h'
          simp only [Fl.nameL]
          rw [if_pos h'.1, if_pos h'.2]; rfl
      · intro h
        rcases l with _ | ⟨c, _ | ⟨d, l⟩⟩
        · simp [Fl.headLetter] at h
        · simp [Fl.headLetter] at h
        · have h' : ((Fl.lw c == 60) && ((Fl.lw d == 47) && true) && Fl.headLetter l) = true := h
          rw [lw60, lw47] at h'
          simp only [Bool.and_true, Bool.and_eq_true, beq_iff_eq] at h'
          obtain ⟨⟨rfl, rfl⟩, h3⟩ := h'
          simp only [Fl.nameL]
          rw [if_pos trivial, if_neg (show ¬ (Fl.headLetter (47 :: l) = true) from (show ¬ (Fl.letter 47 = true) by decide)), if_pos ⟨rfl, h3⟩]; rfl
      · intro h1 h2
        rcases l with _ | ⟨c, l⟩
        · rfl
        · have h1' : ((Fl.lw c == 60) && true && Fl.headLetter l) = false := h1
          rw [lw60] at h1'
          simp only [Fl.nameL]
          by_cases hc : c = 60
          · subst hc
            have hl : ¬ (Fl.headLetter l = true) := by simpa using h1'
            rw [if_pos rfl, if_neg hl]
            rw [if_neg]
            · rfl
            · rintro ⟨h3, h4⟩
              rcases l with _ | ⟨d, l⟩
              · cases h3
              · have h2' : ((Fl.lw 60 == 60) && ((Fl.lw d == 47) && true) && Fl.headLetter l) = false := h2
                rw [lw60, lw47] at h2'
                have h3' : (d == 47) = true := h3
                have h4' : Fl.headLetter l = true := h4
                rw [h3', h4'] at h2'
                cases h2'
          · rw [if_neg hc]; rfl
  · cases h
end Go.Proofs.YtfhjfidkcdcjnaaDoor.Q

/- 'tag.Read': a tag: the walk. -/
namespace Go.Proofs.YtfhjfidkcdcjnaaDoor.Fl
open Go
/-- No byte of a tag's name. -/
def nm (c : UInt8) : Bool := !(space c || c == 47 || c == 62)
structure Tag where
  kind : Nat
  name : Bs
  attrs : List Att
  self : Bool
  rest : Bs
/-- A tag that begins with l; none: it doesn't end (or there is none). -/
noncomputable def tagL (l : Bs) : Option Tag := match readL ((l.drop (nameL l)).dropWhile nm) with
  | none => none
  | some (as_, b, r) => some (if nameL l = 1 then ⟨1, clean (lower ((l.drop (nameL l)).takeWhile nm)), as_, b, r⟩ else ⟨2, clean (lower ((l.drop (nameL l)).takeWhile nm)), [], false, r⟩)
theorem nameL_le (l : Bs) : nameL l ≤ l.length ∧ nameL l ≤ 2 := by
  unfold nameL
  split
  · simp
  · rename_i c r
    split
    · split
      · simp
      · split
        · rename_i h
          rcases r with _ | ⟨d, r⟩
          · simp [headIs] at h
          · simp
        · simp
    · simp
theorem At.drop {s : ByteArray} {i n : Nat} {l : Bs} (h : At s i l) (hn : n ≤ l.length) : At s (i + n) (l.drop n) := by
  refine ⟨by rw [← List.drop_drop, h.1], ?_⟩
  have := h.2
  rw [List.length_drop]; omega
end Go.Proofs.YtfhjfidkcdcjnaaDoor.Fl
namespace Go.Proofs.YtfhjfidkcdcjnaaDoor.Q
open Go.RowKit Go.Proofs.YtfhjfidkcdcjnaaDoorW.PrintWords Go.Proofs.YtfhjfidkcdcjnaaDoorW.PrintLast Go.Proofs.YtfhjfidkcdcjnaaDoorW.PrintMore
set_option linter.unusedVariables false
set_option linter.unusedSimpArgs false

theorem tok5 {W : World} {g t : Nat} {a0 a1 a2 a3 a4 : Value} (h : W.heap[g]? = some (.cells #[a0, a1, a2, a3, a4] t (0, 0))) (v0 v1 v2 v3 v4 : Value) :
    (((((W.setCell ⟨g, 0, none⟩ v0).setCell ⟨g, 1, none⟩ v1).setCell ⟨g, 2, none⟩ v2).setCell ⟨g, 3, none⟩ v3).setCell ⟨g, 4, none⟩ v4).heap[g]? = some (.cells #[v0, v1, v2, v3, v4] t (0, 0)) := by
  simpa using blk_set (blk_set (blk_set (blk_set (blk_set h 0 v0) 1 v1) 2 v2) 3 v3) 4 v4
theorem below5 {w W : World} (h : Below w.heap.size w W) (v0 v1 v2 v3 v4 : Value) :
    Below w.heap.size w (((((W.setCell ⟨w.heap.size, 0, none⟩ v0).setCell ⟨w.heap.size, 1, none⟩ v1).setCell ⟨w.heap.size, 2, none⟩ v2).setCell ⟨w.heap.size, 3, none⟩ v3).setCell ⟨w.heap.size, 4, none⟩ v4) :=
  below_set (below_set (below_set (below_set (below_set h (Nat.le_refl _)) (Nat.le_refl _)) (Nat.le_refl _)) (Nat.le_refl _)) (Nat.le_refl _)
theorem row5 {W : World} {base g : Nat} {v : Value} {xs : List S27} (hr : Kd.R k27 27 W base (fun k => k ≠ g) v xs) (v0 v1 v2 v3 v4 : Value) :
    Kd.R k27 27 (((((W.setCell ⟨g, 0, none⟩ v0).setCell ⟨g, 1, none⟩ v1).setCell ⟨g, 2, none⟩ v2).setCell ⟨g, 3, none⟩ v3).setCell ⟨g, 4, none⟩ v4) base (fun _ => True) v xs :=
  Kd.R_mono (Kd.R_far (p := ⟨g, 4, none⟩) (Kd.R_far (p := ⟨g, 3, none⟩) (Kd.R_far (p := ⟨g, 2, none⟩) (Kd.R_far (p := ⟨g, 1, none⟩) (Kd.R_far (p := ⟨g, 0, none⟩) hr (fun _ h => h) v0) (fun _ h => h) v1) (fun _ h => h) v2) (fun _ h => h) v3) (fun _ h => h) v4) (fun _ _ => trivial)
theorem tokInfo : (Tryd.prog.info? 39).map (·.size) = some 5 := by kernel_rfl

set_option maxHeartbeats 8000000 in
set_option maxRecDepth 1000000 in
theorem tag_none (s : ByteArray) (a : Int) (w : World) (h : tag_place_name.f s a = some 0) :
    Calls Tryd.prog 18 #[.string s, .int .i64 a] w fun e w' => e = .returned (.tuple #[.agg #[.int .i64 0, .string ⟨#[]⟩, .string ⟨#[]⟩, .slice none 0 0, .bool false], .int .i64 a, .bool false]) ∧ Below w.heap.size w w' := by
  have hb0 : (w.alloc (.cells #[.int .i64 0, .string ⟨#[]⟩, .string ⟨#[]⟩, .slice none 0 0, .bool false] 39)).heap[w.heap.size]? = some (.cells #[.int .i64 0, .string ⟨#[]⟩, .string ⟨#[]⟩, .slice none 0 0, .bool false] 39 (0, 0)) := by simpa using heap_alloc_new w (.cells #[.int .i64 0, .string ⟨#[]⟩, .string ⟨#[]⟩, .slice none 0 0, .bool false] 39)
  have hB0 := Lib.hid (below_alloc (Below.refl w.heap.size w) (.cells #[.int .i64 0, .string ⟨#[]⟩, .string ⟨#[]⟩, .slice none 0 0, .bool false] 39))
  have Hb0 := Lib.hid hb0
  clear hb0
  go_enter Tryd.func18, Tryd.ntmps18
  go_wp2_with fail
  refine (tag_place_name.calls s a 0 _ h).mono ?_
  rintro e w1 ⟨rfl, hb1⟩
  have hbk := (hb1.block _ (blk_lt Hb0.out)).trans Hb0.out
  have c0 := (blk_cell hbk 0).trans rfl
  have z0 := blk_frozen hbk 0
  have c1 := (blk_cell hbk 1).trans rfl
  have z1 := blk_frozen hbk 1
  have c2 := (blk_cell hbk 2).trans rfl
  have z2 := blk_frozen hbk 2
  have c3 := (blk_cell hbk 3).trans rfl
  have z3 := blk_frozen hbk 3
  have c4 := (blk_cell hbk 4).trans rfl
  have z4 := blk_frozen hbk 4
  have HB1 := Lib.hid (hB0.out.trans (hb1.mono hB0.out.size))
  clear hb1 Hb0 hB0
  go_wp2_with fail
  refine bodyPost_ret (results_ctt rfl _ _ w.heap.size 39 _ (0, 0) _ rfl (tok5 hbk _ _ _ _ _) Tryd.underlying39 rfl tokInfo) rfl ?_
  exact ⟨rfl, below5 HB1.out _ _ _ _ _⟩

set_option maxHeartbeats 16000000 in
set_option maxRecDepth 1000000 in
theorem tag_at (s : ByteArray) (i n : Nat) (l : Fl.Bs) (w : World) (hG : Gl w) (hs : s.size < 268435456) (hAt : Fl.At s i l) (hn : Fl.nameL l = n) (hn0 : n ≠ 0) :
    Calls Tryd.prog 18 #[.string s, .int .i64 i] w fun e w' => (Fl.tagL l = none ∧ e = .returned (.tuple #[.agg #[.int .i64 0, .string ⟨#[]⟩, .string ⟨#[]⟩, .slice none 0 0, .bool false], .int .i64 s.size, .bool false]) ∧ Below w.heap.size w w') ∨
      ∃ t v, Fl.tagL l = some t ∧ e = .returned (.tuple #[.agg #[.int .i64 (t.kind : Int), .string (Fl.ofL t.name), .string ⟨#[]⟩, v, .bool t.self], .int .i64 ((s.size - t.rest.length : Nat) : Int), .bool true]) ∧ Kd.R k27 27 w' w.heap.size (fun _ => True) v (t.attrs.map toS) ∧ Below w.heap.size w w' := by
  have HG := Lib.hid hG
  clear hG
  have hnl : n ≤ l.length ∧ n ≤ 2 := by rw [← hn]; exact Fl.nameL_le l
  have hAt1 : Fl.At s (i + n) (l.drop n) := hAt.drop hnl.1
  have hnf : tag_place_name.f s (i : Int) = some ((n : Nat) : Int) := by
    unfold tag_place_name.f
    have := hAt.le
    rw [if_pos (by omega), if_neg (by omega), Int.toNat_natCast, hAt.1, hn]
  have hnb : ((n : Int) == 0) = false := by rw [beq_eq_false_iff_ne]; omega
  have hnc : ¬ ((n : Int) = 0) := by omega
  obtain ⟨T, hT⟩ : ∃ T, Fl.tagL l = T := ⟨_, rfl⟩
  rw [hT]
  unfold Fl.tagL at hT
  rw [hn] at hT
  have hd := Fl.take_drop_while Fl.nm (l.drop n)
  obtain ⟨N, hN⟩ : ∃ N, (l.drop n).takeWhile Fl.nm = N := ⟨_, rfl⟩
  obtain ⟨l2, hl2⟩ : ∃ l2, (l.drop n).dropWhile Fl.nm = l2 := ⟨_, rfl⟩
  obtain ⟨M, hM⟩ : ∃ M, M = i + n + N.length := ⟨_, rfl⟩
  rw [hN, hl2] at hT hd
  have hex : s.extract (i + n) M = Fl.ofL N := by
    rw [hM]
    exact Fl.At.ext (l := l2) (by rw [hd]; exact hAt1)
  have hNl : N.length ≤ s.size := by
    have h1 := congrArg List.length hd
    have h2 := hAt1.2
    rw [List.length_append] at h1; omega
  have hlow : sign_Lower.f (s.extract (i + n) M) = some (Fl.ofL (Fl.lower N)) := by
    rw [hex]; unfold sign_Lower.f; rw [if_pos (by rw [Fl.ofL_size]; omega)]; rfl
  have hcl : lines_Clean.f (Fl.ofL (Fl.lower N)) = some (Fl.ofL (Fl.clean (Fl.lower N))) := by
    unfold lines_Clean.f; rw [if_pos (by rw [Fl.ofL_size]; unfold Fl.lower; rw [List.length_map]; omega)]; rfl
  have hP0 : i + n + ((l.drop n).takeWhile Fl.nm).length = M := by rw [hN, hM]
  have HLow := Lib.hid hlow
  have HCl := Lib.hid hcl
  have HT := Lib.hid hT
  have HAt1 := Lib.hid hAt1
  have HP0 := Lib.hid hP0
  have HL2 := Lib.hid hl2
  have d1 : (0 : Int) ≤ (i : Int) + (n : Int) := by omega
  have d3 : (i : Int) + (n : Int) ≤ (M : Int) := by omega
  have d6 : ((i : Int) + (n : Int)).toNat = i + n := by omega
  have d5 : (i : Int) + (n : Int) ≤ (s.size : Int) := by have := hAt1.le; omega
  clear hP0 hl2 hN hd hAt hAt1 hn hT hlow hcl hex hM
  generalize l.drop n = l1 at *
  have hb0 : (w.alloc (.cells #[.int .i64 0, .string ⟨#[]⟩, .string ⟨#[]⟩, .slice none 0 0, .bool false] 39)).heap[w.heap.size]? = some (.cells #[.int .i64 0, .string ⟨#[]⟩, .string ⟨#[]⟩, .slice none 0 0, .bool false] 39 (0, 0)) := by simpa using heap_alloc_new w (.cells #[.int .i64 0, .string ⟨#[]⟩, .string ⟨#[]⟩, .slice none 0 0, .bool false] 39)
  have hB0 := Lib.hid (below_alloc (Below.refl w.heap.size w) (.cells #[.int .i64 0, .string ⟨#[]⟩, .string ⟨#[]⟩, .slice none 0 0, .bool false] 39))
  have Hb0 := Lib.hid hb0
  clear hb0
  go_enter Tryd.func18, Tryd.ntmps18
  go_wp2_with fail
  refine (tag_place_name.calls s (i : Int) ((n : Nat) : Int) _ hnf).mono ?_
  rintro e w1 ⟨rfl, hb1⟩
  have HB1 := Lib.hid (hB0.out.trans (hb1.mono hB0.out.size))
  have Hbk := Lib.hid ((hb1.block _ (blk_lt Hb0.out)).trans Hb0.out)
  clear hb1 Hb0 hB0 hnf
  go_wp2_with fail
  go_loopg [10] l1.length (fun q s10 wx => ∃ (x : Int), s10 = .int .i64 x ∧ Hid (Below w.heap.size w wx ∧ wx.heap[w.heap.size]? = some (.cells #[.int .i64 0, .string ⟨#[]⟩, .string ⟨#[]⟩, .slice none 0 0, .bool false] 39 (0, 0))) ∧ Hid (∃ (p : Nat) (lp : Fl.Bs), x = (p : Int) ∧ Fl.At s p lp ∧ lp.length = q ∧ p + (lp.takeWhile Fl.nm).length = M ∧ lp.dropWhile Fl.nm = l2))
  case atStart => exact ⟨_, rfl, Lib.hid ⟨HB1.out, Hbk.out⟩, Lib.hid ⟨i + n, l1, by first | rfl | omega, HAt1.out, rfl, HP0.out, HL2.out⟩⟩
  case round =>
    obtain ⟨x, rfl, HD, HX⟩ := hrel
    obtain ⟨hBr, hbr⟩ := HD.out
    obtain ⟨p, lp, hxp, hAt, hlq, hp1, hp2⟩ := HX.out
    have hsz := hAt.2
    have HBr := Lib.hid hBr
    have Hbr := Lib.hid hbr
    clear HX HD hBr hbr HB1 Hbk HAt1 HP0 HL2
    cases lp with
    | nil =>
      have HE := Lib.hid (show x = (M : Int) ∧ Fl.At s M l2 by
        simp at hp1 hp2
        subst hp2
        rw [← hp1]; exact ⟨hxp, hAt⟩)
      have hx1 : ¬ (x < (s.size : Int)) := by have := hAt.nil; omega
      clear hAt hp1 hp2 hlq hxp hsz
      obtain ⟨hxM, hA⟩ := HE.out
      subst hxM
      have hT := HT.out
      have d4 : (M : Int) ≤ (s.size : Int) := by have := hA.le; omega
      clear HE HT
      rcases hrl : Fl.readL l2 with _ | ⟨as_, b, r3⟩
      · rw [hrl] at hT
        have HTT := Lib.hid (show none = T from hT)
        clear hT
        have hf : attrs_Read.f s (M : Int) = some ([], false, (s.size : Int), false) := by
          unfold attrs_Read.f; rw [if_pos hs, if_neg (by omega), Int.toNat_natCast, hA.1, hrl]
        have hc := attrs_Read.calls s (M : Int) _ _ _ _ wr (Gl.below HG.out HBr.out) hf
        clear hf hrl hA
        go_wp2_with fail
        refine hc.mono ?_
        rintro e w2 ⟨v, rfl, hr, hb2⟩
        have hbk := blk_below Hbr.out hb2
        have c0 := (blk_cell hbk 0).trans rfl
        have z0 := blk_frozen hbk 0
        have c1 := (blk_cell hbk 1).trans rfl
        have z1 := blk_frozen hbk 1
        have c2 := (blk_cell hbk 2).trans rfl
        have z2 := blk_frozen hbk 2
        have c3 := (blk_cell hbk 3).trans rfl
        have z3 := blk_frozen hbk 3
        have c4 := (blk_cell hbk 4).trans rfl
        have z4 := blk_frozen hbk 4
        have HB2 := Lib.hid (HBr.out.trans (hb2.mono HBr.out.size))
        clear hb2 hr hc Hbr HBr
        go_wp2_with fail
        refine bodyPost_ret (results_ctt rfl _ _ w.heap.size 39 _ (0, 0) _ rfl (tok5 hbk _ _ _ _ _) Tryd.underlying39 rfl tokInfo) rfl ?_
        exact Or.inl ⟨HTT.out.symm, rfl, below5 HB2.out _ _ _ _ _⟩
      · rw [hrl] at hT
        have HTT := Lib.hid (show some (if n = 1 then (⟨1, Fl.clean (Fl.lower N), as_, b, r3⟩ : Fl.Tag) else ⟨2, Fl.clean (Fl.lower N), [], false, r3⟩) = T from hT)
        clear hT
        have hf : attrs_Read.f s (M : Int) = some (as_.map toS, b, ((s.size - r3.length : Nat) : Int), true) := by
          unfold attrs_Read.f; rw [if_pos hs, if_neg (by omega), Int.toNat_natCast, hA.1, hrl]
        have hc := attrs_Read.calls s (M : Int) _ _ _ _ wr (Gl.below HG.out HBr.out) hf
        obtain ⟨Z, hZ⟩ : ∃ Z : Nat, Z = s.size - r3.length := ⟨_, rfl⟩
        rw [← hZ] at hc
        clear hf hrl hA
        go_wp2_with fail
        refine hc.mono ?_
        rintro e w2 ⟨v, rfl, hr, hb2⟩
        obtain ⟨A0, c0, hv0⟩ := Kd.R_slice hr
        rw [List.length_map] at hv0
        subst hv0
        have hg1 := blk_lt Hbr.out
        have HR2 := Lib.hid (Kd.R_lower (base' := w.heap.size) (Kd.R_mono (ok' := fun k => k ≠ w.heap.size) (Kd.R_bound hr) (fun k h => by have := h.2.1; omega)) HBr.out.size)
        have Hbk2 := Lib.hid (blk_below Hbr.out hb2)
        have HB2 := Lib.hid (HBr.out.trans (hb2.mono HBr.out.size))
        clear hb2 hr hc Hbr HBr
        go_wp2_with fail
        refine (sign_Lower.calls _ _ _ HLow.out).mono ?_
        rintro e w3 ⟨rfl, hb3⟩
        have HR3 := Lib.hid (Kd.R_below HR2.out hb3)
        have Hbk3 := Lib.hid (blk_below Hbk2.out hb3)
        have HB3 := Lib.hid (HB2.out.trans (hb3.mono HB2.out.size))
        clear hb3 HR2 Hbk2 HB2
        go_wp2_with fail
        refine (lines_Clean.calls _ _ _ HCl.out).mono ?_
        rintro e w4 ⟨rfl, hb4⟩
        have HR4 := Lib.hid (Kd.R_below HR3.out hb4)
        have hbk := blk_below Hbk3.out hb4
        have c0 := (blk_cell hbk 0).trans rfl
        have z0 := blk_frozen hbk 0
        have c1 := (blk_cell hbk 1).trans rfl
        have z1 := blk_frozen hbk 1
        have c2 := (blk_cell hbk 2).trans rfl
        have z2 := blk_frozen hbk 2
        have c3 := (blk_cell hbk 3).trans rfl
        have z3 := blk_frozen hbk 3
        have c4 := (blk_cell hbk 4).trans rfl
        have z4 := blk_frozen hbk 4
        have HB4 := Lib.hid (HB3.out.trans (hb4.mono HB3.out.size))
        clear hb4 HR3 Hbk3 HB3
        by_cases hn1 : n = 1
        · have hgt : ¬ ((n : Int) > 1) := by omega
          have HT1 := Lib.hid (show some (⟨1, Fl.clean (Fl.lower N), as_, b, r3⟩ : Fl.Tag) = T by have := HTT.out; rw [if_pos hn1] at this; exact this)
          clear hn1 HTT
          go_wp2_with fail
          refine bodyPost_ret (results_ctt rfl _ _ w.heap.size 39 _ (0, 0) _ rfl (tok5 hbk _ _ _ _ _) Tryd.underlying39 rfl tokInfo) rfl ?_
          refine Or.inr ⟨_, _, HT1.out.symm, ?_, row5 HR4.out _ _ _ _ _, below5 HB4.out _ _ _ _ _⟩
          rw [← hZ]; rfl
        · have hgt : (n : Int) > 1 := by omega
          have HT1 := Lib.hid (show some (⟨2, Fl.clean (Fl.lower N), [], false, r3⟩ : Fl.Tag) = T by have := HTT.out; rw [if_neg hn1] at this; exact this)
          clear hn1 HTT
          go_wp2_with fail
          refine bodyPost_ret (results_ctt rfl _ _ w.heap.size 39 _ (0, 0) _ rfl (tok5 hbk _ _ _ _ _) Tryd.underlying39 rfl tokInfo) rfl ?_
          refine Or.inr ⟨_, _, HT1.out.symm, ?_, Kd.R_nil _ _ _ _ _, below5 HB4.out _ _ _ _ _⟩
          rw [← hZ]; rfl
    | cons c r =>
      obtain ⟨h1, h2, h3⟩ := hAt.cons
      have hbx : bt s x = (c.toNat : Int) := by rw [hxp]; exact h2
      have p4 : 0 ≤ x := by omega
      have q4 : x < (s.size : Int) := by omega
      have hx4 := bt_at s x
      have hsp := fun W => sign_Space.calls (bt s x) (Fl.space c) W (by rw [hbx]; exact Fl.space_f c)
      have hexit : Fl.nm c = false → x = (M : Int) ∧ Fl.At s M l2 := by
        intro h
        rw [List.takeWhile_cons, h] at hp1
        rw [List.dropWhile_cons, h] at hp2
        have e1 : p = M := hp1
        have e2 : c :: r = l2 := hp2
        rw [← e1, ← e2]; exact ⟨hxp, hAt⟩
      have hgo : Fl.nm c = true → p + 1 + (r.takeWhile Fl.nm).length = M ∧ r.dropWhile Fl.nm = l2 := by
        intro h
        rw [List.takeWhile_cons, h] at hp1
        rw [List.dropWhile_cons, h] at hp2
        simp only [if_true, List.length_cons] at hp1 hp2
        exact ⟨by omega, hp2⟩
      clear hAt hp1 hp2 h2
      cases hsc : Fl.space c with
      | true =>
        rw [hsc] at hsp
        have HE := Lib.hid (hexit (by unfold Fl.nm; rw [hsc]; rfl))
        clear hexit hgo hxp hsz hlq hbx hsc h1 h3
        replace p4 := eq_true p4
        replace q4 := eq_true q4
        have HSp := Lib.hid hsp
        clear hsp
        go_wp2_with (first | (go_at_call 34; refine (HSp.out _).mono ?_; rintro e w9 ⟨rfl, ⟨⟨nd, rfl⟩⟩⟩) | (go_at_call 13; fail))
        have HBr := Lib.hid (pw_below_drewN HBr.out nd)
        have Hbr := Lib.hid (blk_drewN Hbr.out nd)
        clear p4 q4 hx4 HSp
        generalize wr.drewN nd = wr at *
        obtain ⟨hxM, hA⟩ := HE.out
        subst hxM
        have hT := HT.out
        have d4 : (M : Int) ≤ (s.size : Int) := by have := hA.le; omega
        clear HE HT
        rcases hrl : Fl.readL l2 with _ | ⟨as_, b, r3⟩
        · rw [hrl] at hT
          have HTT := Lib.hid (show none = T from hT)
          clear hT
          have hf : attrs_Read.f s (M : Int) = some ([], false, (s.size : Int), false) := by
            unfold attrs_Read.f; rw [if_pos hs, if_neg (by omega), Int.toNat_natCast, hA.1, hrl]
          have hc := attrs_Read.calls s (M : Int) _ _ _ _ wr (Gl.below HG.out HBr.out) hf
          clear hf hrl hA
          refine hc.mono ?_
          rintro e w2 ⟨v, rfl, hr, hb2⟩
          have hbk := blk_below Hbr.out hb2
          have c0 := (blk_cell hbk 0).trans rfl
          have z0 := blk_frozen hbk 0
          have c1 := (blk_cell hbk 1).trans rfl
          have z1 := blk_frozen hbk 1
          have c2 := (blk_cell hbk 2).trans rfl
          have z2 := blk_frozen hbk 2
          have c3 := (blk_cell hbk 3).trans rfl
          have z3 := blk_frozen hbk 3
          have c4 := (blk_cell hbk 4).trans rfl
          have z4 := blk_frozen hbk 4
          have HB2 := Lib.hid (HBr.out.trans (hb2.mono HBr.out.size))
          clear hb2 hr hc Hbr HBr
          go_wp2_with fail
          refine bodyPost_ret (results_ctt rfl _ _ w.heap.size 39 _ (0, 0) _ rfl (tok5 hbk _ _ _ _ _) Tryd.underlying39 rfl tokInfo) rfl ?_
          exact Or.inl ⟨HTT.out.symm, rfl, below5 HB2.out _ _ _ _ _⟩
        · rw [hrl] at hT
          have HTT := Lib.hid (show some (if n = 1 then (⟨1, Fl.clean (Fl.lower N), as_, b, r3⟩ : Fl.Tag) else ⟨2, Fl.clean (Fl.lower N), [], false, r3⟩) = T from hT)
          clear hT
          have hf : attrs_Read.f s (M : Int) = some (as_.map toS, b, ((s.size - r3.length : Nat) : Int), true) := by
            unfold attrs_Read.f; rw [if_pos hs, if_neg (by omega), Int.toNat_natCast, hA.1, hrl]
          have hc := attrs_Read.calls s (M : Int) _ _ _ _ wr (Gl.below HG.out HBr.out) hf
          obtain ⟨Z, hZ⟩ : ∃ Z : Nat, Z = s.size - r3.length := ⟨_, rfl⟩
          rw [← hZ] at hc
          clear hf hrl hA
          refine hc.mono ?_
          rintro e w2 ⟨v, rfl, hr, hb2⟩
          obtain ⟨A0, c0, hv0⟩ := Kd.R_slice hr
          rw [List.length_map] at hv0
          subst hv0
          have hg1 := blk_lt Hbr.out
          have HR2 := Lib.hid (Kd.R_lower (base' := w.heap.size) (Kd.R_mono (ok' := fun k => k ≠ w.heap.size) (Kd.R_bound hr) (fun k h => by have := h.2.1; omega)) HBr.out.size)
          have Hbk2 := Lib.hid (blk_below Hbr.out hb2)
          have HB2 := Lib.hid (HBr.out.trans (hb2.mono HBr.out.size))
          clear hb2 hr hc Hbr HBr
          go_wp2_with fail
          refine (sign_Lower.calls _ _ _ HLow.out).mono ?_
          rintro e w3 ⟨rfl, hb3⟩
          have HR3 := Lib.hid (Kd.R_below HR2.out hb3)
          have Hbk3 := Lib.hid (blk_below Hbk2.out hb3)
          have HB3 := Lib.hid (HB2.out.trans (hb3.mono HB2.out.size))
          clear hb3 HR2 Hbk2 HB2
          go_wp2_with fail
          refine (lines_Clean.calls _ _ _ HCl.out).mono ?_
          rintro e w4 ⟨rfl, hb4⟩
          have HR4 := Lib.hid (Kd.R_below HR3.out hb4)
          have hbk := blk_below Hbk3.out hb4
          have c0 := (blk_cell hbk 0).trans rfl
          have z0 := blk_frozen hbk 0
          have c1 := (blk_cell hbk 1).trans rfl
          have z1 := blk_frozen hbk 1
          have c2 := (blk_cell hbk 2).trans rfl
          have z2 := blk_frozen hbk 2
          have c3 := (blk_cell hbk 3).trans rfl
          have z3 := blk_frozen hbk 3
          have c4 := (blk_cell hbk 4).trans rfl
          have z4 := blk_frozen hbk 4
          have HB4 := Lib.hid (HB3.out.trans (hb4.mono HB3.out.size))
          clear hb4 HR3 Hbk3 HB3
          by_cases hn1 : n = 1
          · have hgt : ¬ ((n : Int) > 1) := by omega
            have HT1 := Lib.hid (show some (⟨1, Fl.clean (Fl.lower N), as_, b, r3⟩ : Fl.Tag) = T by have := HTT.out; rw [if_pos hn1] at this; exact this)
            clear hn1 HTT
            go_wp2_with fail
            refine bodyPost_ret (results_ctt rfl _ _ w.heap.size 39 _ (0, 0) _ rfl (tok5 hbk _ _ _ _ _) Tryd.underlying39 rfl tokInfo) rfl ?_
            refine Or.inr ⟨_, _, HT1.out.symm, ?_, row5 HR4.out _ _ _ _ _, below5 HB4.out _ _ _ _ _⟩
            rw [← hZ]; rfl
          · have hgt : (n : Int) > 1 := by omega
            have HT1 := Lib.hid (show some (⟨2, Fl.clean (Fl.lower N), [], false, r3⟩ : Fl.Tag) = T by have := HTT.out; rw [if_neg hn1] at this; exact this)
            clear hn1 HTT
            go_wp2_with fail
            refine bodyPost_ret (results_ctt rfl _ _ w.heap.size 39 _ (0, 0) _ rfl (tok5 hbk _ _ _ _ _) Tryd.underlying39 rfl tokInfo) rfl ?_
            refine Or.inr ⟨_, _, HT1.out.symm, ?_, Kd.R_nil _ _ _ _ _, below5 HB4.out _ _ _ _ _⟩
            rw [← hZ]; rfl
      | false =>
        rw [hsc] at hsp
        by_cases h47 : c = 47
        · have e47 : (bt s x == 47) = true := by rw [hbx, h47]; rfl
          have n47 : (bt s x != 47) = false := by rw [hbx, h47]; rfl
          have HE := Lib.hid (hexit (by unfold Fl.nm; rw [hsc, h47]; rfl))
          clear hexit hgo hxp hsz hlq hbx hsc h1 h3 h47
          replace p4 := eq_true p4
          replace q4 := eq_true q4
          have HSp := Lib.hid hsp
          clear hsp
          go_wp2_with (first | (go_at_call 34; refine (HSp.out _).mono ?_; rintro e w9 ⟨rfl, ⟨⟨nd, rfl⟩⟩⟩) | (go_at_call 13; fail))
          have HBr := Lib.hid (pw_below_drewN HBr.out nd)
          have Hbr := Lib.hid (blk_drewN Hbr.out nd)
          clear p4 q4 hx4 HSp
          generalize wr.drewN nd = wr at *
          obtain ⟨hxM, hA⟩ := HE.out
          subst hxM
          have hT := HT.out
          have d4 : (M : Int) ≤ (s.size : Int) := by have := hA.le; omega
          clear HE HT
          rcases hrl : Fl.readL l2 with _ | ⟨as_, b, r3⟩
          · rw [hrl] at hT
            have HTT := Lib.hid (show none = T from hT)
            clear hT
            have hf : attrs_Read.f s (M : Int) = some ([], false, (s.size : Int), false) := by
              unfold attrs_Read.f; rw [if_pos hs, if_neg (by omega), Int.toNat_natCast, hA.1, hrl]
            have hc := attrs_Read.calls s (M : Int) _ _ _ _ wr (Gl.below HG.out HBr.out) hf
            clear hf hrl hA
            refine hc.mono ?_
            rintro e w2 ⟨v, rfl, hr, hb2⟩
            have hbk := blk_below Hbr.out hb2
            have c0 := (blk_cell hbk 0).trans rfl
            have z0 := blk_frozen hbk 0
            have c1 := (blk_cell hbk 1).trans rfl
            have z1 := blk_frozen hbk 1
            have c2 := (blk_cell hbk 2).trans rfl
            have z2 := blk_frozen hbk 2
            have c3 := (blk_cell hbk 3).trans rfl
            have z3 := blk_frozen hbk 3
            have c4 := (blk_cell hbk 4).trans rfl
            have z4 := blk_frozen hbk 4
            have HB2 := Lib.hid (HBr.out.trans (hb2.mono HBr.out.size))
            clear hb2 hr hc Hbr HBr
            go_wp2_with fail
            refine bodyPost_ret (results_ctt rfl _ _ w.heap.size 39 _ (0, 0) _ rfl (tok5 hbk _ _ _ _ _) Tryd.underlying39 rfl tokInfo) rfl ?_
            exact Or.inl ⟨HTT.out.symm, rfl, below5 HB2.out _ _ _ _ _⟩
          · rw [hrl] at hT
            have HTT := Lib.hid (show some (if n = 1 then (⟨1, Fl.clean (Fl.lower N), as_, b, r3⟩ : Fl.Tag) else ⟨2, Fl.clean (Fl.lower N), [], false, r3⟩) = T from hT)
            clear hT
            have hf : attrs_Read.f s (M : Int) = some (as_.map toS, b, ((s.size - r3.length : Nat) : Int), true) := by
              unfold attrs_Read.f; rw [if_pos hs, if_neg (by omega), Int.toNat_natCast, hA.1, hrl]
            have hc := attrs_Read.calls s (M : Int) _ _ _ _ wr (Gl.below HG.out HBr.out) hf
            obtain ⟨Z, hZ⟩ : ∃ Z : Nat, Z = s.size - r3.length := ⟨_, rfl⟩
            rw [← hZ] at hc
            clear hf hrl hA
            refine hc.mono ?_
            rintro e w2 ⟨v, rfl, hr, hb2⟩
            obtain ⟨A0, c0, hv0⟩ := Kd.R_slice hr
            rw [List.length_map] at hv0
            subst hv0
            have hg1 := blk_lt Hbr.out
            have HR2 := Lib.hid (Kd.R_lower (base' := w.heap.size) (Kd.R_mono (ok' := fun k => k ≠ w.heap.size) (Kd.R_bound hr) (fun k h => by have := h.2.1; omega)) HBr.out.size)
            have Hbk2 := Lib.hid (blk_below Hbr.out hb2)
            have HB2 := Lib.hid (HBr.out.trans (hb2.mono HBr.out.size))
            clear hb2 hr hc Hbr HBr
            go_wp2_with fail
            refine (sign_Lower.calls _ _ _ HLow.out).mono ?_
            rintro e w3 ⟨rfl, hb3⟩
            have HR3 := Lib.hid (Kd.R_below HR2.out hb3)
            have Hbk3 := Lib.hid (blk_below Hbk2.out hb3)
            have HB3 := Lib.hid (HB2.out.trans (hb3.mono HB2.out.size))
            clear hb3 HR2 Hbk2 HB2
            go_wp2_with fail
            refine (lines_Clean.calls _ _ _ HCl.out).mono ?_
            rintro e w4 ⟨rfl, hb4⟩
            have HR4 := Lib.hid (Kd.R_below HR3.out hb4)
            have hbk := blk_below Hbk3.out hb4
            have c0 := (blk_cell hbk 0).trans rfl
            have z0 := blk_frozen hbk 0
            have c1 := (blk_cell hbk 1).trans rfl
            have z1 := blk_frozen hbk 1
            have c2 := (blk_cell hbk 2).trans rfl
            have z2 := blk_frozen hbk 2
            have c3 := (blk_cell hbk 3).trans rfl
            have z3 := blk_frozen hbk 3
            have c4 := (blk_cell hbk 4).trans rfl
            have z4 := blk_frozen hbk 4
            have HB4 := Lib.hid (HB3.out.trans (hb4.mono HB3.out.size))
            clear hb4 HR3 Hbk3 HB3
            by_cases hn1 : n = 1
            · have hgt : ¬ ((n : Int) > 1) := by omega
              have HT1 := Lib.hid (show some (⟨1, Fl.clean (Fl.lower N), as_, b, r3⟩ : Fl.Tag) = T by have := HTT.out; rw [if_pos hn1] at this; exact this)
              clear hn1 HTT
              go_wp2_with fail
              refine bodyPost_ret (results_ctt rfl _ _ w.heap.size 39 _ (0, 0) _ rfl (tok5 hbk _ _ _ _ _) Tryd.underlying39 rfl tokInfo) rfl ?_
              refine Or.inr ⟨_, _, HT1.out.symm, ?_, row5 HR4.out _ _ _ _ _, below5 HB4.out _ _ _ _ _⟩
              rw [← hZ]; rfl
            · have hgt : (n : Int) > 1 := by omega
              have HT1 := Lib.hid (show some (⟨2, Fl.clean (Fl.lower N), [], false, r3⟩ : Fl.Tag) = T by have := HTT.out; rw [if_neg hn1] at this; exact this)
              clear hn1 HTT
              go_wp2_with fail
              refine bodyPost_ret (results_ctt rfl _ _ w.heap.size 39 _ (0, 0) _ rfl (tok5 hbk _ _ _ _ _) Tryd.underlying39 rfl tokInfo) rfl ?_
              refine Or.inr ⟨_, _, HT1.out.symm, ?_, Kd.R_nil _ _ _ _ _, below5 HB4.out _ _ _ _ _⟩
              rw [← hZ]; rfl
        · have e47 : (bt s x == 47) = false := by
            rw [hbx, beq_eq_false_iff_ne]
            intro e; exact h47 (UInt8.toNat_inj.1 (by have : (47 : UInt8).toNat = 47 := rfl; omega))
          have n47 : (bt s x != 47) = true := bne_iff_ne.2 (beq_eq_false_iff_ne.1 e47)
          by_cases h62 : c = 62
          · have e62 : (bt s x == 62) = true := by rw [hbx, h62]; rfl
            have n62 : (bt s x != 62) = false := by rw [hbx, h62]; rfl
            have HE := Lib.hid (hexit (by unfold Fl.nm; rw [hsc, h62]; rfl))
            clear hexit hgo hxp hsz hlq hbx hsc h1 h3 h47 h62
            replace p4 := eq_true p4
            replace q4 := eq_true q4
            have HSp := Lib.hid hsp
            clear hsp
            go_wp2_with (first | (go_at_call 34; refine (HSp.out _).mono ?_; rintro e w9 ⟨rfl, ⟨⟨nd, rfl⟩⟩⟩) | (go_at_call 13; fail))
            have HBr := Lib.hid (pw_below_drewN HBr.out nd)
            have Hbr := Lib.hid (blk_drewN Hbr.out nd)
            clear p4 q4 hx4 HSp
            generalize wr.drewN nd = wr at *
            obtain ⟨hxM, hA⟩ := HE.out
            subst hxM
            have hT := HT.out
            have d4 : (M : Int) ≤ (s.size : Int) := by have := hA.le; omega
            clear HE HT
            rcases hrl : Fl.readL l2 with _ | ⟨as_, b, r3⟩
            · rw [hrl] at hT
              have HTT := Lib.hid (show none = T from hT)
              clear hT
              have hf : attrs_Read.f s (M : Int) = some ([], false, (s.size : Int), false) := by
                unfold attrs_Read.f; rw [if_pos hs, if_neg (by omega), Int.toNat_natCast, hA.1, hrl]
              have hc := attrs_Read.calls s (M : Int) _ _ _ _ wr (Gl.below HG.out HBr.out) hf
              clear hf hrl hA
              refine hc.mono ?_
              rintro e w2 ⟨v, rfl, hr, hb2⟩
              have hbk := blk_below Hbr.out hb2
              have c0 := (blk_cell hbk 0).trans rfl
              have z0 := blk_frozen hbk 0
              have c1 := (blk_cell hbk 1).trans rfl
              have z1 := blk_frozen hbk 1
              have c2 := (blk_cell hbk 2).trans rfl
              have z2 := blk_frozen hbk 2
              have c3 := (blk_cell hbk 3).trans rfl
              have z3 := blk_frozen hbk 3
              have c4 := (blk_cell hbk 4).trans rfl
              have z4 := blk_frozen hbk 4
              have HB2 := Lib.hid (HBr.out.trans (hb2.mono HBr.out.size))
              clear hb2 hr hc Hbr HBr
              go_wp2_with fail
              refine bodyPost_ret (results_ctt rfl _ _ w.heap.size 39 _ (0, 0) _ rfl (tok5 hbk _ _ _ _ _) Tryd.underlying39 rfl tokInfo) rfl ?_
              exact Or.inl ⟨HTT.out.symm, rfl, below5 HB2.out _ _ _ _ _⟩
            · rw [hrl] at hT
              have HTT := Lib.hid (show some (if n = 1 then (⟨1, Fl.clean (Fl.lower N), as_, b, r3⟩ : Fl.Tag) else ⟨2, Fl.clean (Fl.lower N), [], false, r3⟩) = T from hT)
              clear hT
              have hf : attrs_Read.f s (M : Int) = some (as_.map toS, b, ((s.size - r3.length : Nat) : Int), true) := by
                unfold attrs_Read.f; rw [if_pos hs, if_neg (by omega), Int.toNat_natCast, hA.1, hrl]
              have hc := attrs_Read.calls s (M : Int) _ _ _ _ wr (Gl.below HG.out HBr.out) hf
              obtain ⟨Z, hZ⟩ : ∃ Z : Nat, Z = s.size - r3.length := ⟨_, rfl⟩
              rw [← hZ] at hc
              clear hf hrl hA
              refine hc.mono ?_
              rintro e w2 ⟨v, rfl, hr, hb2⟩
              obtain ⟨A0, c0, hv0⟩ := Kd.R_slice hr
              rw [List.length_map] at hv0
              subst hv0
              have hg1 := blk_lt Hbr.out
              have HR2 := Lib.hid (Kd.R_lower (base' := w.heap.size) (Kd.R_mono (ok' := fun k => k ≠ w.heap.size) (Kd.R_bound hr) (fun k h => by have := h.2.1; omega)) HBr.out.size)
              have Hbk2 := Lib.hid (blk_below Hbr.out hb2)
              have HB2 := Lib.hid (HBr.out.trans (hb2.mono HBr.out.size))
              clear hb2 hr hc Hbr HBr
              go_wp2_with fail
              refine (sign_Lower.calls _ _ _ HLow.out).mono ?_
              rintro e w3 ⟨rfl, hb3⟩
              have HR3 := Lib.hid (Kd.R_below HR2.out hb3)
              have Hbk3 := Lib.hid (blk_below Hbk2.out hb3)
              have HB3 := Lib.hid (HB2.out.trans (hb3.mono HB2.out.size))
              clear hb3 HR2 Hbk2 HB2
              go_wp2_with fail
              refine (lines_Clean.calls _ _ _ HCl.out).mono ?_
              rintro e w4 ⟨rfl, hb4⟩
              have HR4 := Lib.hid (Kd.R_below HR3.out hb4)
              have hbk := blk_below Hbk3.out hb4
              have c0 := (blk_cell hbk 0).trans rfl
              have z0 := blk_frozen hbk 0
              have c1 := (blk_cell hbk 1).trans rfl
              have z1 := blk_frozen hbk 1
              have c2 := (blk_cell hbk 2).trans rfl
              have z2 := blk_frozen hbk 2
              have c3 := (blk_cell hbk 3).trans rfl
              have z3 := blk_frozen hbk 3
              have c4 := (blk_cell hbk 4).trans rfl
              have z4 := blk_frozen hbk 4
              have HB4 := Lib.hid (HB3.out.trans (hb4.mono HB3.out.size))
              clear hb4 HR3 Hbk3 HB3
              by_cases hn1 : n = 1
              · have hgt : ¬ ((n : Int) > 1) := by omega
                have HT1 := Lib.hid (show some (⟨1, Fl.clean (Fl.lower N), as_, b, r3⟩ : Fl.Tag) = T by have := HTT.out; rw [if_pos hn1] at this; exact this)
                clear hn1 HTT
                go_wp2_with fail
                refine bodyPost_ret (results_ctt rfl _ _ w.heap.size 39 _ (0, 0) _ rfl (tok5 hbk _ _ _ _ _) Tryd.underlying39 rfl tokInfo) rfl ?_
                refine Or.inr ⟨_, _, HT1.out.symm, ?_, row5 HR4.out _ _ _ _ _, below5 HB4.out _ _ _ _ _⟩
                rw [← hZ]; rfl
              · have hgt : (n : Int) > 1 := by omega
                have HT1 := Lib.hid (show some (⟨2, Fl.clean (Fl.lower N), [], false, r3⟩ : Fl.Tag) = T by have := HTT.out; rw [if_neg hn1] at this; exact this)
                clear hn1 HTT
                go_wp2_with fail
                refine bodyPost_ret (results_ctt rfl _ _ w.heap.size 39 _ (0, 0) _ rfl (tok5 hbk _ _ _ _ _) Tryd.underlying39 rfl tokInfo) rfl ?_
                refine Or.inr ⟨_, _, HT1.out.symm, ?_, Kd.R_nil _ _ _ _ _, below5 HB4.out _ _ _ _ _⟩
                rw [← hZ]; rfl
          · have e62 : (bt s x == 62) = false := by
              rw [hbx, beq_eq_false_iff_ne]
              intro e; exact h62 (UInt8.toNat_inj.1 (by have : (62 : UInt8).toNat = 62 := rfl; omega))
            have n62 : (bt s x != 62) = true := bne_iff_ne.2 (beq_eq_false_iff_ne.1 e62)
            have hnm : Fl.nm c = true := by
              unfold Fl.nm; rw [hsc, show (c == 47) = false by simpa using h47, show (c == 62) = false by simpa using h62]; rfl
            have HN := Lib.hid (hgo hnm)
            have HA3 := Lib.hid h3
            have HXP := Lib.hid hxp
            have hx9 : x < 9223372036854775807 := by omega
            clear hexit hgo hbx hsc h47 h62 hnm h3 hxp h1 hsz
            replace p4 := eq_true p4
            replace q4 := eq_true q4
            have HSp := Lib.hid hsp
            clear hsp
            go_wp2_with (first | (go_at_call 34; refine (HSp.out _).mono ?_; rintro e w9 ⟨rfl, ⟨⟨nd, rfl⟩⟩⟩))
            go_roundg r.length
            case measure => simp at hlq; omega
            case rel => exact ⟨_, rfl, Lib.hid ⟨pw_below_drewN HBr.out _, blk_drewN Hbr.out _⟩, Lib.hid ⟨p + 1, r, by have := HXP.out; first | omega | (unfold wrap64; omega), HA3.out, rfl, HN.out.1, HN.out.2⟩⟩

theorem nameL_mem (l : Fl.Bs) : True := trivial
noncomputable def tag_Read.f (a0 : ByteArray) (a1 : Int) : Option (Int × ByteArray × ByteArray × (List (S27)) × Bool × Int × Bool) :=
  if a0.size < 268435456 then
    if a1 < 0 ∨ (a0.size : Int) < a1 ∨ Fl.nameL ((Fl.toL a0).drop a1.toNat) = 0 then some (0, ⟨#[]⟩, ⟨#[]⟩, [], false, a1, false)
    else match Fl.tagL ((Fl.toL a0).drop a1.toNat) with
      | none => some (0, ⟨#[]⟩, ⟨#[]⟩, [], false, (a0.size : Int), false)
      | some t => some ((t.kind : Int), Fl.ofL t.name, ⟨#[]⟩, t.attrs.map toS, t.self, ((a0.size - t.rest.length : Nat) : Int), true)
  else none
theorem tag_Read.calls (a0 : ByteArray) (a1 : Int) (r1 : Int) (r2 : ByteArray) (r3 : ByteArray) (r4 : List (S27)) (r5 : Bool) (r6 : Int) (r7 : Bool) (w : World) (hG : Gl w) (h : tag_Read.f a0 a1 = some (r1, r2, r3, r4, r5, r6, r7)) :
    Calls Tryd.prog 18 #[.string a0, .int .i64 a1] w fun e w' => ∃ v3_ : Value, e = .returned (.tuple #[.agg #[.int .i64 r1, .string r2, .string r3, v3_, .bool r5], .int .i64 r6, .bool r7]) ∧ Kd.R k27 27 w' w.heap.size (fun _ => True) v3_ r4 ∧ Below w.heap.size w w' := by
  unfold tag_Read.f at h
  split at h
  · rename_i hs
    split at h
    · rename_i ho
      have hnf : tag_place_name.f a0 a1 = some 0 := by
        unfold tag_place_name.f
        rw [if_pos (by omega)]
        by_cases h1 : a1 < 0 ∨ (a0.size : Int) < a1
        · rw [if_pos h1]
        · rw [if_neg h1]
          have : Fl.nameL ((Fl.toL a0).drop a1.toNat) = 0 := by
            rcases ho with h2 | h2 | h2
            · exact absurd (Or.inl h2) h1
            · exact absurd (Or.inr h2) h1
            · exact h2
          rw [this]; rfl
      simp only [Option.some.injEq, Prod.mk.injEq] at h
      obtain ⟨rfl, rfl, rfl, rfl, rfl, rfl, rfl⟩ := h
      refine (tag_none a0 _ w hnf).mono ?_
      rintro e w1 ⟨rfl, hb⟩
      exact ⟨_, rfl, Kd.R_nil _ _ _ _ _, hb⟩
    · rename_i ho
      have h1 : ¬ (a1 < 0) := fun x => ho (Or.inl x)
      have h2 : ¬ ((a0.size : Int) < a1) := fun x => ho (Or.inr (Or.inl x))
      have h3 : Fl.nameL ((Fl.toL a0).drop a1.toNat) ≠ 0 := fun x => ho (Or.inr (Or.inr x))
      obtain ⟨n, rfl⟩ : ∃ n : Nat, a1 = n := ⟨a1.toNat, by omega⟩
      rw [Int.toNat_natCast] at h h3
      refine (tag_at a0 n _ _ w hG hs (Fl.At.of_drop a0 n (by omega)) rfl h3).mono ?_
      rintro e w1 (⟨hT, rfl, hb⟩ | ⟨t, v, hT, rfl, hr, hb⟩)
      · rw [hT] at h
        simp only [Option.some.injEq, Prod.mk.injEq] at h
        obtain ⟨rfl, rfl, rfl, rfl, rfl, rfl, rfl⟩ := h
        exact ⟨_, rfl, Kd.R_nil _ _ _ _ _, hb⟩
      · rw [hT] at h
        simp only [Option.some.injEq, Prod.mk.injEq] at h
        obtain ⟨rfl, rfl, rfl, rfl, rfl, rfl, rfl⟩ := h
        exact ⟨_, rfl, hr, hb⟩
  · cases h
end Go.Proofs.YtfhjfidkcdcjnaaDoor.Q

/- Tags, and small letters: plain laws on lists of bytes. No program in sight. -/
namespace Go.Proofs.YtfhjfidkcdcjnaaDoor.Fl
open Go
set_option linter.unusedVariables false
set_option linter.unusedSimpArgs false

theorem letter_nm (c : UInt8) (h : letter c = true) : nm c = true := by
  have := byteAll (fun c => !(letter c) || nm c) (by decide +kernel) c
  rw [h] at this; simpa using this
theorem letter_not (c : UInt8) (h : letter c = true) : c ≠ 47 ∧ c ≠ 62 ∧ c ≠ 60 := by
  have := byteAll (fun c => !(letter c) || (c != 47 && c != 62 && c != 60)) (by decide +kernel) c
  rw [h] at this; simpa [and_assoc] using this
theorem nameL_form {l : Bs} (h : nameL l ≠ 0) : ∃ x r, letter x = true ∧ ((nameL l = 1 ∧ l = 60 :: x :: r) ∨ (nameL l = 2 ∧ l = 60 :: 47 :: x :: r)) := by
  unfold nameL at h ⊢
  cases l with
  | nil => simp at h
  | cons c r =>
    simp only at h ⊢
    by_cases hc : c = 60
    · subst hc
      rw [if_pos rfl] at h ⊢
      by_cases h1 : headLetter r = true
      · rw [if_pos h1]
        cases r with
        | nil => simp [headLetter] at h1
        | cons x r => exact ⟨x, r, h1, Or.inl ⟨rfl, rfl⟩⟩
      · rw [if_neg h1] at h ⊢
        by_cases h2 : headIs 47 r = true ∧ headLetter (r.drop 1) = true
        · rw [if_pos h2]
          cases r with
          | nil => simp [headIs] at h2
          | cons y r =>
            obtain ⟨h3, h4⟩ := h2
            have hy : y = 47 := by simpa [headIs] using h3
            subst hy
            simp only [List.drop_one, List.tail_cons] at h4
            cases r with
            | nil => simp [headLetter] at h4
            | cons x r => exact ⟨x, r, h4, Or.inr ⟨rfl, rfl⟩⟩
        · rw [if_neg h2] at h; exact absurd rfl h
    · rw [if_neg hc] at h; exact absurd rfl h
theorem nameL_one {x : UInt8} (h : letter x = true) (r : Bs) : nameL (60 :: x :: r) = 1 := by
  unfold nameL; simp [headLetter, h]
theorem nameL_two {x : UInt8} (h : letter x = true) (r : Bs) : nameL (60 :: 47 :: x :: r) = 2 := by
  unfold nameL
  simp [headLetter, headIs, h, show letter 47 = false from by decide]
theorem tagL_one {x : UInt8} (h : letter x = true) (r : Bs) : tagL (60 :: x :: r) = (readL (r.dropWhile nm)).map fun y => ⟨1, clean (lower (x :: r.takeWhile nm)), y.1, y.2.1, y.2.2⟩ := by
  unfold tagL
  rw [nameL_one h]
  simp only [List.drop_one, List.tail_cons, List.dropWhile_cons, List.takeWhile_cons, letter_nm x h, if_true]
  cases readL (r.dropWhile nm) <;> rfl
theorem tagL_two {x : UInt8} (h : letter x = true) (r : Bs) : tagL (60 :: 47 :: x :: r) = (readL (r.dropWhile nm)).map fun y => ⟨2, clean (lower (x :: r.takeWhile nm)), [], false, y.2.2⟩ := by
  unfold tagL
  rw [nameL_two h]
  simp only [List.drop_succ_cons, List.drop_zero, List.dropWhile_cons, List.takeWhile_cons, letter_nm x h, if_true]
  cases readL (r.dropWhile nm) <;> rfl
/-- What stands behind a tag plays no part. -/
theorem tagL_local {l : Bs} {t : Tag} (hn : nameL l ≠ 0) (h : tagL l = some t) :
    ∃ p, l = p ++ 62 :: t.rest ∧ 2 ≤ p.length ∧ ∀ more, nameL (p ++ 62 :: more) = nameL l ∧ tagL (p ++ 62 :: more) = some { t with rest := more } := by
  obtain ⟨x, r, hx, ⟨_, rfl⟩ | ⟨_, rfl⟩⟩ := nameL_form hn
  · rw [tagL_one hx] at h
    obtain ⟨⟨as_, b, r2⟩, h1, h2⟩ := Option.map_eq_some_iff.1 h
    obtain ⟨p, hp1, _, hp2⟩ := readL_local h1
    have hs := take_drop_while nm r
    have hd := Hd.drop nm r
    rw [hp1] at hs hd
    subst h2
    have hH : ∀ more, Hd nm (p ++ 62 :: more) := by
      intro more
      cases p with
      | nil => exact Hd.cons (by decide) _
      | cons y p => exact Hd.cons (Hd.of hd) _
    refine ⟨60 :: x :: (r.takeWhile nm ++ p), by simp only [List.cons_append, List.append_assoc, hs], by simp, fun more => ?_⟩
    have e := tw_app (p := nm) r (hH more)
    simp only [List.cons_append, List.append_assoc]
    refine ⟨by rw [nameL_one hx, nameL_one hx], ?_⟩
    rw [tagL_one hx, e.1, e.2, hp2]; rfl
  · rw [tagL_two hx] at h
    obtain ⟨⟨as_, b, r2⟩, h1, h2⟩ := Option.map_eq_some_iff.1 h
    obtain ⟨p, hp1, _, hp2⟩ := readL_local h1
    have hs := take_drop_while nm r
    have hd := Hd.drop nm r
    rw [hp1] at hs hd
    subst h2
    have hH : ∀ more, Hd nm (p ++ 62 :: more) := by
      intro more
      cases p with
      | nil => exact Hd.cons (by decide) _
      | cons y p => exact Hd.cons (Hd.of hd) _
    refine ⟨60 :: 47 :: x :: (r.takeWhile nm ++ p), by simp only [List.cons_append, List.append_assoc, hs], by simp, fun more => ?_⟩
    have e := tw_app (p := nm) r (hH more)
    simp only [List.cons_append, List.append_assoc]
    refine ⟨by rw [nameL_two hx, nameL_two hx], ?_⟩
    rw [tagL_two hx, e.1, e.2, hp2]; rfl

/-! Small letters. -/
theorem lw_lw (c : UInt8) : lw (lw c) = lw c := by
  have := byteAll (fun c => lw (lw c) == lw c) (by decide +kernel) c
  simpa using this
theorem lower_lower (l : Bs) : lower (lower l) = lower l := by
  unfold lower; rw [List.map_map]; congr 1; funext c; exact lw_lw c
theorem lower_while {p : UInt8 → Bool} (hp : ∀ c, p (lw c) = p c) (l : Bs) : (lower l).takeWhile p = lower (l.takeWhile p) ∧ (lower l).dropWhile p = lower (l.dropWhile p) := by
  induction l with
  | nil => exact ⟨rfl, rfl⟩
  | cons c l ih =>
    show (lw c :: lower l).takeWhile p = _ ∧ (lw c :: lower l).dropWhile p = _
    rw [List.takeWhile_cons, List.dropWhile_cons, List.takeWhile_cons, List.dropWhile_cons, hp c]
    cases h : p c with
    | true => exact ⟨by rw [if_pos rfl, if_pos rfl, ih.1]; rfl, ih.2⟩
    | false => exact ⟨rfl, rfl⟩
theorem lw_space (c : UInt8) : space (lw c) = space c := by
  have := byteAll (fun c => space (lw c) == space c) (by decide +kernel) c
  simpa using this
theorem lw_nm (c : UInt8) : nm (lw c) = nm c := by
  have := byteAll (fun c => nm (lw c) == nm c) (by decide +kernel) c
  simpa using this
theorem lw_nend3 (c : UInt8) : nend [47, 62, 61] (lw c) = nend [47, 62, 61] c := by
  have := byteAll (fun c => nend [47, 62, 61] (lw c) == nend [47, 62, 61] c) (by decide +kernel) c
  simpa using this
theorem lw_nend1 (c : UInt8) : nend [62] (lw c) = nend [62] c := by
  have := byteAll (fun c => nend [62] (lw c) == nend [62] c) (by decide +kernel) c
  simpa using this
theorem lw_eq (d : UInt8) (h : (UInt8.ofNat 65 ≤ d && d ≤ 90 || UInt8.ofNat 97 ≤ d && d ≤ 122) = false) (c : UInt8) : (lw c = d) = (c = d) := by
  have := byteAll (fun d => (UInt8.ofNat 65 ≤ d && d ≤ 90 || UInt8.ofNat 97 ≤ d && d ≤ 122) || ((List.range 256).all fun n => (lw (UInt8.ofNat n) == d) == (UInt8.ofNat n == d))) (by decide +kernel) d
  rw [h, Bool.false_or, List.all_eq_true] at this
  have h2 := this c.toNat (List.mem_range.2 c.toNat_lt)
  rw [UInt8.ofNat_toNat] at h2
  have h3 : (lw c == d) = (c == d) := by simpa using h2
  exact propext ⟨fun e => by rw [e] at h3; simpa using h3.symm, fun e => by rw [e] at h3; rw [e]; simpa using h3⟩
theorem lower_cons (c : UInt8) (l : Bs) : lower (c :: l) = lw c :: lower l := rfl
theorem quotedL_lower (q : UInt8) (h : (UInt8.ofNat 65 ≤ q && q ≤ 90 || UInt8.ofNat 97 ≤ q && q ≤ 122) = false) (l : Bs) : quotedL q (lower l) = (quotedL q l).map fun x => (lower x.1, lower x.2) := by
  have hp : ∀ c, nq q (lw c) = nq q c := by
    intro c
    unfold nq
    have := lw_eq q h c
    rw [Bool.eq_iff_iff]; simp [this]
  unfold quotedL
  rw [(lower_while hp l).1, (lower_while hp l).2]
  cases l.dropWhile (nq q) <;> rfl
theorem valueTo_lower (l : Bs) : valueTo (lower l) = (valueTo l).map fun x => (lower x.1, lower x.2) := by
  cases l with
  | nil => rfl
  | cons c l =>
    rw [lower_cons]
    unfold valueTo
    simp only [lw_eq 34 (by decide) c, lw_eq 39 (by decide) c, lw_eq 62 (by decide) c]
    split
    · rename_i hc
      rcases hc with rfl | rfl
      · exact quotedL_lower 34 (by decide) l
      · exact quotedL_lower 39 (by decide) l
    · split
      · rfl
      · rw [(lower_while lw_nend1 l).1, (lower_while lw_nend1 l).2]; rfl
theorem valueL_lower (l : Bs) : valueL (lower l) = (valueL l).map fun x => (lower x.1, lower x.2) := by
  unfold valueL
  rw [(lower_while lw_space l).2]
  cases l.dropWhile space with
  | nil => rfl
  | cons c l2 =>
    rw [lower_cons]
    simp only [lw_eq 61 (by decide) c]
    split
    · rw [(lower_while lw_space l2).2, valueTo_lower]
    · rfl
theorem headIs_lower (d : UInt8) (h : (UInt8.ofNat 65 ≤ d && d ≤ 90 || UInt8.ofNat 97 ≤ d && d ≤ 122) = false) (l : Bs) : headIs d (lower l) = headIs d l := by
  cases l with
  | nil => rfl
  | cons c l =>
    rw [lower_cons]
    unfold headIs
    have := lw_eq d h c
    rw [Bool.eq_iff_iff]; simp [this]
/-- What names there are, whether the tag closes itself, and what stands behind it. -/
def sketch (x : List Att × Bool × Bs) : List Bs × Bool × Bs := (x.1.map (·.1), x.2.1, x.2.2)
theorem has_names (acc : List Att) (nm : Bs) : has acc nm = (acc.map (·.1)).contains nm := by
  unfold has
  induction acc with
  | nil => rfl
  | cons a acc ih =>
    rw [List.any_cons, List.map_cons, List.contains_cons, ih]
    congr 1
    rw [Bool.eq_iff_iff, beq_iff_eq, beq_iff_eq]; exact eq_comm
theorem add_names (acc : List Att) (nm v : Bs) : (add acc nm v).map (·.1) = if (acc.map (·.1)).contains nm = true then acc.map (·.1) else acc.map (·.1) ++ [nm] := by
  unfold add
  rw [has_names]
  split
  · rfl
  · rw [List.map_append]; rfl
theorem readN_lower : ∀ (n : Nat) (l : Bs) (acc acc' : List Att), acc'.map (·.1) = acc.map (·.1) →
    (readN n (lower l) acc').map sketch = (readN n l acc).map fun x => ((sketch x).1, (sketch x).2.1, lower (sketch x).2.2) := by
  intro n
  induction n with
  | zero => intro l acc acc' h; rfl
  | succ n ih =>
    intro l acc acc' h
    unfold readN
    rw [(lower_while lw_space l).2]
    cases l.dropWhile space with
    | nil => rfl
    | cons c l2 =>
      rw [lower_cons]
      simp only [lw_eq 62 (by decide) c, lw_eq 47 (by decide) c, headIs_lower 62 (by decide)]
      split
      · simp [sketch, h]
      · split
        · split
          · simp [sketch, h, lower]
          · exact ih l2 acc acc' h
        · rw [(lower_while lw_nend3 l2).1, (lower_while lw_nend3 l2).2, valueL_lower]
          cases valueL (l2.dropWhile (nend [47, 62, 61])) with
          | none => rfl
          | some q =>
            obtain ⟨v, r3⟩ := q
            simp only [Option.map_some]
            apply ih
            rw [add_names, add_names, h, ← lower_cons, lower_lower]
theorem lower_length (l : Bs) : (lower l).length = l.length := by unfold lower; rw [List.length_map]
theorem readL_lower (l : Bs) : (readL (lower l)).map sketch = (readL l).map fun x => ((sketch x).1, (sketch x).2.1, lower (sketch x).2.2) := by
  unfold readL
  rw [lower_length]
  exact readN_lower _ _ _ _ rfl
theorem letter_lw (c : UInt8) : letter (lw c) = letter c := by
  have := byteAll (fun c => letter (lw c) == letter c) (by decide +kernel) c
  simpa using this
theorem nameL_lower (l : Bs) : nameL (lower l) = nameL l := by
  cases l with
  | nil => rfl
  | cons c r =>
    have hh : ∀ r : Bs, headLetter (lower r) = headLetter r := fun r => by
      cases r with
      | nil => rfl
      | cons d r => exact letter_lw d
    rw [lower_cons]
    unfold nameL
    simp only [lw_eq 60 (by decide) c, headIs_lower 47 (by decide), hh]
    have : (lower r).drop 1 = lower (r.drop 1) := by unfold lower; rw [List.map_drop]
    rw [this, hh]
/-- A tag, without its values. -/
def Tag.shape (t : Tag) : Nat × Bs × List Bs × Bool × Bs := (t.kind, t.name, t.attrs.map (·.1), t.self, t.rest)
theorem tagL_lower {l : Bs} (hn : nameL l ≠ 0) : (tagL (lower l)).map Tag.shape = (tagL l).map fun t => (t.kind, t.name, t.attrs.map (·.1), t.self, lower t.rest) := by
  obtain ⟨x, r, hx, ⟨_, rfl⟩ | ⟨_, rfl⟩⟩ := nameL_form hn
  · have e : lower (60 :: x :: r) = 60 :: lw x :: lower r := rfl
    rw [e, tagL_one (by rw [letter_lw]; exact hx), tagL_one hx, (lower_while lw_nm r).1, (lower_while lw_nm r).2, ← lower_cons, lower_lower]
    have h := readL_lower (r.dropWhile nm)
    cases h1 : readL (lower (r.dropWhile nm)) <;> cases h2 : readL (r.dropWhile nm) <;> rw [h1, h2] at h <;> simp [sketch] at h
    · rfl
    · simp [Tag.shape, h]
  · have e : lower (60 :: 47 :: x :: r) = 60 :: 47 :: lw x :: lower r := rfl
    rw [e, tagL_two (by rw [letter_lw]; exact hx), tagL_two hx, (lower_while lw_nm r).1, (lower_while lw_nm r).2, ← lower_cons, lower_lower]
    have h := readL_lower (r.dropWhile nm)
    cases h1 : readL (lower (r.dropWhile nm)) <;> cases h2 : readL (r.dropWhile nm) <;> rw [h1, h2] at h <;> simp [sketch] at h
    · rfl
    · simp [Tag.shape, h]
end Go.Proofs.YtfhjfidkcdcjnaaDoor.Fl

namespace Go.Proofs.YtfhjfidkcdcjnaaDoor.Q
open Go.RowKit Go.Proofs.YtfhjfidkcdcjnaaDoorW.PrintWords Go.Proofs.YtfhjfidkcdcjnaaDoorW.PrintLast Go.Proofs.YtfhjfidkcdcjnaaDoorW.PrintMore
attribute [local go_sem] max2_int min2_int max_two min_two max_three min_three max_four min_four   -- for this text's walks alone
set_option linter.unusedVariables false
set_option linter.unusedSimpArgs false

/-! ### flailref09_Same: function 19 -/
noncomputable def flailref09_Same.f (k : Nat) (a0_0 : Int) (a0_1 : ByteArray) (a0_2 : ByteArray) (l0_3 : List (S27)) (a0_4 : Bool) (a1_0 : Int) (a1_1 : ByteArray) (a1_2 : ByteArray) (l1_3 : List (S27)) (a1_4 : Bool) : Option (Bool) := if a0_0 = a1_0 then (if a0_1.toList = a1_1.toList then (if a0_2.toList = a1_2.toList then (if (a0_4 == a1_4) = true then ((flailref08_Same.f k l0_3 l1_3).bind fun t275 => (some t275)) else (some false)) else (some false)) else (some false)) else (some false)
theorem flailref09_Same.mono : ∀ a0 a1 a2 a3 a4 a5 a6 a7 a8 a9 k, LeO (flailref09_Same.f k a0 a1 a2 a3 a4 a5 a6 a7 a8 a9) (flailref09_Same.f (k + 1) a0 a1 a2 a3 a4 a5 a6 a7 a8 a9) := by
  intro a0 a1 a2 a3 a4 a5 a6 a7 a8 a9 k
  unfold flailref09_Same.f
  repeat' first
      | (with_reducible exact flailref08_Same.mono _ _ _)
      | (with_reducible exact LeO.refl _)
      | (with_reducible exact LeO.none _)
      | (with_reducible refine LeO.ite ?_ ?_)
      | (with_reducible refine LeO.bind ?_ (fun _ => ?_))
      | exact flailref08_Same.mono _ _ _
      | exact LeO.none _
      | refine LeO.ite ?_ ?_
      | refine LeO.bind ?_ (fun _ => ?_)
set_option maxHeartbeats 8000000 in
set_option maxRecDepth 100000 in
theorem flailref09_Same.calls (k : Nat) (a0_0 : Int) (a0_1 : ByteArray) (a0_2 : ByteArray) (A0_3 : Option Addr) (c0_3 : Nat) (l0_3 : List (S27)) (a0_4 : Bool) (a1_0 : Int) (a1_1 : ByteArray) (a1_2 : ByteArray) (A1_3 : Option Addr) (c1_3 : Nat) (l1_3 : List (S27)) (a1_4 : Bool) (r : Bool) (w : World) (hr0_3 : Kd.C k27 w A0_3 l0_3.length l0_3) (hc0_3 : l0_3.length ≤ c0_3) (hr1_3 : Kd.C k27 w A1_3 l1_3.length l1_3) (hc1_3 : l1_3.length ≤ c1_3) (h : flailref09_Same.f k a0_0 a0_1 a0_2 l0_3 a0_4 a1_0 a1_1 a1_2 l1_3 a1_4 = some r) :
    Calls Tryd.prog 19 #[.agg #[.int .i64 a0_0, .string a0_1, .string a0_2, .slice A0_3 l0_3.length c0_3, .bool a0_4], .agg #[.int .i64 a1_0, .string a1_1, .string a1_2, .slice A1_3 l1_3.length c1_3, .bool a1_4]] w fun e w' => e = .returned (.bool r) ∧ Below w.heap.size w w' := by
  have hu39 := Tryd.underlying39
  have HR0_3 := Aside0.mk hr0_3
  have HC0_3 := Aside0.mk hc0_3
  clear hr0_3 hc0_3
  have HR1_3 := Aside0.mk hr1_3
  have HC1_3 := Aside0.mk hc1_3
  clear hr1_3 hc1_3
  have HB := Aside0.mk (Below.refl w.heap.size w)
  have H : (if a0_0 = a1_0 then (if a0_1.toList = a1_1.toList then (if a0_2.toList = a1_2.toList then (if (a0_4 == a1_4) = true then ((flailref08_Same.f k l0_3 l1_3).bind fun t275 => (some t275)) else (some false)) else (some false)) else (some false)) else (some false)) = some r := h
  clear h
  by_cases c3 : a0_0 = a1_0
  · rw [if_pos c3] at H
    have c3b0 : (a0_0 == a1_0) = true := beq_iff_eq.mpr c3
    have c3b1 : (a0_0 != a1_0) = false := bne_eq_false_iff_eq.mpr c3
    clear c3
    by_cases c4 : a0_1.toList = a1_1.toList
    · rw [if_pos c4] at H
      have c4b0 : (a0_1.toList == a1_1.toList) = true := beq_iff_eq.mpr c4
      have c4b1 : (a0_1.toList != a1_1.toList) = false := bne_eq_false_iff_eq.mpr c4
      clear c4
      by_cases c5 : a0_2.toList = a1_2.toList
      · rw [if_pos c5] at H
        have c5b0 : (a0_2.toList == a1_2.toList) = true := beq_iff_eq.mpr c5
        have c5b1 : (a0_2.toList != a1_2.toList) = false := bne_eq_false_iff_eq.mpr c5
        clear c5
        by_cases c6 : (a0_4 == a1_4) = true
        · rw [if_pos c6] at H
          have c6b0 : (a0_4 == a1_4) = true := c6
          (try (have c6b1 : decide (a0_4 = a1_4) = true := by simpa using c6))
          (try (have c6b2 : (a0_4 == a1_4) = true := by simpa using c6))
          clear c6
          replace H := Option.bind_eq_some_iff.mp H
          obtain ⟨t275, A70, H⟩ := H
          replace H : (some t275) = some r := H
          have A7 := Aside0.mk A70
          clear A70
          obtain rfl := Option.some.inj H
          go_enter Tryd.func19, Tryd.ntmps19
          go_wp2_with (first | ((with_reducible refine gate_dst (N := 2) rfl ?_); refine box_event ?hg (N := 2) ?hd (cs := #[.int .i64 a0_0, .string a0_1, .string a0_2, .slice A0_3 l0_3.length c0_3, .bool a0_4]) (t := 39) ?hr ?_; (case hd => rfl); (case hg => rfl); (case hr => first | (go_simp; done) | (go_simp; rfl)); intro gb273 hg w8 hbox hb; have n0_ := Aside0.mk (below_step (by repeat (first | (with_reducible first | exact HB.out | apply below_alloc | apply pw_below_drewN | apply below_drew1) | exact HB.out)) hb); have n1_ := Aside0.mk (hbox); have n2_ := Aside0.mk ((by rw [hg]; exact (below_size (by repeat (first | (with_reducible first | exact HB.out | apply below_alloc | apply pw_below_drewN | apply below_drew1) | exact HB.out))) : w.heap.size ≤ gb273)); have n3_ := Aside0.mk ((by rw [hg]; exact (below_size (by repeat (first | (with_reducible first | exact HB.out | apply below_alloc | apply pw_below_drewN | apply below_drew1) | exact HB.out))) : w.heap.size ≤ gb273)); clear HB; have HB := n0_; have BK273 := n1_; have GW273 := n2_; have GE273 := n3_; clear n0_ n1_ n2_ n3_; clear hb hbox hg) | ((with_reducible refine gate_dst (N := 3) rfl ?_); refine box_event ?hg (N := 3) ?hd (cs := #[.int .i64 a1_0, .string a1_1, .string a1_2, .slice A1_3 l1_3.length c1_3, .bool a1_4]) (t := 39) ?hr ?_; (case hd => rfl); (case hg => rfl); (case hr => first | (go_simp; done) | (go_simp; rfl)); intro gb274 hg w9 hbox hb; have n0_ := Aside0.mk (blk_below (g := gb273) (o := .cells #[.int .i64 a0_0, .string a0_1, .string a0_2, .slice A0_3 l0_3.length c0_3, .bool a0_4] 39 (0, 0)) (by (with_reducible repeat (first | refine blk_drewN ?_ _ | refine blk_drew ?_ | refine blk_alloc ?_ _)); exact BK273.out) hb); have n1_ := Aside0.mk (below_step (by repeat (first | (with_reducible first | exact HB.out | apply below_alloc | apply pw_below_drewN | apply below_drew1 | refine below_set ?_ GE273.out) | exact HB.out)) hb); have n2_ := Aside0.mk (hbox); have n3_ := Aside0.mk ((by rw [hg]; exact (below_size (by repeat (first | (with_reducible first | exact HB.out | apply below_alloc | apply pw_below_drewN | apply below_drew1 | refine below_set ?_ GE273.out) | exact HB.out))) : w.heap.size ≤ gb274)); have n4_ := Aside0.mk ((by rw [hg]; exact (below_size (by repeat (first | (with_reducible first | exact HB.out | apply below_alloc | apply pw_below_drewN | apply below_drew1 | refine below_set ?_ GE273.out) | exact HB.out))) : w.heap.size ≤ gb274)); have n5_ := Aside0.mk ((by rw [hg]; exact Nat.ne_of_lt (blk_lt (g := gb273) (o := .cells #[.int .i64 a0_0, .string a0_1, .string a0_2, .slice A0_3 l0_3.length c0_3, .bool a0_4] 39 (0, 0)) (by (with_reducible repeat (first | refine blk_drewN ?_ _ | refine blk_drew ?_ | refine blk_alloc ?_ _)); exact BK273.out)) : gb273 ≠ gb274)); have n6_ := Aside0.mk ((by rw [hg]; exact Nat.ne_of_gt (blk_lt (g := gb273) (o := .cells #[.int .i64 a0_0, .string a0_1, .string a0_2, .slice A0_3 l0_3.length c0_3, .bool a0_4] 39 (0, 0)) (by (with_reducible repeat (first | refine blk_drewN ?_ _ | refine blk_drew ?_ | refine blk_alloc ?_ _)); exact BK273.out)) : gb274 ≠ gb273)); clear BK273; clear HB; have BK273 := n0_; have HB := n1_; have BK274 := n2_; have GW274 := n3_; have GE274 := n4_; have NB273_274 := n5_; have NB274_273 := n6_; clear n0_ n1_ n2_ n3_ n4_ n5_ n6_; clear hb hbox hg; have hnb10 := NB273_274.out; have hnc10 := NB274_273.out; have hcz11_0 : w9.cell? ⟨gb273, 0, none⟩ = some (.int .i64 a0_0) := (blk_cell BK273.out 0).trans rfl; have hcz11_1 : w9.cell? ⟨gb273, 1, none⟩ = some (.string a0_1) := (blk_cell BK273.out 1).trans rfl; have hcz11_2 : w9.cell? ⟨gb273, 2, none⟩ = some (.string a0_2) := (blk_cell BK273.out 2).trans rfl; have hcz11_3 : w9.cell? ⟨gb273, 3, none⟩ = some (.slice A0_3 l0_3.length c0_3) := (blk_cell BK273.out 3).trans rfl; have hcz11_4 : w9.cell? ⟨gb273, 4, none⟩ = some (.bool a0_4) := (blk_cell BK273.out 4).trans rfl; have hfz11_0 := blk_frozen BK273.out 0; have hfz11_1 := blk_frozen BK273.out 1; have hfz11_2 := blk_frozen BK273.out 2; have hfz11_3 := blk_frozen BK273.out 3; have hfz11_4 := blk_frozen BK273.out 4; have hcz12_0 : w9.cell? ⟨gb274, 0, none⟩ = some (.int .i64 a1_0) := (blk_cell BK274.out 0).trans rfl; have hcz12_1 : w9.cell? ⟨gb274, 1, none⟩ = some (.string a1_1) := (blk_cell BK274.out 1).trans rfl; have hcz12_2 : w9.cell? ⟨gb274, 2, none⟩ = some (.string a1_2) := (blk_cell BK274.out 2).trans rfl; have hcz12_3 : w9.cell? ⟨gb274, 3, none⟩ = some (.slice A1_3 l1_3.length c1_3) := (blk_cell BK274.out 3).trans rfl; have hcz12_4 : w9.cell? ⟨gb274, 4, none⟩ = some (.bool a1_4) := (blk_cell BK274.out 4).trans rfl; have hfz12_0 := blk_frozen BK274.out 0; have hfz12_1 := blk_frozen BK274.out 1; have hfz12_2 := blk_frozen BK274.out 2; have hfz12_3 := blk_frozen BK274.out 3; have hfz12_4 := blk_frozen BK274.out 4) | (go_at_call 14; (with_reducible refine (flailref08_Same.calls k _ _ l0_3 _ _ l1_3 t275 _ ?side1 ?side2 ?side3 ?side4 A7.out).mono ?_); (case side1 => repeat (first | exact (Kd.C_below HR0_3.out HB.out) | (with_reducible refine Kd.C_alloc ?_ _) | (with_reducible refine Kd.C_drewN ?_ _) | (with_reducible refine Kd.C_drew ?_))); (case side2 => exact HC0_3.out); (case side3 => repeat (first | exact (Kd.C_below HR1_3.out HB.out) | (with_reducible refine Kd.C_alloc ?_ _) | (with_reducible refine Kd.C_drewN ?_ _) | (with_reducible refine Kd.C_drew ?_))); (case side4 => exact HC1_3.out); rintro e w' ⟨rfl, ⟨nd, rfl⟩⟩))
          go_ret
          exact ⟨by first | rfl | (simp [errW_none, errW_some] <;> rfl) | (simp [*, errW_none, errW_some] <;> rfl), by repeat (first | (with_reducible first | exact HB.out | apply below_alloc | apply pw_below_drewN | apply below_drew1 | refine below_set ?_ GE273.out | refine below_set ?_ GE274.out) | exact HB.out)⟩
        · rw [if_neg c6] at H
          have c6b0 : (a0_4 == a1_4) = false := by simpa using c6
          (try (have c6b1 : decide (a0_4 = a1_4) = false := by simpa using c6))
          (try (have c6b2 : (a0_4 == a1_4) = false := by simpa using c6))
          (try (have c6b3 : ¬ (a0_4 = a1_4) := by simpa using c6))
          clear c6
          obtain rfl := Option.some.inj H
          go_enter Tryd.func19, Tryd.ntmps19
          go_wp2_with (first | ((with_reducible refine gate_dst (N := 2) rfl ?_); refine box_event ?hg (N := 2) ?hd (cs := #[.int .i64 a0_0, .string a0_1, .string a0_2, .slice A0_3 l0_3.length c0_3, .bool a0_4]) (t := 39) ?hr ?_; (case hd => rfl); (case hg => rfl); (case hr => first | (go_simp; done) | (go_simp; rfl)); intro gb273 hg w13 hbox hb; have n0_ := Aside0.mk (below_step (by repeat (first | (with_reducible first | exact HB.out | apply below_alloc | apply pw_below_drewN | apply below_drew1) | exact HB.out)) hb); have n1_ := Aside0.mk (hbox); have n2_ := Aside0.mk ((by rw [hg]; exact (below_size (by repeat (first | (with_reducible first | exact HB.out | apply below_alloc | apply pw_below_drewN | apply below_drew1) | exact HB.out))) : w.heap.size ≤ gb273)); have n3_ := Aside0.mk ((by rw [hg]; exact (below_size (by repeat (first | (with_reducible first | exact HB.out | apply below_alloc | apply pw_below_drewN | apply below_drew1) | exact HB.out))) : w.heap.size ≤ gb273)); clear HB; have HB := n0_; have BK273 := n1_; have GW273 := n2_; have GE273 := n3_; clear n0_ n1_ n2_ n3_; clear hb hbox hg) | ((with_reducible refine gate_dst (N := 3) rfl ?_); refine box_event ?hg (N := 3) ?hd (cs := #[.int .i64 a1_0, .string a1_1, .string a1_2, .slice A1_3 l1_3.length c1_3, .bool a1_4]) (t := 39) ?hr ?_; (case hd => rfl); (case hg => rfl); (case hr => first | (go_simp; done) | (go_simp; rfl)); intro gb274 hg w14 hbox hb; have n0_ := Aside0.mk (blk_below (g := gb273) (o := .cells #[.int .i64 a0_0, .string a0_1, .string a0_2, .slice A0_3 l0_3.length c0_3, .bool a0_4] 39 (0, 0)) (by (with_reducible repeat (first | refine blk_drewN ?_ _ | refine blk_drew ?_ | refine blk_alloc ?_ _)); exact BK273.out) hb); have n1_ := Aside0.mk (below_step (by repeat (first | (with_reducible first | exact HB.out | apply below_alloc | apply pw_below_drewN | apply below_drew1 | refine below_set ?_ GE273.out) | exact HB.out)) hb); have n2_ := Aside0.mk (hbox); have n3_ := Aside0.mk ((by rw [hg]; exact (below_size (by repeat (first | (with_reducible first | exact HB.out | apply below_alloc | apply pw_below_drewN | apply below_drew1 | refine below_set ?_ GE273.out) | exact HB.out))) : w.heap.size ≤ gb274)); have n4_ := Aside0.mk ((by rw [hg]; exact (below_size (by repeat (first | (with_reducible first | exact HB.out | apply below_alloc | apply pw_below_drewN | apply below_drew1 | refine below_set ?_ GE273.out) | exact HB.out))) : w.heap.size ≤ gb274)); have n5_ := Aside0.mk ((by rw [hg]; exact Nat.ne_of_lt (blk_lt (g := gb273) (o := .cells #[.int .i64 a0_0, .string a0_1, .string a0_2, .slice A0_3 l0_3.length c0_3, .bool a0_4] 39 (0, 0)) (by (with_reducible repeat (first | refine blk_drewN ?_ _ | refine blk_drew ?_ | refine blk_alloc ?_ _)); exact BK273.out)) : gb273 ≠ gb274)); have n6_ := Aside0.mk ((by rw [hg]; exact Nat.ne_of_gt (blk_lt (g := gb273) (o := .cells #[.int .i64 a0_0, .string a0_1, .string a0_2, .slice A0_3 l0_3.length c0_3, .bool a0_4] 39 (0, 0)) (by (with_reducible repeat (first | refine blk_drewN ?_ _ | refine blk_drew ?_ | refine blk_alloc ?_ _)); exact BK273.out)) : gb274 ≠ gb273)); clear BK273; clear HB; have BK273 := n0_; have HB := n1_; have BK274 := n2_; have GW274 := n3_; have GE274 := n4_; have NB273_274 := n5_; have NB274_273 := n6_; clear n0_ n1_ n2_ n3_ n4_ n5_ n6_; clear hb hbox hg; have hnb15 := NB273_274.out; have hnc15 := NB274_273.out; have hcz16_0 : w14.cell? ⟨gb273, 0, none⟩ = some (.int .i64 a0_0) := (blk_cell BK273.out 0).trans rfl; have hcz16_1 : w14.cell? ⟨gb273, 1, none⟩ = some (.string a0_1) := (blk_cell BK273.out 1).trans rfl; have hcz16_2 : w14.cell? ⟨gb273, 2, none⟩ = some (.string a0_2) := (blk_cell BK273.out 2).trans rfl; have hcz16_3 : w14.cell? ⟨gb273, 3, none⟩ = some (.slice A0_3 l0_3.length c0_3) := (blk_cell BK273.out 3).trans rfl; have hcz16_4 : w14.cell? ⟨gb273, 4, none⟩ = some (.bool a0_4) := (blk_cell BK273.out 4).trans rfl; have hfz16_0 := blk_frozen BK273.out 0; have hfz16_1 := blk_frozen BK273.out 1; have hfz16_2 := blk_frozen BK273.out 2; have hfz16_3 := blk_frozen BK273.out 3; have hfz16_4 := blk_frozen BK273.out 4; have hcz17_0 : w14.cell? ⟨gb274, 0, none⟩ = some (.int .i64 a1_0) := (blk_cell BK274.out 0).trans rfl; have hcz17_1 : w14.cell? ⟨gb274, 1, none⟩ = some (.string a1_1) := (blk_cell BK274.out 1).trans rfl; have hcz17_2 : w14.cell? ⟨gb274, 2, none⟩ = some (.string a1_2) := (blk_cell BK274.out 2).trans rfl; have hcz17_3 : w14.cell? ⟨gb274, 3, none⟩ = some (.slice A1_3 l1_3.length c1_3) := (blk_cell BK274.out 3).trans rfl; have hcz17_4 : w14.cell? ⟨gb274, 4, none⟩ = some (.bool a1_4) := (blk_cell BK274.out 4).trans rfl; have hfz17_0 := blk_frozen BK274.out 0; have hfz17_1 := blk_frozen BK274.out 1; have hfz17_2 := blk_frozen BK274.out 2; have hfz17_3 := blk_frozen BK274.out 3; have hfz17_4 := blk_frozen BK274.out 4))
          go_ret
          exact ⟨by first | rfl | (simp [errW_none, errW_some] <;> rfl) | (simp [*, errW_none, errW_some] <;> rfl), by repeat (first | (with_reducible first | exact HB.out | apply below_alloc | apply pw_below_drewN | apply below_drew1 | refine below_set ?_ GE273.out | refine below_set ?_ GE274.out) | exact HB.out)⟩
      · rw [if_neg c5] at H
        have c5b0 : (a0_2.toList == a1_2.toList) = false := beq_eq_false_iff_ne.mpr c5
        have c5b1 : (a0_2.toList != a1_2.toList) = true := bne_iff_ne.mpr c5
        obtain rfl := Option.some.inj H
        go_enter Tryd.func19, Tryd.ntmps19
        go_wp2_with (first | ((with_reducible refine gate_dst (N := 2) rfl ?_); refine box_event ?hg (N := 2) ?hd (cs := #[.int .i64 a0_0, .string a0_1, .string a0_2, .slice A0_3 l0_3.length c0_3, .bool a0_4]) (t := 39) ?hr ?_; (case hd => rfl); (case hg => rfl); (case hr => first | (go_simp; done) | (go_simp; rfl)); intro gb273 hg w18 hbox hb; have n0_ := Aside0.mk (below_step (by repeat (first | (with_reducible first | exact HB.out | apply below_alloc | apply pw_below_drewN | apply below_drew1) | exact HB.out)) hb); have n1_ := Aside0.mk (hbox); have n2_ := Aside0.mk ((by rw [hg]; exact (below_size (by repeat (first | (with_reducible first | exact HB.out | apply below_alloc | apply pw_below_drewN | apply below_drew1) | exact HB.out))) : w.heap.size ≤ gb273)); have n3_ := Aside0.mk ((by rw [hg]; exact (below_size (by repeat (first | (with_reducible first | exact HB.out | apply below_alloc | apply pw_below_drewN | apply below_drew1) | exact HB.out))) : w.heap.size ≤ gb273)); clear HB; have HB := n0_; have BK273 := n1_; have GW273 := n2_; have GE273 := n3_; clear n0_ n1_ n2_ n3_; clear hb hbox hg) | ((with_reducible refine gate_dst (N := 3) rfl ?_); refine box_event ?hg (N := 3) ?hd (cs := #[.int .i64 a1_0, .string a1_1, .string a1_2, .slice A1_3 l1_3.length c1_3, .bool a1_4]) (t := 39) ?hr ?_; (case hd => rfl); (case hg => rfl); (case hr => first | (go_simp; done) | (go_simp; rfl)); intro gb274 hg w19 hbox hb; have n0_ := Aside0.mk (blk_below (g := gb273) (o := .cells #[.int .i64 a0_0, .string a0_1, .string a0_2, .slice A0_3 l0_3.length c0_3, .bool a0_4] 39 (0, 0)) (by (with_reducible repeat (first | refine blk_drewN ?_ _ | refine blk_drew ?_ | refine blk_alloc ?_ _)); exact BK273.out) hb); have n1_ := Aside0.mk (below_step (by repeat (first | (with_reducible first | exact HB.out | apply below_alloc | apply pw_below_drewN | apply below_drew1 | refine below_set ?_ GE273.out) | exact HB.out)) hb); have n2_ := Aside0.mk (hbox); have n3_ := Aside0.mk ((by rw [hg]; exact (below_size (by repeat (first | (with_reducible first | exact HB.out | apply below_alloc | apply pw_below_drewN | apply below_drew1 | refine below_set ?_ GE273.out) | exact HB.out))) : w.heap.size ≤ gb274)); have n4_ := Aside0.mk ((by rw [hg]; exact (below_size (by repeat (first | (with_reducible first | exact HB.out | apply below_alloc | apply pw_below_drewN | apply below_drew1 | refine below_set ?_ GE273.out) | exact HB.out))) : w.heap.size ≤ gb274)); have n5_ := Aside0.mk ((by rw [hg]; exact Nat.ne_of_lt (blk_lt (g := gb273) (o := .cells #[.int .i64 a0_0, .string a0_1, .string a0_2, .slice A0_3 l0_3.length c0_3, .bool a0_4] 39 (0, 0)) (by (with_reducible repeat (first | refine blk_drewN ?_ _ | refine blk_drew ?_ | refine blk_alloc ?_ _)); exact BK273.out)) : gb273 ≠ gb274)); have n6_ := Aside0.mk ((by rw [hg]; exact Nat.ne_of_gt (blk_lt (g := gb273) (o := .cells #[.int .i64 a0_0, .string a0_1, .string a0_2, .slice A0_3 l0_3.length c0_3, .bool a0_4] 39 (0, 0)) (by (with_reducible repeat (first | refine blk_drewN ?_ _ | refine blk_drew ?_ | refine blk_alloc ?_ _)); exact BK273.out)) : gb274 ≠ gb273)); clear BK273; clear HB; have BK273 := n0_; have HB := n1_; have BK274 := n2_; have GW274 := n3_; have GE274 := n4_; have NB273_274 := n5_; have NB274_273 := n6_; clear n0_ n1_ n2_ n3_ n4_ n5_ n6_; clear hb hbox hg; have hnb20 := NB273_274.out; have hnc20 := NB274_273.out; have hcz21_0 : w19.cell? ⟨gb273, 0, none⟩ = some (.int .i64 a0_0) := (blk_cell BK273.out 0).trans rfl; have hcz21_1 : w19.cell? ⟨gb273, 1, none⟩ = some (.string a0_1) := (blk_cell BK273.out 1).trans rfl; have hcz21_2 : w19.cell? ⟨gb273, 2, none⟩ = some (.string a0_2) := (blk_cell BK273.out 2).trans rfl; have hcz21_3 : w19.cell? ⟨gb273, 3, none⟩ = some (.slice A0_3 l0_3.length c0_3) := (blk_cell BK273.out 3).trans rfl; have hcz21_4 : w19.cell? ⟨gb273, 4, none⟩ = some (.bool a0_4) := (blk_cell BK273.out 4).trans rfl; have hfz21_0 := blk_frozen BK273.out 0; have hfz21_1 := blk_frozen BK273.out 1; have hfz21_2 := blk_frozen BK273.out 2; have hfz21_3 := blk_frozen BK273.out 3; have hfz21_4 := blk_frozen BK273.out 4; have hcz22_0 : w19.cell? ⟨gb274, 0, none⟩ = some (.int .i64 a1_0) := (blk_cell BK274.out 0).trans rfl; have hcz22_1 : w19.cell? ⟨gb274, 1, none⟩ = some (.string a1_1) := (blk_cell BK274.out 1).trans rfl; have hcz22_2 : w19.cell? ⟨gb274, 2, none⟩ = some (.string a1_2) := (blk_cell BK274.out 2).trans rfl; have hcz22_3 : w19.cell? ⟨gb274, 3, none⟩ = some (.slice A1_3 l1_3.length c1_3) := (blk_cell BK274.out 3).trans rfl; have hcz22_4 : w19.cell? ⟨gb274, 4, none⟩ = some (.bool a1_4) := (blk_cell BK274.out 4).trans rfl; have hfz22_0 := blk_frozen BK274.out 0; have hfz22_1 := blk_frozen BK274.out 1; have hfz22_2 := blk_frozen BK274.out 2; have hfz22_3 := blk_frozen BK274.out 3; have hfz22_4 := blk_frozen BK274.out 4))
        go_ret
        exact ⟨by first | rfl | (simp [errW_none, errW_some] <;> rfl) | (simp [*, errW_none, errW_some] <;> rfl), by repeat (first | (with_reducible first | exact HB.out | apply below_alloc | apply pw_below_drewN | apply below_drew1 | refine below_set ?_ GE273.out | refine below_set ?_ GE274.out) | exact HB.out)⟩
    · rw [if_neg c4] at H
      have c4b0 : (a0_1.toList == a1_1.toList) = false := beq_eq_false_iff_ne.mpr c4
      have c4b1 : (a0_1.toList != a1_1.toList) = true := bne_iff_ne.mpr c4
      obtain rfl := Option.some.inj H
      go_enter Tryd.func19, Tryd.ntmps19
      go_wp2_with (first | ((with_reducible refine gate_dst (N := 2) rfl ?_); refine box_event ?hg (N := 2) ?hd (cs := #[.int .i64 a0_0, .string a0_1, .string a0_2, .slice A0_3 l0_3.length c0_3, .bool a0_4]) (t := 39) ?hr ?_; (case hd => rfl); (case hg => rfl); (case hr => first | (go_simp; done) | (go_simp; rfl)); intro gb273 hg w23 hbox hb; have n0_ := Aside0.mk (below_step (by repeat (first | (with_reducible first | exact HB.out | apply below_alloc | apply pw_below_drewN | apply below_drew1) | exact HB.out)) hb); have n1_ := Aside0.mk (hbox); have n2_ := Aside0.mk ((by rw [hg]; exact (below_size (by repeat (first | (with_reducible first | exact HB.out | apply below_alloc | apply pw_below_drewN | apply below_drew1) | exact HB.out))) : w.heap.size ≤ gb273)); have n3_ := Aside0.mk ((by rw [hg]; exact (below_size (by repeat (first | (with_reducible first | exact HB.out | apply below_alloc | apply pw_below_drewN | apply below_drew1) | exact HB.out))) : w.heap.size ≤ gb273)); clear HB; have HB := n0_; have BK273 := n1_; have GW273 := n2_; have GE273 := n3_; clear n0_ n1_ n2_ n3_; clear hb hbox hg) | ((with_reducible refine gate_dst (N := 3) rfl ?_); refine box_event ?hg (N := 3) ?hd (cs := #[.int .i64 a1_0, .string a1_1, .string a1_2, .slice A1_3 l1_3.length c1_3, .bool a1_4]) (t := 39) ?hr ?_; (case hd => rfl); (case hg => rfl); (case hr => first | (go_simp; done) | (go_simp; rfl)); intro gb274 hg w24 hbox hb; have n0_ := Aside0.mk (blk_below (g := gb273) (o := .cells #[.int .i64 a0_0, .string a0_1, .string a0_2, .slice A0_3 l0_3.length c0_3, .bool a0_4] 39 (0, 0)) (by (with_reducible repeat (first | refine blk_drewN ?_ _ | refine blk_drew ?_ | refine blk_alloc ?_ _)); exact BK273.out) hb); have n1_ := Aside0.mk (below_step (by repeat (first | (with_reducible first | exact HB.out | apply below_alloc | apply pw_below_drewN | apply below_drew1 | refine below_set ?_ GE273.out) | exact HB.out)) hb); have n2_ := Aside0.mk (hbox); have n3_ := Aside0.mk ((by rw [hg]; exact (below_size (by repeat (first | (with_reducible first | exact HB.out | apply below_alloc | apply pw_below_drewN | apply below_drew1 | refine below_set ?_ GE273.out) | exact HB.out))) : w.heap.size ≤ gb274)); have n4_ := Aside0.mk ((by rw [hg]; exact (below_size (by repeat (first | (with_reducible first | exact HB.out | apply below_alloc | apply pw_below_drewN | apply below_drew1 | refine below_set ?_ GE273.out) | exact HB.out))) : w.heap.size ≤ gb274)); have n5_ := Aside0.mk ((by rw [hg]; exact Nat.ne_of_lt (blk_lt (g := gb273) (o := .cells #[.int .i64 a0_0, .string a0_1, .string a0_2, .slice A0_3 l0_3.length c0_3, .bool a0_4] 39 (0, 0)) (by (with_reducible repeat (first | refine blk_drewN ?_ _ | refine blk_drew ?_ | refine blk_alloc ?_ _)); exact BK273.out)) : gb273 ≠ gb274)); have n6_ := Aside0.mk ((by rw [hg]; exact Nat.ne_of_gt (blk_lt (g := gb273) (o := .cells #[.int .i64 a0_0, .string a0_1, .string a0_2, .slice A0_3 l0_3.length c0_3, .bool a0_4] 39 (0, 0)) (by (with_reducible repeat (first | refine blk_drewN ?_ _ | refine blk_drew ?_ | refine blk_alloc ?_ _)); exact BK273.out)) : gb274 ≠ gb273)); clear BK273; clear HB; have BK273 := n0_; have HB := n1_; have BK274 := n2_; have GW274 := n3_; have GE274 := n4_; have NB273_274 := n5_; have NB274_273 := n6_; clear n0_ n1_ n2_ n3_ n4_ n5_ n6_; clear hb hbox hg; have hnb25 := NB273_274.out; have hnc25 := NB274_273.out; have hcz26_0 : w24.cell? ⟨gb273, 0, none⟩ = some (.int .i64 a0_0) := (blk_cell BK273.out 0).trans rfl; have hcz26_1 : w24.cell? ⟨gb273, 1, none⟩ = some (.string a0_1) := (blk_cell BK273.out 1).trans rfl; have hcz26_2 : w24.cell? ⟨gb273, 2, none⟩ = some (.string a0_2) := (blk_cell BK273.out 2).trans rfl; have hcz26_3 : w24.cell? ⟨gb273, 3, none⟩ = some (.slice A0_3 l0_3.length c0_3) := (blk_cell BK273.out 3).trans rfl; have hcz26_4 : w24.cell? ⟨gb273, 4, none⟩ = some (.bool a0_4) := (blk_cell BK273.out 4).trans rfl; have hfz26_0 := blk_frozen BK273.out 0; have hfz26_1 := blk_frozen BK273.out 1; have hfz26_2 := blk_frozen BK273.out 2; have hfz26_3 := blk_frozen BK273.out 3; have hfz26_4 := blk_frozen BK273.out 4; have hcz27_0 : w24.cell? ⟨gb274, 0, none⟩ = some (.int .i64 a1_0) := (blk_cell BK274.out 0).trans rfl; have hcz27_1 : w24.cell? ⟨gb274, 1, none⟩ = some (.string a1_1) := (blk_cell BK274.out 1).trans rfl; have hcz27_2 : w24.cell? ⟨gb274, 2, none⟩ = some (.string a1_2) := (blk_cell BK274.out 2).trans rfl; have hcz27_3 : w24.cell? ⟨gb274, 3, none⟩ = some (.slice A1_3 l1_3.length c1_3) := (blk_cell BK274.out 3).trans rfl; have hcz27_4 : w24.cell? ⟨gb274, 4, none⟩ = some (.bool a1_4) := (blk_cell BK274.out 4).trans rfl; have hfz27_0 := blk_frozen BK274.out 0; have hfz27_1 := blk_frozen BK274.out 1; have hfz27_2 := blk_frozen BK274.out 2; have hfz27_3 := blk_frozen BK274.out 3; have hfz27_4 := blk_frozen BK274.out 4))
      go_ret
      exact ⟨by first | rfl | (simp [errW_none, errW_some] <;> rfl) | (simp [*, errW_none, errW_some] <;> rfl), by repeat (first | (with_reducible first | exact HB.out | apply below_alloc | apply pw_below_drewN | apply below_drew1 | refine below_set ?_ GE273.out | refine below_set ?_ GE274.out) | exact HB.out)⟩
  · rw [if_neg c3] at H
    have c3b0 : (a0_0 == a1_0) = false := beq_eq_false_iff_ne.mpr c3
    have c3b1 : (a0_0 != a1_0) = true := bne_iff_ne.mpr c3
    obtain rfl := Option.some.inj H
    go_enter Tryd.func19, Tryd.ntmps19
    go_wp2_with (first | ((with_reducible refine gate_dst (N := 2) rfl ?_); refine box_event ?hg (N := 2) ?hd (cs := #[.int .i64 a0_0, .string a0_1, .string a0_2, .slice A0_3 l0_3.length c0_3, .bool a0_4]) (t := 39) ?hr ?_; (case hd => rfl); (case hg => rfl); (case hr => first | (go_simp; done) | (go_simp; rfl)); intro gb273 hg w28 hbox hb; have n0_ := Aside0.mk (below_step (by repeat (first | (with_reducible first | exact HB.out | apply below_alloc | apply pw_below_drewN | apply below_drew1) | exact HB.out)) hb); have n1_ := Aside0.mk (hbox); have n2_ := Aside0.mk ((by rw [hg]; exact (below_size (by repeat (first | (with_reducible first | exact HB.out | apply below_alloc | apply pw_below_drewN | apply below_drew1) | exact HB.out))) : w.heap.size ≤ gb273)); have n3_ := Aside0.mk ((by rw [hg]; exact (below_size (by repeat (first | (with_reducible first | exact HB.out | apply below_alloc | apply pw_below_drewN | apply below_drew1) | exact HB.out))) : w.heap.size ≤ gb273)); clear HB; have HB := n0_; have BK273 := n1_; have GW273 := n2_; have GE273 := n3_; clear n0_ n1_ n2_ n3_; clear hb hbox hg) | ((with_reducible refine gate_dst (N := 3) rfl ?_); refine box_event ?hg (N := 3) ?hd (cs := #[.int .i64 a1_0, .string a1_1, .string a1_2, .slice A1_3 l1_3.length c1_3, .bool a1_4]) (t := 39) ?hr ?_; (case hd => rfl); (case hg => rfl); (case hr => first | (go_simp; done) | (go_simp; rfl)); intro gb274 hg w29 hbox hb; have n0_ := Aside0.mk (blk_below (g := gb273) (o := .cells #[.int .i64 a0_0, .string a0_1, .string a0_2, .slice A0_3 l0_3.length c0_3, .bool a0_4] 39 (0, 0)) (by (with_reducible repeat (first | refine blk_drewN ?_ _ | refine blk_drew ?_ | refine blk_alloc ?_ _)); exact BK273.out) hb); have n1_ := Aside0.mk (below_step (by repeat (first | (with_reducible first | exact HB.out | apply below_alloc | apply pw_below_drewN | apply below_drew1 | refine below_set ?_ GE273.out) | exact HB.out)) hb); have n2_ := Aside0.mk (hbox); have n3_ := Aside0.mk ((by rw [hg]; exact (below_size (by repeat (first | (with_reducible first | exact HB.out | apply below_alloc | apply pw_below_drewN | apply below_drew1 | refine below_set ?_ GE273.out) | exact HB.out))) : w.heap.size ≤ gb274)); have n4_ := Aside0.mk ((by rw [hg]; exact (below_size (by repeat (first | (with_reducible first | exact HB.out | apply below_alloc | apply pw_below_drewN | apply below_drew1 | refine below_set ?_ GE273.out) | exact HB.out))) : w.heap.size ≤ gb274)); have n5_ := Aside0.mk ((by rw [hg]; exact Nat.ne_of_lt (blk_lt (g := gb273) (o := .cells #[.int .i64 a0_0, .string a0_1, .string a0_2, .slice A0_3 l0_3.length c0_3, .bool a0_4] 39 (0, 0)) (by (with_reducible repeat (first | refine blk_drewN ?_ _ | refine blk_drew ?_ | refine blk_alloc ?_ _)); exact BK273.out)) : gb273 ≠ gb274)); have n6_ := Aside0.mk ((by rw [hg]; exact Nat.ne_of_gt (blk_lt (g := gb273) (o := .cells #[.int .i64 a0_0, .string a0_1, .string a0_2, .slice A0_3 l0_3.length c0_3, .bool a0_4] 39 (0, 0)) (by (with_reducible repeat (first | refine blk_drewN ?_ _ | refine blk_drew ?_ | refine blk_alloc ?_ _)); exact BK273.out)) : gb274 ≠ gb273)); clear BK273; clear HB; have BK273 := n0_; have HB := n1_; have BK274 := n2_; have GW274 := n3_; have GE274 := n4_; have NB273_274 := n5_; have NB274_273 := n6_; clear n0_ n1_ n2_ n3_ n4_ n5_ n6_; clear hb hbox hg; have hnb30 := NB273_274.out; have hnc30 := NB274_273.out; have hcz31_0 : w29.cell? ⟨gb273, 0, none⟩ = some (.int .i64 a0_0) := (blk_cell BK273.out 0).trans rfl; have hcz31_1 : w29.cell? ⟨gb273, 1, none⟩ = some (.string a0_1) := (blk_cell BK273.out 1).trans rfl; have hcz31_2 : w29.cell? ⟨gb273, 2, none⟩ = some (.string a0_2) := (blk_cell BK273.out 2).trans rfl; have hcz31_3 : w29.cell? ⟨gb273, 3, none⟩ = some (.slice A0_3 l0_3.length c0_3) := (blk_cell BK273.out 3).trans rfl; have hcz31_4 : w29.cell? ⟨gb273, 4, none⟩ = some (.bool a0_4) := (blk_cell BK273.out 4).trans rfl; have hfz31_0 := blk_frozen BK273.out 0; have hfz31_1 := blk_frozen BK273.out 1; have hfz31_2 := blk_frozen BK273.out 2; have hfz31_3 := blk_frozen BK273.out 3; have hfz31_4 := blk_frozen BK273.out 4; have hcz32_0 : w29.cell? ⟨gb274, 0, none⟩ = some (.int .i64 a1_0) := (blk_cell BK274.out 0).trans rfl; have hcz32_1 : w29.cell? ⟨gb274, 1, none⟩ = some (.string a1_1) := (blk_cell BK274.out 1).trans rfl; have hcz32_2 : w29.cell? ⟨gb274, 2, none⟩ = some (.string a1_2) := (blk_cell BK274.out 2).trans rfl; have hcz32_3 : w29.cell? ⟨gb274, 3, none⟩ = some (.slice A1_3 l1_3.length c1_3) := (blk_cell BK274.out 3).trans rfl; have hcz32_4 : w29.cell? ⟨gb274, 4, none⟩ = some (.bool a1_4) := (blk_cell BK274.out 4).trans rfl; have hfz32_0 := blk_frozen BK274.out 0; have hfz32_1 := blk_frozen BK274.out 1; have hfz32_2 := blk_frozen BK274.out 2; have hfz32_3 := blk_frozen BK274.out 3; have hfz32_4 := blk_frozen BK274.out 4))
    go_ret
    exact ⟨by first | rfl | (simp [errW_none, errW_some] <;> rfl) | (simp [*, errW_none, errW_some] <;> rfl), by repeat (first | (with_reducible first | exact HB.out | apply below_alloc | apply pw_below_drewN | apply below_drew1 | refine below_set ?_ GE273.out | refine below_set ?_ GE274.out) | exact HB.out)⟩

end Go.Proofs.YtfhjfidkcdcjnaaDoor.Q

namespace Go.Proofs.YtfhjfidkcdcjnaaDoor.Q
open Go.RowKit Go.Proofs.YtfhjfidkcdcjnaaDoorW.PrintWords Go.Proofs.YtfhjfidkcdcjnaaDoorW.PrintLast Go.Proofs.YtfhjfidkcdcjnaaDoorW.PrintMore
attribute [local go_sem] max2_int min2_int max_two min_two max_three min_three max_four min_four   -- for this text's walks alone
set_option linter.unusedVariables false
set_option linter.unusedSimpArgs false

/-! ### tag_Begins: function 20 -/
noncomputable def tag_Begins.f (a0 : ByteArray) (a1 : Int) : Option (Bool) := (tag_place_name.f a0 a1).bind fun t276 => (some (decide (t276 > 0)))
set_option maxHeartbeats 8000000 in
set_option maxRecDepth 100000 in
theorem tag_Begins.calls (a0 : ByteArray) (a1 : Int) (r : Bool) (w : World) (h : tag_Begins.f a0 a1 = some r) :
    Calls Tryd.prog 20 #[.string a0, .int .i64 a1] w fun e w' => e = .returned (.bool r) ∧ Below w.heap.size w w' := by
  have hu62 := Tryd.underlying62
  have HB := Aside0.mk (Below.refl w.heap.size w)
  have H : ((tag_place_name.f a0 a1).bind fun t276 => (some (decide (t276 > 0)))) = some r := h
  clear h
  replace H := Option.bind_eq_some_iff.mp H
  obtain ⟨t276, A30, H⟩ := H
  replace H : (some (decide (t276 > 0))) = some r := H
  have A3 := Aside0.mk A30
  clear A30
  obtain rfl := Option.some.inj H
  go_enter Tryd.func20, Tryd.ntmps20
  go_wp2_with (first | ((with_reducible refine gate_callee (f := 33) rfl ?_); refine goesL_ (some 8) rfl rfl Tryd.func33 (by kernel_rfl) rfl #[.agg #[.string a0, .int .i64 a1]] rfl (by (try simp only [List.map_toArray, List.map_cons, List.map_nil]); first | done | rfl | (simp only [List.length_drop, List.length_take]; rfl)) ?_; (with_reducible refine (tag_place_name.calls a0 a1 t276 _ A3.out).mono ?_); rintro e w4 ⟨rfl, hb⟩; refine ⟨_, rfl, ?_⟩; have n0_ := Aside0.mk (below_step (by repeat (first | (with_reducible first | exact HB.out | apply below_alloc | apply pw_below_drewN | apply below_drew1) | exact HB.out)) hb); clear HB; have HB := n0_; clear n0_; (try clear hb); (try clear hb2); (try clear hk); (try clear hi)))
  go_ret
  exact ⟨by first | rfl | (simp [errW_none, errW_some] <;> rfl) | (simp [*, errW_none, errW_some] <;> rfl), by repeat (first | (with_reducible first | exact HB.out | apply below_alloc | apply pw_below_drewN | apply below_drew1) | exact HB.out)⟩

end Go.Proofs.YtfhjfidkcdcjnaaDoor.Q

namespace Go.Proofs.YtfhjfidkcdcjnaaDoor.Q
open Go.RowKit Go.Proofs.YtfhjfidkcdcjnaaDoorW.PrintWords Go.Proofs.YtfhjfidkcdcjnaaDoorW.PrintLast Go.Proofs.YtfhjfidkcdcjnaaDoorW.PrintMore
attribute [local go_sem] max2_int min2_int max_two min_two max_three min_three max_four min_four   -- for this text's walks alone
set_option linter.unusedVariables false
set_option linter.unusedSimpArgs false

/-! ### flaillaw09_awake: function 17 -/
noncomputable def flaillaw09_awake.f (k : Nat)  : Option (Bool) := (tag_Read.f (⟨#[60, 65, 32, 120, 62]⟩ : ByteArray) 0).bind fun bt277 => ((tag_Read.f (⟨#[60, 47, 112, 32, 62]⟩ : ByteArray) 0).bind fun bt287 => (if bt277.2.2.2.2.2.2 = true then (if bt287.2.2.2.2.2.2 = true then (if bt277.2.2.2.2.2.1 = 5 then (if bt287.2.2.2.2.2.1 = 5 then ((tag_Begins.f (⟨#[60, 97]⟩ : ByteArray) 0).bind fun t297 => (if t297 = true then ((flailref09_Same.f k bt277.1 bt277.2.1 bt277.2.2.1 bt277.2.2.2.1 bt277.2.2.2.2.1 1 (⟨#[97]⟩ : ByteArray) (⟨#[]⟩ : ByteArray) (([(⟨(⟨#[120]⟩ : ByteArray), (⟨#[]⟩ : ByteArray)⟩ : S27)] : List (S27))) false).bind fun t301 => (if t301 = true then ((flailref09_Same.f k bt287.1 bt287.2.1 bt287.2.2.1 bt287.2.2.2.1 bt287.2.2.2.2.1 2 (⟨#[112]⟩ : ByteArray) (⟨#[]⟩ : ByteArray) ([] : List (S27)) false).bind fun t302 => (some t302)) else (some false))) else (some false))) else (some false)) else (some false)) else (some false)) else (some false)))
theorem flaillaw09_awake.mono : ∀ k, LeO (flaillaw09_awake.f k ) (flaillaw09_awake.f (k + 1) ) := by
  intro  k
  unfold flaillaw09_awake.f
  repeat' first
      | (with_reducible exact flailref09_Same.mono _ _ _ _ _ _ _ _ _ _ _)
      | (with_reducible exact LeO.refl _)
      | (with_reducible exact LeO.none _)
      | (with_reducible refine LeO.ite ?_ ?_)
      | (with_reducible refine LeO.bind ?_ (fun _ => ?_))
      | exact flailref09_Same.mono _ _ _ _ _ _ _ _ _ _ _
      | exact LeO.none _
      | refine LeO.ite ?_ ?_
      | refine LeO.bind ?_ (fun _ => ?_)
set_option maxHeartbeats 8000000 in
set_option maxRecDepth 100000 in
theorem flaillaw09_awake.calls (k : Nat)  (r : Bool) (w : World) (hG : Gl w) (h : flaillaw09_awake.f k  = some r) :
    Calls Tryd.prog 17 #[] w fun e w' => e = .returned (.bool r) ∧ Below w.heap.size w w' := by
  have hu39 := Tryd.underlying39
  have hu27 := Tryd.underlying27
  have HB := Aside0.mk (Below.refl w.heap.size w)
  have HG := Aside0.mk hG
  clear hG
  have H : ((tag_Read.f (⟨#[60, 65, 32, 120, 62]⟩ : ByteArray) 0).bind fun bt277 => ((tag_Read.f (⟨#[60, 47, 112, 32, 62]⟩ : ByteArray) 0).bind fun bt287 => (if bt277.2.2.2.2.2.2 = true then (if bt287.2.2.2.2.2.2 = true then (if bt277.2.2.2.2.2.1 = 5 then (if bt287.2.2.2.2.2.1 = 5 then ((tag_Begins.f (⟨#[60, 97]⟩ : ByteArray) 0).bind fun t297 => (if t297 = true then ((flailref09_Same.f k bt277.1 bt277.2.1 bt277.2.2.1 bt277.2.2.2.1 bt277.2.2.2.2.1 1 (⟨#[97]⟩ : ByteArray) (⟨#[]⟩ : ByteArray) (([(⟨(⟨#[120]⟩ : ByteArray), (⟨#[]⟩ : ByteArray)⟩ : S27)] : List (S27))) false).bind fun t301 => (if t301 = true then ((flailref09_Same.f k bt287.1 bt287.2.1 bt287.2.2.1 bt287.2.2.2.1 bt287.2.2.2.2.1 2 (⟨#[112]⟩ : ByteArray) (⟨#[]⟩ : ByteArray) ([] : List (S27)) false).bind fun t302 => (some t302)) else (some false))) else (some false))) else (some false)) else (some false)) else (some false)) else (some false)))) = some r := h
  clear h
  replace H := Option.bind_eq_some_iff.mp H
  obtain ⟨⟨t277, t278, t279, t280, t283, t284, t285⟩, A10, H⟩ := H
  replace H : ((tag_Read.f (⟨#[60, 47, 112, 32, 62]⟩ : ByteArray) 0).bind fun bt287 => (if t285 = true then (if bt287.2.2.2.2.2.2 = true then (if t284 = 5 then (if bt287.2.2.2.2.2.1 = 5 then ((tag_Begins.f (⟨#[60, 97]⟩ : ByteArray) 0).bind fun t297 => (if t297 = true then ((flailref09_Same.f k t277 t278 t279 t280 t283 1 (⟨#[97]⟩ : ByteArray) (⟨#[]⟩ : ByteArray) (([(⟨(⟨#[120]⟩ : ByteArray), (⟨#[]⟩ : ByteArray)⟩ : S27)] : List (S27))) false).bind fun t301 => (if t301 = true then ((flailref09_Same.f k bt287.1 bt287.2.1 bt287.2.2.1 bt287.2.2.2.1 bt287.2.2.2.2.1 2 (⟨#[112]⟩ : ByteArray) (⟨#[]⟩ : ByteArray) ([] : List (S27)) false).bind fun t302 => (some t302)) else (some false))) else (some false))) else (some false)) else (some false)) else (some false)) else (some false))) = some r := H
  have A1 := Aside0.mk A10
  clear A10
  replace H := Option.bind_eq_some_iff.mp H
  obtain ⟨⟨t287, t288, t289, t290, t293, t294, t295⟩, A20, H⟩ := H
  replace H : (if t285 = true then (if t295 = true then (if t284 = 5 then (if t294 = 5 then ((tag_Begins.f (⟨#[60, 97]⟩ : ByteArray) 0).bind fun t297 => (if t297 = true then ((flailref09_Same.f k t277 t278 t279 t280 t283 1 (⟨#[97]⟩ : ByteArray) (⟨#[]⟩ : ByteArray) (([(⟨(⟨#[120]⟩ : ByteArray), (⟨#[]⟩ : ByteArray)⟩ : S27)] : List (S27))) false).bind fun t301 => (if t301 = true then ((flailref09_Same.f k t287 t288 t289 t290 t293 2 (⟨#[112]⟩ : ByteArray) (⟨#[]⟩ : ByteArray) ([] : List (S27)) false).bind fun t302 => (some t302)) else (some false))) else (some false))) else (some false)) else (some false)) else (some false)) else (some false)) = some r := H
  have A2 := Aside0.mk A20
  clear A20
  by_cases c3 : t285 = true
  · subst c3
    have H1 : (if t295 = true then (if t284 = 5 then (if t294 = 5 then ((tag_Begins.f (⟨#[60, 97]⟩ : ByteArray) 0).bind fun t297 => (if t297 = true then ((flailref09_Same.f k t277 t278 t279 t280 t283 1 (⟨#[97]⟩ : ByteArray) (⟨#[]⟩ : ByteArray) (([(⟨(⟨#[120]⟩ : ByteArray), (⟨#[]⟩ : ByteArray)⟩ : S27)] : List (S27))) false).bind fun t301 => (if t301 = true then ((flailref09_Same.f k t287 t288 t289 t290 t293 2 (⟨#[112]⟩ : ByteArray) (⟨#[]⟩ : ByteArray) ([] : List (S27)) false).bind fun t302 => (some t302)) else (some false))) else (some false))) else (some false)) else (some false)) else (some false)) = some r := by rw [if_pos rfl] at H; exact H
    clear H
    have H := H1
    clear H1
    by_cases c4 : t295 = true
    · subst c4
      have H1 : (if t284 = 5 then (if t294 = 5 then ((tag_Begins.f (⟨#[60, 97]⟩ : ByteArray) 0).bind fun t297 => (if t297 = true then ((flailref09_Same.f k t277 t278 t279 t280 t283 1 (⟨#[97]⟩ : ByteArray) (⟨#[]⟩ : ByteArray) (([(⟨(⟨#[120]⟩ : ByteArray), (⟨#[]⟩ : ByteArray)⟩ : S27)] : List (S27))) false).bind fun t301 => (if t301 = true then ((flailref09_Same.f k t287 t288 t289 t290 t293 2 (⟨#[112]⟩ : ByteArray) (⟨#[]⟩ : ByteArray) ([] : List (S27)) false).bind fun t302 => (some t302)) else (some false))) else (some false))) else (some false)) else (some false)) = some r := by rw [if_pos rfl] at H; exact H
      clear H
      have H := H1
      clear H1
      by_cases c5 : t284 = 5
      · rw [if_pos c5] at H
        have c5b0 : (t284 == 5) = true := beq_iff_eq.mpr c5
        have c5b1 : (t284 != 5) = false := bne_eq_false_iff_eq.mpr c5
        clear c5
        by_cases c6 : t294 = 5
        · rw [if_pos c6] at H
          have c6b0 : (t294 == 5) = true := beq_iff_eq.mpr c6
          have c6b1 : (t294 != 5) = false := bne_eq_false_iff_eq.mpr c6
          clear c6
          replace H := Option.bind_eq_some_iff.mp H
          obtain ⟨t297, A70, H⟩ := H
          replace H : (if t297 = true then ((flailref09_Same.f k t277 t278 t279 t280 t283 1 (⟨#[97]⟩ : ByteArray) (⟨#[]⟩ : ByteArray) (([(⟨(⟨#[120]⟩ : ByteArray), (⟨#[]⟩ : ByteArray)⟩ : S27)] : List (S27))) false).bind fun t301 => (if t301 = true then ((flailref09_Same.f k t287 t288 t289 t290 t293 2 (⟨#[112]⟩ : ByteArray) (⟨#[]⟩ : ByteArray) ([] : List (S27)) false).bind fun t302 => (some t302)) else (some false))) else (some false)) = some r := H
          have A7 := Aside0.mk A70
          clear A70
          by_cases c8 : t297 = true
          · subst c8
            have H1 : ((flailref09_Same.f k t277 t278 t279 t280 t283 1 (⟨#[97]⟩ : ByteArray) (⟨#[]⟩ : ByteArray) (([(⟨(⟨#[120]⟩ : ByteArray), (⟨#[]⟩ : ByteArray)⟩ : S27)] : List (S27))) false).bind fun t301 => (if t301 = true then ((flailref09_Same.f k t287 t288 t289 t290 t293 2 (⟨#[112]⟩ : ByteArray) (⟨#[]⟩ : ByteArray) ([] : List (S27)) false).bind fun t302 => (some t302)) else (some false))) = some r := by rw [if_pos rfl] at H; exact H
            clear H
            have H := H1
            clear H1
            obtain ⟨y298, hy298⟩ : ∃ y_ : List (S27), y_ = (([(⟨(⟨#[120]⟩ : ByteArray), (⟨#[]⟩ : ByteArray)⟩ : S27)] : List (S27))) := ⟨_, rfl⟩
            replace H : ((flailref09_Same.f k t277 t278 t279 t280 t283 1 (⟨#[97]⟩ : ByteArray) (⟨#[]⟩ : ByteArray) y298 false).bind fun t301 => (if t301 = true then ((flailref09_Same.f k t287 t288 t289 t290 t293 2 (⟨#[112]⟩ : ByteArray) (⟨#[]⟩ : ByteArray) ([] : List (S27)) false).bind fun t302 => (some t302)) else (some false))) = some r := by first | (rw [hy298]; with_reducible exact H) | (have H2_ := (Option.bind_some _ _).symm.trans H; rw [hy298]; with_reducible exact H2_) | (have H2_ := (Option.bind_some _ _).symm.trans H; with_reducible exact H2_) | with_reducible exact H | (rw [hy298]; exact H) | exact H
            have Ny298 := Aside0.mk hy298
            clear hy298
            replace H := Option.bind_eq_some_iff.mp H
            obtain ⟨t301, A90, H⟩ := H
            replace H : (if t301 = true then ((flailref09_Same.f k t287 t288 t289 t290 t293 2 (⟨#[112]⟩ : ByteArray) (⟨#[]⟩ : ByteArray) ([] : List (S27)) false).bind fun t302 => (some t302)) else (some false)) = some r := H
            have A9 := Aside0.mk A90
            clear A90
            by_cases c10 : t301 = true
            · subst c10
              have H1 : ((flailref09_Same.f k t287 t288 t289 t290 t293 2 (⟨#[112]⟩ : ByteArray) (⟨#[]⟩ : ByteArray) ([] : List (S27)) false).bind fun t302 => (some t302)) = some r := by rw [if_pos rfl] at H; exact H
              clear H
              have H := H1
              clear H1
              replace H := Option.bind_eq_some_iff.mp H
              obtain ⟨t302, A110, H⟩ := H
              replace H : (some t302) = some r := H
              have A11 := Aside0.mk A110
              clear A110
              obtain rfl := Option.some.inj H
              go_enter Tryd.func17, Tryd.ntmps17
              go_wp2_with (first | ((with_reducible refine gate_callee (f := 18) rfl ?_); refine goesL_ (some 8) rfl rfl Tryd.func18 (by kernel_rfl) rfl #[.string (⟨#[60, 65, 32, 120, 62]⟩ : ByteArray), .int .i64 0] rfl (by (try simp only [List.map_toArray, List.map_cons, List.map_nil]); first | done | rfl | (simp only [List.length_drop, List.length_take]; rfl)) ?_; (with_reducible refine (tag_Read.calls (⟨#[60, 65, 32, 120, 62]⟩ : ByteArray) 0 t277 t278 t279 t280 t283 t284 true _ ?side1 A1.out).mono ?_); (case side1 => first | (with_reducible exact HG.out) | exact Gl.below HG.out (by repeat (first | (with_reducible first | exact HB.out | apply below_alloc | apply pw_below_drewN | apply below_drew1) | exact HB.out)) | exact HG.out); rintro e w12 ⟨v281, rfl, ho0, hb⟩; refine ⟨_, rfl, ?_⟩; have n0_ := Aside0.mk (Kd.R_lower ho0 (below_size (by repeat (first | (with_reducible first | exact HB.out | apply below_alloc | apply pw_below_drewN | apply below_drew1) | exact HB.out)))); have n1_ := Aside0.mk (below_step (by repeat (first | (with_reducible first | exact HB.out | apply below_alloc | apply pw_below_drewN | apply below_drew1) | exact HB.out)) hb); clear HB; have HO282 := n0_; have HB := n1_; clear n0_ n1_; (try clear hb); (try clear hb2); (try clear hk); (try clear hi); (try clear ho0)) | ((with_reducible refine gate_dst (N := 1) rfl ?_); (try (refine gate_guard (by rfl) ?_; dsimp only)); refine box_event ?hg (N := 1) ?hd (cs := #[.int .i64 0, .string (⟨#[]⟩ : ByteArray), .string (⟨#[]⟩ : ByteArray), .slice none 0 0, .bool false]) (t := 39) ?hr ?_; (case hd => rfl); (case hg => rfl); (case hr => first | (go_simp; done) | (go_simp; rfl)); intro gb286 hg w13 hbox hb; have n0_ := Aside0.mk (Kd.R_below (by (with_reducible repeat (first | apply Kd.R_alloc | apply Kd.R_drewN | apply Kd.R_drew)); exact HO282.out) hb); have n1_ := Aside0.mk (below_step (by repeat (first | (with_reducible first | exact HB.out | apply below_alloc | apply pw_below_drewN | apply below_drew1) | exact HB.out)) hb); have n2_ := Aside0.mk (hbox); have n3_ := Aside0.mk ((by rw [hg]; exact (below_size (by repeat (first | (with_reducible first | exact HB.out | apply below_alloc | apply pw_below_drewN | apply below_drew1) | exact HB.out))) : w.heap.size ≤ gb286)); have n4_ := Aside0.mk ((by rw [hg]; exact (below_size (by repeat (first | (with_reducible first | exact HB.out | apply below_alloc | apply pw_below_drewN | apply below_drew1) | exact HB.out))) : w.heap.size ≤ gb286)); clear HO282; clear HB; have HO282 := n0_; have HB := n1_; have BK286 := n2_; have GW286 := n3_; have GE286 := n4_; clear n0_ n1_ n2_ n3_ n4_; clear hb hbox hg; have hcz14_0 : w13.cell? ⟨gb286, 0, none⟩ = some (.int .i64 0) := (blk_cell BK286.out 0).trans rfl; have hcz14_1 : w13.cell? ⟨gb286, 1, none⟩ = some (.string (⟨#[]⟩ : ByteArray)) := (blk_cell BK286.out 1).trans rfl; have hcz14_2 : w13.cell? ⟨gb286, 2, none⟩ = some (.string (⟨#[]⟩ : ByteArray)) := (blk_cell BK286.out 2).trans rfl; have hcz14_3 : w13.cell? ⟨gb286, 3, none⟩ = some (.slice none 0 0) := (blk_cell BK286.out 3).trans rfl; have hcz14_4 : w13.cell? ⟨gb286, 4, none⟩ = some (.bool false) := (blk_cell BK286.out 4).trans rfl; have hfz14_0 := blk_frozen BK286.out 0; have hfz14_1 := blk_frozen BK286.out 1; have hfz14_2 := blk_frozen BK286.out 2; have hfz14_3 := blk_frozen BK286.out 3; have hfz14_4 := blk_frozen BK286.out 4; obtain ⟨Ao15, co15, eo15⟩ := Kd.R_slice HO282.out; subst eo15) | ((with_reducible refine gate_callee (f := 18) rfl ?_); refine goesL_ (some 13) rfl rfl Tryd.func18 (by kernel_rfl) rfl #[.string (⟨#[60, 47, 112, 32, 62]⟩ : ByteArray), .int .i64 0] rfl (by (try simp only [List.map_toArray, List.map_cons, List.map_nil]); first | done | rfl | (simp only [List.length_drop, List.length_take]; rfl)) ?_; (with_reducible refine (tag_Read.calls (⟨#[60, 47, 112, 32, 62]⟩ : ByteArray) 0 t287 t288 t289 t290 t293 t294 true _ ?side1 A2.out).mono ?_); (case side1 => first | (with_reducible exact HG.out) | exact Gl.below HG.out (by repeat (first | (with_reducible first | exact HB.out | apply below_alloc | apply pw_below_drewN | apply below_drew1 | refine below_set ?_ GE286.out) | exact HB.out)) | exact HG.out); rintro e w16 ⟨v291, rfl, ho0, hb⟩; refine ⟨_, rfl, ?_⟩; have n0_ := Aside0.mk (Kd.R_elder' (by (with_reducible repeat (first | apply Kd.R_alloc | apply Kd.R_drewN | apply Kd.R_drew)); exact (Kd.R_mono (Kd.R_far (p := ⟨gb286, 4, none⟩) (Kd.R_far (p := ⟨gb286, 3, none⟩) (Kd.R_far (p := ⟨gb286, 2, none⟩) (Kd.R_far (p := ⟨gb286, 1, none⟩) (Kd.R_far (p := ⟨gb286, 0, none⟩) (Kd.R_types HO282.out BK286.out (by decide)) (fun _ hk => hk.2) (.int .i64 t277)) (fun _ hk => hk.2) (.string t278)) (fun _ hk => hk.2) (.string t279)) (fun _ hk => hk.2) (.slice Ao15 t280.length co15)) (fun _ hk => hk.2) (.bool t283)) (fun _ h_ => h_.1))) (Kd.R_base ho0) hb); have n1_ := Aside0.mk (Kd.R_lower (Kd.R_new' ho0 (Kd.R_lt (by (with_reducible repeat (first | apply Kd.R_alloc | apply Kd.R_drewN | apply Kd.R_drew)); exact (Kd.R_mono (Kd.R_far (p := ⟨gb286, 4, none⟩) (Kd.R_far (p := ⟨gb286, 3, none⟩) (Kd.R_far (p := ⟨gb286, 2, none⟩) (Kd.R_far (p := ⟨gb286, 1, none⟩) (Kd.R_far (p := ⟨gb286, 0, none⟩) (Kd.R_types HO282.out BK286.out (by decide)) (fun _ hk => hk.2) (.int .i64 t277)) (fun _ hk => hk.2) (.string t278)) (fun _ hk => hk.2) (.string t279)) (fun _ hk => hk.2) (.slice Ao15 t280.length co15)) (fun _ hk => hk.2) (.bool t283)) (fun _ h_ => h_.1))))) (below_size (by repeat (first | (with_reducible first | exact HB.out | apply below_alloc | apply pw_below_drewN | apply below_drew1 | refine below_set ?_ GE286.out) | exact HB.out)))); have n2_ := Aside0.mk (blk_below (g := gb286) (o := .cells #[.int .i64 t277, .string t278, .string t279, .slice Ao15 t280.length co15, .bool t283] 39 (0, 0)) (by (with_reducible repeat (first | refine blk_drewN ?_ _ | refine blk_drew ?_ | refine blk_alloc ?_ _)); refine blk_put (cs := #[.int .i64 t277, .string t278, .string t279, .slice Ao15 t280.length co15, .bool false]) ?_ 4 _ rfl; (with_reducible repeat (first | refine blk_drewN ?_ _ | refine blk_drew ?_ | refine blk_alloc ?_ _)); refine blk_put (cs := #[.int .i64 t277, .string t278, .string t279, .slice none 0 0, .bool false]) ?_ 3 _ rfl; (with_reducible repeat (first | refine blk_drewN ?_ _ | refine blk_drew ?_ | refine blk_alloc ?_ _)); refine blk_put (cs := #[.int .i64 t277, .string t278, .string (⟨#[]⟩ : ByteArray), .slice none 0 0, .bool false]) ?_ 2 _ rfl; (with_reducible repeat (first | refine blk_drewN ?_ _ | refine blk_drew ?_ | refine blk_alloc ?_ _)); refine blk_put (cs := #[.int .i64 t277, .string (⟨#[]⟩ : ByteArray), .string (⟨#[]⟩ : ByteArray), .slice none 0 0, .bool false]) ?_ 1 _ rfl; (with_reducible repeat (first | refine blk_drewN ?_ _ | refine blk_drew ?_ | refine blk_alloc ?_ _)); refine blk_put (cs := #[.int .i64 0, .string (⟨#[]⟩ : ByteArray), .string (⟨#[]⟩ : ByteArray), .slice none 0 0, .bool false]) ?_ 0 _ rfl; (with_reducible repeat (first | refine blk_drewN ?_ _ | refine blk_drew ?_ | refine blk_alloc ?_ _)); exact BK286.out) hb); have n3_ := Aside0.mk (below_step (by repeat (first | (with_reducible first | exact HB.out | apply below_alloc | apply pw_below_drewN | apply below_drew1 | refine below_set ?_ GE286.out) | exact HB.out)) hb); clear HO282; clear BK286; clear HB; have HO282 := n0_; have HO292 := n1_; have BK286 := n2_; have HB := n3_; clear n0_ n1_ n2_ n3_; (try clear hb); (try clear hb2); (try clear hk); (try clear hi); (try clear ho0)) | ((with_reducible refine gate_dst (N := 4) rfl ?_); (try (refine gate_guard (by rfl) ?_; dsimp only)); refine box_event ?hg (N := 4) ?hd (cs := #[.int .i64 0, .string (⟨#[]⟩ : ByteArray), .string (⟨#[]⟩ : ByteArray), .slice none 0 0, .bool false]) (t := 39) ?hr ?_; (case hd => rfl); (case hg => rfl); (case hr => first | (go_simp; done) | (go_simp; rfl)); intro gb296 hg w17 hbox hb; have n0_ := Aside0.mk (Kd.R_below (by (with_reducible repeat (first | apply Kd.R_alloc | apply Kd.R_drewN | apply Kd.R_drew)); exact HO282.out) hb); have n1_ := Aside0.mk (Kd.R_below (by (with_reducible repeat (first | apply Kd.R_alloc | apply Kd.R_drewN | apply Kd.R_drew)); exact HO292.out) hb); have n2_ := Aside0.mk (blk_below (g := gb286) (o := .cells #[.int .i64 t277, .string t278, .string t279, .slice Ao15 t280.length co15, .bool t283] 39 (0, 0)) (by (with_reducible repeat (first | refine blk_drewN ?_ _ | refine blk_drew ?_ | refine blk_alloc ?_ _)); exact BK286.out) hb); have n3_ := Aside0.mk (below_step (by repeat (first | (with_reducible first | exact HB.out | apply below_alloc | apply pw_below_drewN | apply below_drew1 | refine below_set ?_ GE286.out) | exact HB.out)) hb); have n4_ := Aside0.mk (hbox); have n5_ := Aside0.mk ((by rw [hg]; exact (below_size (by repeat (first | (with_reducible first | exact HB.out | apply below_alloc | apply pw_below_drewN | apply below_drew1 | refine below_set ?_ GE286.out) | exact HB.out))) : w.heap.size ≤ gb296)); have n6_ := Aside0.mk ((by rw [hg]; exact (below_size (by repeat (first | (with_reducible first | exact HB.out | apply below_alloc | apply pw_below_drewN | apply below_drew1 | refine below_set ?_ GE286.out) | exact HB.out))) : w.heap.size ≤ gb296)); have n7_ := Aside0.mk ((by rw [hg]; exact Nat.ne_of_lt (blk_lt (g := gb286) (o := .cells #[.int .i64 t277, .string t278, .string t279, .slice Ao15 t280.length co15, .bool t283] 39 (0, 0)) (by (with_reducible repeat (first | refine blk_drewN ?_ _ | refine blk_drew ?_ | refine blk_alloc ?_ _)); exact BK286.out)) : gb286 ≠ gb296)); have n8_ := Aside0.mk ((by rw [hg]; exact Nat.ne_of_gt (blk_lt (g := gb286) (o := .cells #[.int .i64 t277, .string t278, .string t279, .slice Ao15 t280.length co15, .bool t283] 39 (0, 0)) (by (with_reducible repeat (first | refine blk_drewN ?_ _ | refine blk_drew ?_ | refine blk_alloc ?_ _)); exact BK286.out)) : gb296 ≠ gb286)); clear HO282; clear HO292; clear BK286; clear HB; have HO282 := n0_; have HO292 := n1_; have BK286 := n2_; have HB := n3_; have BK296 := n4_; have GW296 := n5_; have GE296 := n6_; have NB286_296 := n7_; have NB296_286 := n8_; clear n0_ n1_ n2_ n3_ n4_ n5_ n6_ n7_ n8_; clear hb hbox hg; have hnb18 := NB296_286.out; have hnc18 := NB286_296.out; have hcz19_0 : w17.cell? ⟨gb296, 0, none⟩ = some (.int .i64 0) := (blk_cell BK296.out 0).trans rfl; have hcz19_1 : w17.cell? ⟨gb296, 1, none⟩ = some (.string (⟨#[]⟩ : ByteArray)) := (blk_cell BK296.out 1).trans rfl; have hcz19_2 : w17.cell? ⟨gb296, 2, none⟩ = some (.string (⟨#[]⟩ : ByteArray)) := (blk_cell BK296.out 2).trans rfl; have hcz19_3 : w17.cell? ⟨gb296, 3, none⟩ = some (.slice none 0 0) := (blk_cell BK296.out 3).trans rfl; have hcz19_4 : w17.cell? ⟨gb296, 4, none⟩ = some (.bool false) := (blk_cell BK296.out 4).trans rfl; have hfz19_0 := blk_frozen BK296.out 0; have hfz19_1 := blk_frozen BK296.out 1; have hfz19_2 := blk_frozen BK296.out 2; have hfz19_3 := blk_frozen BK296.out 3; have hfz19_4 := blk_frozen BK296.out 4; obtain ⟨Ao20, co20, eo20⟩ := Kd.R_slice HO292.out; subst eo20) | (go_at_call 20; (with_reducible refine (tag_Begins.calls (⟨#[60, 97]⟩ : ByteArray) 0 true _ A7.out).mono ?_); rintro e w21 ⟨rfl, hb⟩; have n0_ := Aside0.mk (Kd.R_below (by (with_reducible repeat (first | apply Kd.R_alloc | apply Kd.R_drewN | apply Kd.R_drew)); exact (Kd.R_mono (Kd.R_far (p := ⟨gb296, 4, none⟩) (Kd.R_far (p := ⟨gb296, 3, none⟩) (Kd.R_far (p := ⟨gb296, 2, none⟩) (Kd.R_far (p := ⟨gb296, 1, none⟩) (Kd.R_far (p := ⟨gb296, 0, none⟩) (Kd.R_types HO282.out BK296.out (by decide)) (fun _ hk => hk.2) (.int .i64 t287)) (fun _ hk => hk.2) (.string t288)) (fun _ hk => hk.2) (.string t289)) (fun _ hk => hk.2) (.slice Ao20 t290.length co20)) (fun _ hk => hk.2) (.bool t293)) (fun _ h_ => h_.1))) hb); have n1_ := Aside0.mk (Kd.R_below (by (with_reducible repeat (first | apply Kd.R_alloc | apply Kd.R_drewN | apply Kd.R_drew)); exact (Kd.R_mono (Kd.R_far (p := ⟨gb296, 4, none⟩) (Kd.R_far (p := ⟨gb296, 3, none⟩) (Kd.R_far (p := ⟨gb296, 2, none⟩) (Kd.R_far (p := ⟨gb296, 1, none⟩) (Kd.R_far (p := ⟨gb296, 0, none⟩) (Kd.R_types HO292.out BK296.out (by decide)) (fun _ hk => hk.2) (.int .i64 t287)) (fun _ hk => hk.2) (.string t288)) (fun _ hk => hk.2) (.string t289)) (fun _ hk => hk.2) (.slice Ao20 t290.length co20)) (fun _ hk => hk.2) (.bool t293)) (fun _ h_ => h_.1))) hb); have n2_ := Aside0.mk (blk_below (g := gb286) (o := .cells #[.int .i64 t277, .string t278, .string t279, .slice Ao15 t280.length co15, .bool t283] 39 (0, 0)) (by (with_reducible repeat (first | refine blk_drewN ?_ _ | refine blk_drew ?_ | refine blk_alloc ?_ _)); refine blk_far ?_ NB286_296.out _; (with_reducible repeat (first | refine blk_drewN ?_ _ | refine blk_drew ?_ | refine blk_alloc ?_ _)); refine blk_far ?_ NB286_296.out _; (with_reducible repeat (first | refine blk_drewN ?_ _ | refine blk_drew ?_ | refine blk_alloc ?_ _)); refine blk_far ?_ NB286_296.out _; (with_reducible repeat (first | refine blk_drewN ?_ _ | refine blk_drew ?_ | refine blk_alloc ?_ _)); refine blk_far ?_ NB286_296.out _; (with_reducible repeat (first | refine blk_drewN ?_ _ | refine blk_drew ?_ | refine blk_alloc ?_ _)); refine blk_far ?_ NB286_296.out _; (with_reducible repeat (first | refine blk_drewN ?_ _ | refine blk_drew ?_ | refine blk_alloc ?_ _)); exact BK286.out) hb); have n3_ := Aside0.mk (blk_below (g := gb296) (o := .cells #[.int .i64 t287, .string t288, .string t289, .slice Ao20 t290.length co20, .bool t293] 39 (0, 0)) (by (with_reducible repeat (first | refine blk_drewN ?_ _ | refine blk_drew ?_ | refine blk_alloc ?_ _)); refine blk_put (cs := #[.int .i64 t287, .string t288, .string t289, .slice Ao20 t290.length co20, .bool false]) ?_ 4 _ rfl; (with_reducible repeat (first | refine blk_drewN ?_ _ | refine blk_drew ?_ | refine blk_alloc ?_ _)); refine blk_put (cs := #[.int .i64 t287, .string t288, .string t289, .slice none 0 0, .bool false]) ?_ 3 _ rfl; (with_reducible repeat (first | refine blk_drewN ?_ _ | refine blk_drew ?_ | refine blk_alloc ?_ _)); refine blk_put (cs := #[.int .i64 t287, .string t288, .string (⟨#[]⟩ : ByteArray), .slice none 0 0, .bool false]) ?_ 2 _ rfl; (with_reducible repeat (first | refine blk_drewN ?_ _ | refine blk_drew ?_ | refine blk_alloc ?_ _)); refine blk_put (cs := #[.int .i64 t287, .string (⟨#[]⟩ : ByteArray), .string (⟨#[]⟩ : ByteArray), .slice none 0 0, .bool false]) ?_ 1 _ rfl; (with_reducible repeat (first | refine blk_drewN ?_ _ | refine blk_drew ?_ | refine blk_alloc ?_ _)); refine blk_put (cs := #[.int .i64 0, .string (⟨#[]⟩ : ByteArray), .string (⟨#[]⟩ : ByteArray), .slice none 0 0, .bool false]) ?_ 0 _ rfl; (with_reducible repeat (first | refine blk_drewN ?_ _ | refine blk_drew ?_ | refine blk_alloc ?_ _)); exact BK296.out) hb); have n4_ := Aside0.mk (below_step (by repeat (first | (with_reducible first | exact HB.out | apply below_alloc | apply pw_below_drewN | apply below_drew1 | refine below_set ?_ GE286.out | refine below_set ?_ GE296.out) | exact HB.out)) hb); clear HO282; clear HO292; clear BK286; clear BK296; clear HB; have HO282 := n0_; have HO292 := n1_; have BK286 := n2_; have BK296 := n3_; have HB := n4_; clear n0_ n1_ n2_ n3_ n4_; (try clear hb); (try clear hb2); (try clear hk); (try clear hi); have hcz22_0 : w21.cell? ⟨gb286, 0, none⟩ = some (.int .i64 t277) := (blk_cell BK286.out 0).trans rfl; have hcz22_1 : w21.cell? ⟨gb286, 1, none⟩ = some (.string t278) := (blk_cell BK286.out 1).trans rfl; have hcz22_2 : w21.cell? ⟨gb286, 2, none⟩ = some (.string t279) := (blk_cell BK286.out 2).trans rfl; have hcz22_3 : w21.cell? ⟨gb286, 3, none⟩ = some (.slice Ao15 t280.length co15) := (blk_cell BK286.out 3).trans rfl; have hcz22_4 : w21.cell? ⟨gb286, 4, none⟩ = some (.bool t283) := (blk_cell BK286.out 4).trans rfl; have hfz22_0 := blk_frozen BK286.out 0; have hfz22_1 := blk_frozen BK286.out 1; have hfz22_2 := blk_frozen BK286.out 2; have hfz22_3 := blk_frozen BK286.out 3; have hfz22_4 := blk_frozen BK286.out 4) | ((with_reducible refine gate_dst (N := 35) rfl ?_); (try (refine gate_guard (by rfl) ?_; dsimp only)); refine Kd.R_lit k27 _ 27 ?hg (N := 35) ?hd (xs := ([(⟨(⟨#[120]⟩ : ByteArray), (⟨#[]⟩ : ByteArray)⟩ : S27)] : List (S27))) (inner := [.string (⟨#[120]⟩ : ByteArray), .string (⟨#[]⟩ : ByteArray)]) (ok := fun _ => True) (okp := fun _ => True) ?hr ?hp (fun _ hk => hk) trivial (Below.refl _ _) (Nat.le_refl _) (by simp) ?_; (case hd => rfl); (case hg => rfl); (case hr => first | (go_simp; done) | (go_simp; rfl)); (case hp => exact (Reps.c2 (show Kd.M k27 _ _ _ (⟨(⟨#[120]⟩ : ByteArray), (⟨#[]⟩ : ByteArray)⟩ : S27) [.string (⟨#[120]⟩ : ByteArray), .string (⟨#[]⟩ : ByteArray)] from (k27_mkM _ _ _ (⟨(⟨#[120]⟩ : ByteArray), (⟨#[]⟩ : ByteArray)⟩ : S27) )) (Reps.none _ _))); intro v299 w23 ho24 hb hg_ hnew_; clear hg_ hnew_; (first | rw [← Ny298.out] at ho24 | (simp only [Int.reduceToNat] at ho24; rw [← Ny298.out] at ho24)); have n0_ := Aside0.mk (Kd.R_elder' (by (with_reducible repeat (first | apply Kd.R_alloc | apply Kd.R_drewN | apply Kd.R_drew)); exact HO282.out) (Kd.R_base ho24) hb); have n1_ := Aside0.mk (Kd.R_elder' (by (with_reducible repeat (first | apply Kd.R_alloc | apply Kd.R_drewN | apply Kd.R_drew)); exact HO292.out) (Kd.R_base ho24) hb); have n2_ := Aside0.mk (Kd.R_lower (Kd.R_new' (Kd.R_new' ho24 (Kd.R_lt (by (with_reducible repeat (first | apply Kd.R_alloc | apply Kd.R_drewN | apply Kd.R_drew)); exact HO282.out))) (Kd.R_lt (by (with_reducible repeat (first | apply Kd.R_alloc | apply Kd.R_drewN | apply Kd.R_drew)); exact HO292.out))) (below_size (by repeat (first | (with_reducible first | exact HB.out | apply below_alloc | apply pw_below_drewN | apply below_drew1 | refine below_set ?_ GE286.out | refine below_set ?_ GE296.out) | exact HB.out)))); have n3_ := Aside0.mk (blk_below (g := gb286) (o := .cells #[.int .i64 t277, .string t278, .string t279, .slice Ao15 t280.length co15, .bool t283] 39 (0, 0)) (by (with_reducible repeat (first | refine blk_drewN ?_ _ | refine blk_drew ?_ | refine blk_alloc ?_ _)); exact BK286.out) hb); have n4_ := Aside0.mk (blk_below (g := gb296) (o := .cells #[.int .i64 t287, .string t288, .string t289, .slice Ao20 t290.length co20, .bool t293] 39 (0, 0)) (by (with_reducible repeat (first | refine blk_drewN ?_ _ | refine blk_drew ?_ | refine blk_alloc ?_ _)); exact BK296.out) hb); have n5_ := Aside0.mk (below_step (by repeat (first | (with_reducible first | exact HB.out | apply below_alloc | apply pw_below_drewN | apply below_drew1 | refine below_set ?_ GE286.out | refine below_set ?_ GE296.out) | exact HB.out)) hb); clear HO282; clear HO292; clear BK286; clear BK296; clear HB; have HO282 := n0_; have HO292 := n1_; have HO300 := n2_; have BK286 := n3_; have BK296 := n4_; have HB := n5_; clear n0_ n1_ n2_ n3_ n4_ n5_; clear hb ho24; obtain ⟨Ao25, co25, eo25⟩ := Kd.R_slice HO300.out; subst eo25) | (go_at_call 19; (with_reducible refine (flailref09_Same.calls k t277 t278 t279 _ _ t280 t283 1 (⟨#[97]⟩ : ByteArray) (⟨#[]⟩ : ByteArray) _ _ y298 false true _ ?side1 ?side2 ?side3 ?side4 A9.out).mono ?_); (case side1 => repeat (first | exact (Kd.R_reads' HO282.out).2.2 | (with_reducible refine Kd.C_alloc ?_ _) | (with_reducible refine Kd.C_drewN ?_ _) | (with_reducible refine Kd.C_drew ?_))); (case side2 => exact (Kd.R_reads' HO282.out).2.1); (case side3 => repeat (first | exact (Kd.R_reads' HO300.out).2.2 | (with_reducible refine Kd.C_alloc ?_ _) | (with_reducible refine Kd.C_drewN ?_ _) | (with_reducible refine Kd.C_drew ?_))); (case side4 => exact (Kd.R_reads' HO300.out).2.1); rintro e w26 ⟨rfl, hb⟩; have n0_ := Aside0.mk (Kd.R_below (by (with_reducible repeat (first | apply Kd.R_alloc | apply Kd.R_drewN | apply Kd.R_drew)); exact HO282.out) hb); have n1_ := Aside0.mk (Kd.R_below (by (with_reducible repeat (first | apply Kd.R_alloc | apply Kd.R_drewN | apply Kd.R_drew)); exact HO292.out) hb); have n2_ := Aside0.mk (Kd.R_below (by (with_reducible repeat (first | apply Kd.R_alloc | apply Kd.R_drewN | apply Kd.R_drew)); exact HO300.out) hb); have n3_ := Aside0.mk (blk_below (g := gb286) (o := .cells #[.int .i64 t277, .string t278, .string t279, .slice Ao15 t280.length co15, .bool t283] 39 (0, 0)) (by (with_reducible repeat (first | refine blk_drewN ?_ _ | refine blk_drew ?_ | refine blk_alloc ?_ _)); exact BK286.out) hb); have n4_ := Aside0.mk (blk_below (g := gb296) (o := .cells #[.int .i64 t287, .string t288, .string t289, .slice Ao20 t290.length co20, .bool t293] 39 (0, 0)) (by (with_reducible repeat (first | refine blk_drewN ?_ _ | refine blk_drew ?_ | refine blk_alloc ?_ _)); exact BK296.out) hb); have n5_ := Aside0.mk (below_step (by repeat (first | (with_reducible first | exact HB.out | apply below_alloc | apply pw_below_drewN | apply below_drew1 | refine below_set ?_ GE286.out | refine below_set ?_ GE296.out) | exact HB.out)) hb); clear HO282; clear HO292; clear HO300; clear BK286; clear BK296; clear HB; have HO282 := n0_; have HO292 := n1_; have HO300 := n2_; have BK286 := n3_; have BK296 := n4_; have HB := n5_; clear n0_ n1_ n2_ n3_ n4_ n5_; (try clear hb); (try clear hb2); (try clear hk); (try clear hi); have hcz27_0 : w26.cell? ⟨gb296, 0, none⟩ = some (.int .i64 t287) := (blk_cell BK296.out 0).trans rfl; have hcz27_1 : w26.cell? ⟨gb296, 1, none⟩ = some (.string t288) := (blk_cell BK296.out 1).trans rfl; have hcz27_2 : w26.cell? ⟨gb296, 2, none⟩ = some (.string t289) := (blk_cell BK296.out 2).trans rfl; have hcz27_3 : w26.cell? ⟨gb296, 3, none⟩ = some (.slice Ao20 t290.length co20) := (blk_cell BK296.out 3).trans rfl; have hcz27_4 : w26.cell? ⟨gb296, 4, none⟩ = some (.bool t293) := (blk_cell BK296.out 4).trans rfl; have hfz27_0 := blk_frozen BK296.out 0; have hfz27_1 := blk_frozen BK296.out 1; have hfz27_2 := blk_frozen BK296.out 2; have hfz27_3 := blk_frozen BK296.out 3; have hfz27_4 := blk_frozen BK296.out 4) | (go_at_call 19; (refine (flailref09_Same.calls k t287 t288 t289 _ _ t290 t293 2 (⟨#[112]⟩ : ByteArray) (⟨#[]⟩ : ByteArray) _ _ ([] : List (S27)) false t302 _ ?side1 ?side2 ?side3 ?side4 A11.out).mono ?_); (case side1 => repeat (first | exact (Kd.R_reads' HO292.out).2.2 | (with_reducible refine Kd.C_alloc ?_ _) | (with_reducible refine Kd.C_drewN ?_ _) | (with_reducible refine Kd.C_drew ?_))); (case side2 => exact (Kd.R_reads' HO292.out).2.1); (case side3 => exact Kd.C_nil _ _); (case side4 => exact Nat.le_refl _); rintro e w28 ⟨rfl, hb⟩; have n0_ := Aside0.mk (Kd.R_below (by (with_reducible repeat (first | apply Kd.R_alloc | apply Kd.R_drewN | apply Kd.R_drew)); exact HO282.out) hb); have n1_ := Aside0.mk (Kd.R_below (by (with_reducible repeat (first | apply Kd.R_alloc | apply Kd.R_drewN | apply Kd.R_drew)); exact HO292.out) hb); have n2_ := Aside0.mk (Kd.R_below (by (with_reducible repeat (first | apply Kd.R_alloc | apply Kd.R_drewN | apply Kd.R_drew)); exact HO300.out) hb); have n3_ := Aside0.mk (blk_below (g := gb286) (o := .cells #[.int .i64 t277, .string t278, .string t279, .slice Ao15 t280.length co15, .bool t283] 39 (0, 0)) (by (with_reducible repeat (first | refine blk_drewN ?_ _ | refine blk_drew ?_ | refine blk_alloc ?_ _)); exact BK286.out) hb); have n4_ := Aside0.mk (blk_below (g := gb296) (o := .cells #[.int .i64 t287, .string t288, .string t289, .slice Ao20 t290.length co20, .bool t293] 39 (0, 0)) (by (with_reducible repeat (first | refine blk_drewN ?_ _ | refine blk_drew ?_ | refine blk_alloc ?_ _)); exact BK296.out) hb); have n5_ := Aside0.mk (below_step (by repeat (first | (with_reducible first | exact HB.out | apply below_alloc | apply pw_below_drewN | apply below_drew1 | refine below_set ?_ GE286.out | refine below_set ?_ GE296.out) | exact HB.out)) hb); clear HO282; clear HO292; clear HO300; clear BK286; clear BK296; clear HB; have HO282 := n0_; have HO292 := n1_; have HO300 := n2_; have BK286 := n3_; have BK296 := n4_; have HB := n5_; clear n0_ n1_ n2_ n3_ n4_ n5_; (try clear hb); (try clear hb2); (try clear hk); (try clear hi); clear A11))
              go_ret
              exact ⟨by first | rfl | (simp [errW_none, errW_some] <;> rfl) | (simp [*, errW_none, errW_some] <;> rfl), by repeat (first | (with_reducible first | exact HB.out | apply below_alloc | apply pw_below_drewN | apply below_drew1 | refine below_set ?_ GE286.out | refine below_set ?_ GE296.out) | exact HB.out)⟩
            · replace c10 := Bool.eq_false_iff.mpr c10
              subst c10
              have H1 : (some false) = some r := by rw [if_neg (show ¬ (false = true) by decide)] at H; exact H
              clear H
              have H := H1
              clear H1
              obtain rfl := Option.some.inj H
              go_enter Tryd.func17, Tryd.ntmps17
              go_wp2_with (first | ((with_reducible refine gate_callee (f := 18) rfl ?_); refine goesL_ (some 8) rfl rfl Tryd.func18 (by kernel_rfl) rfl #[.string (⟨#[60, 65, 32, 120, 62]⟩ : ByteArray), .int .i64 0] rfl (by (try simp only [List.map_toArray, List.map_cons, List.map_nil]); first | done | rfl | (simp only [List.length_drop, List.length_take]; rfl)) ?_; (with_reducible refine (tag_Read.calls (⟨#[60, 65, 32, 120, 62]⟩ : ByteArray) 0 t277 t278 t279 t280 t283 t284 true _ ?side1 A1.out).mono ?_); (case side1 => first | (with_reducible exact HG.out) | exact Gl.below HG.out (by repeat (first | (with_reducible first | exact HB.out | apply below_alloc | apply pw_below_drewN | apply below_drew1) | exact HB.out)) | exact HG.out); rintro e w29 ⟨v281, rfl, ho0, hb⟩; refine ⟨_, rfl, ?_⟩; have n0_ := Aside0.mk (Kd.R_lower ho0 (below_size (by repeat (first | (with_reducible first | exact HB.out | apply below_alloc | apply pw_below_drewN | apply below_drew1) | exact HB.out)))); have n1_ := Aside0.mk (below_step (by repeat (first | (with_reducible first | exact HB.out | apply below_alloc | apply pw_below_drewN | apply below_drew1) | exact HB.out)) hb); clear HB; have HO282 := n0_; have HB := n1_; clear n0_ n1_; (try clear hb); (try clear hb2); (try clear hk); (try clear hi); (try clear ho0)) | ((with_reducible refine gate_dst (N := 1) rfl ?_); (try (refine gate_guard (by rfl) ?_; dsimp only)); refine box_event ?hg (N := 1) ?hd (cs := #[.int .i64 0, .string (⟨#[]⟩ : ByteArray), .string (⟨#[]⟩ : ByteArray), .slice none 0 0, .bool false]) (t := 39) ?hr ?_; (case hd => rfl); (case hg => rfl); (case hr => first | (go_simp; done) | (go_simp; rfl)); intro gb286 hg w30 hbox hb; have n0_ := Aside0.mk (Kd.R_below (by (with_reducible repeat (first | apply Kd.R_alloc | apply Kd.R_drewN | apply Kd.R_drew)); exact HO282.out) hb); have n1_ := Aside0.mk (below_step (by repeat (first | (with_reducible first | exact HB.out | apply below_alloc | apply pw_below_drewN | apply below_drew1) | exact HB.out)) hb); have n2_ := Aside0.mk (hbox); have n3_ := Aside0.mk ((by rw [hg]; exact (below_size (by repeat (first | (with_reducible first | exact HB.out | apply below_alloc | apply pw_below_drewN | apply below_drew1) | exact HB.out))) : w.heap.size ≤ gb286)); have n4_ := Aside0.mk ((by rw [hg]; exact (below_size (by repeat (first | (with_reducible first | exact HB.out | apply below_alloc | apply pw_below_drewN | apply below_drew1) | exact HB.out))) : w.heap.size ≤ gb286)); clear HO282; clear HB; have HO282 := n0_; have HB := n1_; have BK286 := n2_; have GW286 := n3_; have GE286 := n4_; clear n0_ n1_ n2_ n3_ n4_; clear hb hbox hg; have hcz31_0 : w30.cell? ⟨gb286, 0, none⟩ = some (.int .i64 0) := (blk_cell BK286.out 0).trans rfl; have hcz31_1 : w30.cell? ⟨gb286, 1, none⟩ = some (.string (⟨#[]⟩ : ByteArray)) := (blk_cell BK286.out 1).trans rfl; have hcz31_2 : w30.cell? ⟨gb286, 2, none⟩ = some (.string (⟨#[]⟩ : ByteArray)) := (blk_cell BK286.out 2).trans rfl; have hcz31_3 : w30.cell? ⟨gb286, 3, none⟩ = some (.slice none 0 0) := (blk_cell BK286.out 3).trans rfl; have hcz31_4 : w30.cell? ⟨gb286, 4, none⟩ = some (.bool false) := (blk_cell BK286.out 4).trans rfl; have hfz31_0 := blk_frozen BK286.out 0; have hfz31_1 := blk_frozen BK286.out 1; have hfz31_2 := blk_frozen BK286.out 2; have hfz31_3 := blk_frozen BK286.out 3; have hfz31_4 := blk_frozen BK286.out 4; obtain ⟨Ao32, co32, eo32⟩ := Kd.R_slice HO282.out; subst eo32) | ((with_reducible refine gate_callee (f := 18) rfl ?_); refine goesL_ (some 13) rfl rfl Tryd.func18 (by kernel_rfl) rfl #[.string (⟨#[60, 47, 112, 32, 62]⟩ : ByteArray), .int .i64 0] rfl (by (try simp only [List.map_toArray, List.map_cons, List.map_nil]); first | done | rfl | (simp only [List.length_drop, List.length_take]; rfl)) ?_; (with_reducible refine (tag_Read.calls (⟨#[60, 47, 112, 32, 62]⟩ : ByteArray) 0 t287 t288 t289 t290 t293 t294 true _ ?side1 A2.out).mono ?_); (case side1 => first | (with_reducible exact HG.out) | exact Gl.below HG.out (by repeat (first | (with_reducible first | exact HB.out | apply below_alloc | apply pw_below_drewN | apply below_drew1 | refine below_set ?_ GE286.out) | exact HB.out)) | exact HG.out); rintro e w33 ⟨v291, rfl, ho0, hb⟩; refine ⟨_, rfl, ?_⟩; have n0_ := Aside0.mk (Kd.R_elder' (by (with_reducible repeat (first | apply Kd.R_alloc | apply Kd.R_drewN | apply Kd.R_drew)); exact (Kd.R_mono (Kd.R_far (p := ⟨gb286, 4, none⟩) (Kd.R_far (p := ⟨gb286, 3, none⟩) (Kd.R_far (p := ⟨gb286, 2, none⟩) (Kd.R_far (p := ⟨gb286, 1, none⟩) (Kd.R_far (p := ⟨gb286, 0, none⟩) (Kd.R_types HO282.out BK286.out (by decide)) (fun _ hk => hk.2) (.int .i64 t277)) (fun _ hk => hk.2) (.string t278)) (fun _ hk => hk.2) (.string t279)) (fun _ hk => hk.2) (.slice Ao32 t280.length co32)) (fun _ hk => hk.2) (.bool t283)) (fun _ h_ => h_.1))) (Kd.R_base ho0) hb); have n1_ := Aside0.mk (Kd.R_lower (Kd.R_new' ho0 (Kd.R_lt (by (with_reducible repeat (first | apply Kd.R_alloc | apply Kd.R_drewN | apply Kd.R_drew)); exact (Kd.R_mono (Kd.R_far (p := ⟨gb286, 4, none⟩) (Kd.R_far (p := ⟨gb286, 3, none⟩) (Kd.R_far (p := ⟨gb286, 2, none⟩) (Kd.R_far (p := ⟨gb286, 1, none⟩) (Kd.R_far (p := ⟨gb286, 0, none⟩) (Kd.R_types HO282.out BK286.out (by decide)) (fun _ hk => hk.2) (.int .i64 t277)) (fun _ hk => hk.2) (.string t278)) (fun _ hk => hk.2) (.string t279)) (fun _ hk => hk.2) (.slice Ao32 t280.length co32)) (fun _ hk => hk.2) (.bool t283)) (fun _ h_ => h_.1))))) (below_size (by repeat (first | (with_reducible first | exact HB.out | apply below_alloc | apply pw_below_drewN | apply below_drew1 | refine below_set ?_ GE286.out) | exact HB.out)))); have n2_ := Aside0.mk (blk_below (g := gb286) (o := .cells #[.int .i64 t277, .string t278, .string t279, .slice Ao32 t280.length co32, .bool t283] 39 (0, 0)) (by (with_reducible repeat (first | refine blk_drewN ?_ _ | refine blk_drew ?_ | refine blk_alloc ?_ _)); refine blk_put (cs := #[.int .i64 t277, .string t278, .string t279, .slice Ao32 t280.length co32, .bool false]) ?_ 4 _ rfl; (with_reducible repeat (first | refine blk_drewN ?_ _ | refine blk_drew ?_ | refine blk_alloc ?_ _)); refine blk_put (cs := #[.int .i64 t277, .string t278, .string t279, .slice none 0 0, .bool false]) ?_ 3 _ rfl; (with_reducible repeat (first | refine blk_drewN ?_ _ | refine blk_drew ?_ | refine blk_alloc ?_ _)); refine blk_put (cs := #[.int .i64 t277, .string t278, .string (⟨#[]⟩ : ByteArray), .slice none 0 0, .bool false]) ?_ 2 _ rfl; (with_reducible repeat (first | refine blk_drewN ?_ _ | refine blk_drew ?_ | refine blk_alloc ?_ _)); refine blk_put (cs := #[.int .i64 t277, .string (⟨#[]⟩ : ByteArray), .string (⟨#[]⟩ : ByteArray), .slice none 0 0, .bool false]) ?_ 1 _ rfl; (with_reducible repeat (first | refine blk_drewN ?_ _ | refine blk_drew ?_ | refine blk_alloc ?_ _)); refine blk_put (cs := #[.int .i64 0, .string (⟨#[]⟩ : ByteArray), .string (⟨#[]⟩ : ByteArray), .slice none 0 0, .bool false]) ?_ 0 _ rfl; (with_reducible repeat (first | refine blk_drewN ?_ _ | refine blk_drew ?_ | refine blk_alloc ?_ _)); exact BK286.out) hb); have n3_ := Aside0.mk (below_step (by repeat (first | (with_reducible first | exact HB.out | apply below_alloc | apply pw_below_drewN | apply below_drew1 | refine below_set ?_ GE286.out) | exact HB.out)) hb); clear HO282; clear BK286; clear HB; have HO282 := n0_; have HO292 := n1_; have BK286 := n2_; have HB := n3_; clear n0_ n1_ n2_ n3_; (try clear hb); (try clear hb2); (try clear hk); (try clear hi); (try clear ho0)) | ((with_reducible refine gate_dst (N := 4) rfl ?_); (try (refine gate_guard (by rfl) ?_; dsimp only)); refine box_event ?hg (N := 4) ?hd (cs := #[.int .i64 0, .string (⟨#[]⟩ : ByteArray), .string (⟨#[]⟩ : ByteArray), .slice none 0 0, .bool false]) (t := 39) ?hr ?_; (case hd => rfl); (case hg => rfl); (case hr => first | (go_simp; done) | (go_simp; rfl)); intro gb296 hg w34 hbox hb; have n0_ := Aside0.mk (Kd.R_below (by (with_reducible repeat (first | apply Kd.R_alloc | apply Kd.R_drewN | apply Kd.R_drew)); exact HO282.out) hb); have n1_ := Aside0.mk (Kd.R_below (by (with_reducible repeat (first | apply Kd.R_alloc | apply Kd.R_drewN | apply Kd.R_drew)); exact HO292.out) hb); have n2_ := Aside0.mk (blk_below (g := gb286) (o := .cells #[.int .i64 t277, .string t278, .string t279, .slice Ao32 t280.length co32, .bool t283] 39 (0, 0)) (by (with_reducible repeat (first | refine blk_drewN ?_ _ | refine blk_drew ?_ | refine blk_alloc ?_ _)); exact BK286.out) hb); have n3_ := Aside0.mk (below_step (by repeat (first | (with_reducible first | exact HB.out | apply below_alloc | apply pw_below_drewN | apply below_drew1 | refine below_set ?_ GE286.out) | exact HB.out)) hb); have n4_ := Aside0.mk (hbox); have n5_ := Aside0.mk ((by rw [hg]; exact (below_size (by repeat (first | (with_reducible first | exact HB.out | apply below_alloc | apply pw_below_drewN | apply below_drew1 | refine below_set ?_ GE286.out) | exact HB.out))) : w.heap.size ≤ gb296)); have n6_ := Aside0.mk ((by rw [hg]; exact (below_size (by repeat (first | (with_reducible first | exact HB.out | apply below_alloc | apply pw_below_drewN | apply below_drew1 | refine below_set ?_ GE286.out) | exact HB.out))) : w.heap.size ≤ gb296)); have n7_ := Aside0.mk ((by rw [hg]; exact Nat.ne_of_lt (blk_lt (g := gb286) (o := .cells #[.int .i64 t277, .string t278, .string t279, .slice Ao32 t280.length co32, .bool t283] 39 (0, 0)) (by (with_reducible repeat (first | refine blk_drewN ?_ _ | refine blk_drew ?_ | refine blk_alloc ?_ _)); exact BK286.out)) : gb286 ≠ gb296)); have n8_ := Aside0.mk ((by rw [hg]; exact Nat.ne_of_gt (blk_lt (g := gb286) (o := .cells #[.int .i64 t277, .string t278, .string t279, .slice Ao32 t280.length co32, .bool t283] 39 (0, 0)) (by (with_reducible repeat (first | refine blk_drewN ?_ _ | refine blk_drew ?_ | refine blk_alloc ?_ _)); exact BK286.out)) : gb296 ≠ gb286)); clear HO282; clear HO292; clear BK286; clear HB; have HO282 := n0_; have HO292 := n1_; have BK286 := n2_; have HB := n3_; have BK296 := n4_; have GW296 := n5_; have GE296 := n6_; have NB286_296 := n7_; have NB296_286 := n8_; clear n0_ n1_ n2_ n3_ n4_ n5_ n6_ n7_ n8_; clear hb hbox hg; have hnb35 := NB296_286.out; have hnc35 := NB286_296.out; have hcz36_0 : w34.cell? ⟨gb296, 0, none⟩ = some (.int .i64 0) := (blk_cell BK296.out 0).trans rfl; have hcz36_1 : w34.cell? ⟨gb296, 1, none⟩ = some (.string (⟨#[]⟩ : ByteArray)) := (blk_cell BK296.out 1).trans rfl; have hcz36_2 : w34.cell? ⟨gb296, 2, none⟩ = some (.string (⟨#[]⟩ : ByteArray)) := (blk_cell BK296.out 2).trans rfl; have hcz36_3 : w34.cell? ⟨gb296, 3, none⟩ = some (.slice none 0 0) := (blk_cell BK296.out 3).trans rfl; have hcz36_4 : w34.cell? ⟨gb296, 4, none⟩ = some (.bool false) := (blk_cell BK296.out 4).trans rfl; have hfz36_0 := blk_frozen BK296.out 0; have hfz36_1 := blk_frozen BK296.out 1; have hfz36_2 := blk_frozen BK296.out 2; have hfz36_3 := blk_frozen BK296.out 3; have hfz36_4 := blk_frozen BK296.out 4; obtain ⟨Ao37, co37, eo37⟩ := Kd.R_slice HO292.out; subst eo37) | (go_at_call 20; (with_reducible refine (tag_Begins.calls (⟨#[60, 97]⟩ : ByteArray) 0 true _ A7.out).mono ?_); rintro e w38 ⟨rfl, hb⟩; have n0_ := Aside0.mk (Kd.R_below (by (with_reducible repeat (first | apply Kd.R_alloc | apply Kd.R_drewN | apply Kd.R_drew)); exact (Kd.R_mono (Kd.R_far (p := ⟨gb296, 4, none⟩) (Kd.R_far (p := ⟨gb296, 3, none⟩) (Kd.R_far (p := ⟨gb296, 2, none⟩) (Kd.R_far (p := ⟨gb296, 1, none⟩) (Kd.R_far (p := ⟨gb296, 0, none⟩) (Kd.R_types HO282.out BK296.out (by decide)) (fun _ hk => hk.2) (.int .i64 t287)) (fun _ hk => hk.2) (.string t288)) (fun _ hk => hk.2) (.string t289)) (fun _ hk => hk.2) (.slice Ao37 t290.length co37)) (fun _ hk => hk.2) (.bool t293)) (fun _ h_ => h_.1))) hb); have n1_ := Aside0.mk (Kd.R_below (by (with_reducible repeat (first | apply Kd.R_alloc | apply Kd.R_drewN | apply Kd.R_drew)); exact (Kd.R_mono (Kd.R_far (p := ⟨gb296, 4, none⟩) (Kd.R_far (p := ⟨gb296, 3, none⟩) (Kd.R_far (p := ⟨gb296, 2, none⟩) (Kd.R_far (p := ⟨gb296, 1, none⟩) (Kd.R_far (p := ⟨gb296, 0, none⟩) (Kd.R_types HO292.out BK296.out (by decide)) (fun _ hk => hk.2) (.int .i64 t287)) (fun _ hk => hk.2) (.string t288)) (fun _ hk => hk.2) (.string t289)) (fun _ hk => hk.2) (.slice Ao37 t290.length co37)) (fun _ hk => hk.2) (.bool t293)) (fun _ h_ => h_.1))) hb); have n2_ := Aside0.mk (blk_below (g := gb286) (o := .cells #[.int .i64 t277, .string t278, .string t279, .slice Ao32 t280.length co32, .bool t283] 39 (0, 0)) (by (with_reducible repeat (first | refine blk_drewN ?_ _ | refine blk_drew ?_ | refine blk_alloc ?_ _)); refine blk_far ?_ NB286_296.out _; (with_reducible repeat (first | refine blk_drewN ?_ _ | refine blk_drew ?_ | refine blk_alloc ?_ _)); refine blk_far ?_ NB286_296.out _; (with_reducible repeat (first | refine blk_drewN ?_ _ | refine blk_drew ?_ | refine blk_alloc ?_ _)); refine blk_far ?_ NB286_296.out _; (with_reducible repeat (first | refine blk_drewN ?_ _ | refine blk_drew ?_ | refine blk_alloc ?_ _)); refine blk_far ?_ NB286_296.out _; (with_reducible repeat (first | refine blk_drewN ?_ _ | refine blk_drew ?_ | refine blk_alloc ?_ _)); refine blk_far ?_ NB286_296.out _; (with_reducible repeat (first | refine blk_drewN ?_ _ | refine blk_drew ?_ | refine blk_alloc ?_ _)); exact BK286.out) hb); have n3_ := Aside0.mk (blk_below (g := gb296) (o := .cells #[.int .i64 t287, .string t288, .string t289, .slice Ao37 t290.length co37, .bool t293] 39 (0, 0)) (by (with_reducible repeat (first | refine blk_drewN ?_ _ | refine blk_drew ?_ | refine blk_alloc ?_ _)); refine blk_put (cs := #[.int .i64 t287, .string t288, .string t289, .slice Ao37 t290.length co37, .bool false]) ?_ 4 _ rfl; (with_reducible repeat (first | refine blk_drewN ?_ _ | refine blk_drew ?_ | refine blk_alloc ?_ _)); refine blk_put (cs := #[.int .i64 t287, .string t288, .string t289, .slice none 0 0, .bool false]) ?_ 3 _ rfl; (with_reducible repeat (first | refine blk_drewN ?_ _ | refine blk_drew ?_ | refine blk_alloc ?_ _)); refine blk_put (cs := #[.int .i64 t287, .string t288, .string (⟨#[]⟩ : ByteArray), .slice none 0 0, .bool false]) ?_ 2 _ rfl; (with_reducible repeat (first | refine blk_drewN ?_ _ | refine blk_drew ?_ | refine blk_alloc ?_ _)); refine blk_put (cs := #[.int .i64 t287, .string (⟨#[]⟩ : ByteArray), .string (⟨#[]⟩ : ByteArray), .slice none 0 0, .bool false]) ?_ 1 _ rfl; (with_reducible repeat (first | refine blk_drewN ?_ _ | refine blk_drew ?_ | refine blk_alloc ?_ _)); refine blk_put (cs := #[.int .i64 0, .string (⟨#[]⟩ : ByteArray), .string (⟨#[]⟩ : ByteArray), .slice none 0 0, .bool false]) ?_ 0 _ rfl; (with_reducible repeat (first | refine blk_drewN ?_ _ | refine blk_drew ?_ | refine blk_alloc ?_ _)); exact BK296.out) hb); have n4_ := Aside0.mk (below_step (by repeat (first | (with_reducible first | exact HB.out | apply below_alloc | apply pw_below_drewN | apply below_drew1 | refine below_set ?_ GE286.out | refine below_set ?_ GE296.out) | exact HB.out)) hb); clear HO282; clear HO292; clear BK286; clear BK296; clear HB; have HO282 := n0_; have HO292 := n1_; have BK286 := n2_; have BK296 := n3_; have HB := n4_; clear n0_ n1_ n2_ n3_ n4_; (try clear hb); (try clear hb2); (try clear hk); (try clear hi); have hcz39_0 : w38.cell? ⟨gb286, 0, none⟩ = some (.int .i64 t277) := (blk_cell BK286.out 0).trans rfl; have hcz39_1 : w38.cell? ⟨gb286, 1, none⟩ = some (.string t278) := (blk_cell BK286.out 1).trans rfl; have hcz39_2 : w38.cell? ⟨gb286, 2, none⟩ = some (.string t279) := (blk_cell BK286.out 2).trans rfl; have hcz39_3 : w38.cell? ⟨gb286, 3, none⟩ = some (.slice Ao32 t280.length co32) := (blk_cell BK286.out 3).trans rfl; have hcz39_4 : w38.cell? ⟨gb286, 4, none⟩ = some (.bool t283) := (blk_cell BK286.out 4).trans rfl; have hfz39_0 := blk_frozen BK286.out 0; have hfz39_1 := blk_frozen BK286.out 1; have hfz39_2 := blk_frozen BK286.out 2; have hfz39_3 := blk_frozen BK286.out 3; have hfz39_4 := blk_frozen BK286.out 4) | ((with_reducible refine gate_dst (N := 35) rfl ?_); (try (refine gate_guard (by rfl) ?_; dsimp only)); refine Kd.R_lit k27 _ 27 ?hg (N := 35) ?hd (xs := ([(⟨(⟨#[120]⟩ : ByteArray), (⟨#[]⟩ : ByteArray)⟩ : S27)] : List (S27))) (inner := [.string (⟨#[120]⟩ : ByteArray), .string (⟨#[]⟩ : ByteArray)]) (ok := fun _ => True) (okp := fun _ => True) ?hr ?hp (fun _ hk => hk) trivial (Below.refl _ _) (Nat.le_refl _) (by simp) ?_; (case hd => rfl); (case hg => rfl); (case hr => first | (go_simp; done) | (go_simp; rfl)); (case hp => exact (Reps.c2 (show Kd.M k27 _ _ _ (⟨(⟨#[120]⟩ : ByteArray), (⟨#[]⟩ : ByteArray)⟩ : S27) [.string (⟨#[120]⟩ : ByteArray), .string (⟨#[]⟩ : ByteArray)] from (k27_mkM _ _ _ (⟨(⟨#[120]⟩ : ByteArray), (⟨#[]⟩ : ByteArray)⟩ : S27) )) (Reps.none _ _))); intro v299 w40 ho41 hb hg_ hnew_; clear hg_ hnew_; (first | rw [← Ny298.out] at ho41 | (simp only [Int.reduceToNat] at ho41; rw [← Ny298.out] at ho41)); have n0_ := Aside0.mk (Kd.R_elder' (by (with_reducible repeat (first | apply Kd.R_alloc | apply Kd.R_drewN | apply Kd.R_drew)); exact HO282.out) (Kd.R_base ho41) hb); have n1_ := Aside0.mk (Kd.R_elder' (by (with_reducible repeat (first | apply Kd.R_alloc | apply Kd.R_drewN | apply Kd.R_drew)); exact HO292.out) (Kd.R_base ho41) hb); have n2_ := Aside0.mk (Kd.R_lower (Kd.R_new' (Kd.R_new' ho41 (Kd.R_lt (by (with_reducible repeat (first | apply Kd.R_alloc | apply Kd.R_drewN | apply Kd.R_drew)); exact HO282.out))) (Kd.R_lt (by (with_reducible repeat (first | apply Kd.R_alloc | apply Kd.R_drewN | apply Kd.R_drew)); exact HO292.out))) (below_size (by repeat (first | (with_reducible first | exact HB.out | apply below_alloc | apply pw_below_drewN | apply below_drew1 | refine below_set ?_ GE286.out | refine below_set ?_ GE296.out) | exact HB.out)))); have n3_ := Aside0.mk (blk_below (g := gb286) (o := .cells #[.int .i64 t277, .string t278, .string t279, .slice Ao32 t280.length co32, .bool t283] 39 (0, 0)) (by (with_reducible repeat (first | refine blk_drewN ?_ _ | refine blk_drew ?_ | refine blk_alloc ?_ _)); exact BK286.out) hb); have n4_ := Aside0.mk (blk_below (g := gb296) (o := .cells #[.int .i64 t287, .string t288, .string t289, .slice Ao37 t290.length co37, .bool t293] 39 (0, 0)) (by (with_reducible repeat (first | refine blk_drewN ?_ _ | refine blk_drew ?_ | refine blk_alloc ?_ _)); exact BK296.out) hb); have n5_ := Aside0.mk (below_step (by repeat (first | (with_reducible first | exact HB.out | apply below_alloc | apply pw_below_drewN | apply below_drew1 | refine below_set ?_ GE286.out | refine below_set ?_ GE296.out) | exact HB.out)) hb); clear HO282; clear HO292; clear BK286; clear BK296; clear HB; have HO282 := n0_; have HO292 := n1_; have HO300 := n2_; have BK286 := n3_; have BK296 := n4_; have HB := n5_; clear n0_ n1_ n2_ n3_ n4_ n5_; clear hb ho41; obtain ⟨Ao42, co42, eo42⟩ := Kd.R_slice HO300.out; subst eo42) | (go_at_call 19; (with_reducible refine (flailref09_Same.calls k t277 t278 t279 _ _ t280 t283 1 (⟨#[97]⟩ : ByteArray) (⟨#[]⟩ : ByteArray) _ _ y298 false false _ ?side1 ?side2 ?side3 ?side4 A9.out).mono ?_); (case side1 => repeat (first | exact (Kd.R_reads' HO282.out).2.2 | (with_reducible refine Kd.C_alloc ?_ _) | (with_reducible refine Kd.C_drewN ?_ _) | (with_reducible refine Kd.C_drew ?_))); (case side2 => exact (Kd.R_reads' HO282.out).2.1); (case side3 => repeat (first | exact (Kd.R_reads' HO300.out).2.2 | (with_reducible refine Kd.C_alloc ?_ _) | (with_reducible refine Kd.C_drewN ?_ _) | (with_reducible refine Kd.C_drew ?_))); (case side4 => exact (Kd.R_reads' HO300.out).2.1); rintro e w43 ⟨rfl, hb⟩; have n0_ := Aside0.mk (Kd.R_below (by (with_reducible repeat (first | apply Kd.R_alloc | apply Kd.R_drewN | apply Kd.R_drew)); exact HO282.out) hb); have n1_ := Aside0.mk (Kd.R_below (by (with_reducible repeat (first | apply Kd.R_alloc | apply Kd.R_drewN | apply Kd.R_drew)); exact HO292.out) hb); have n2_ := Aside0.mk (Kd.R_below (by (with_reducible repeat (first | apply Kd.R_alloc | apply Kd.R_drewN | apply Kd.R_drew)); exact HO300.out) hb); have n3_ := Aside0.mk (blk_below (g := gb286) (o := .cells #[.int .i64 t277, .string t278, .string t279, .slice Ao32 t280.length co32, .bool t283] 39 (0, 0)) (by (with_reducible repeat (first | refine blk_drewN ?_ _ | refine blk_drew ?_ | refine blk_alloc ?_ _)); exact BK286.out) hb); have n4_ := Aside0.mk (blk_below (g := gb296) (o := .cells #[.int .i64 t287, .string t288, .string t289, .slice Ao37 t290.length co37, .bool t293] 39 (0, 0)) (by (with_reducible repeat (first | refine blk_drewN ?_ _ | refine blk_drew ?_ | refine blk_alloc ?_ _)); exact BK296.out) hb); have n5_ := Aside0.mk (below_step (by repeat (first | (with_reducible first | exact HB.out | apply below_alloc | apply pw_below_drewN | apply below_drew1 | refine below_set ?_ GE286.out | refine below_set ?_ GE296.out) | exact HB.out)) hb); clear HO282; clear HO292; clear HO300; clear BK286; clear BK296; clear HB; have HO282 := n0_; have HO292 := n1_; have HO300 := n2_; have BK286 := n3_; have BK296 := n4_; have HB := n5_; clear n0_ n1_ n2_ n3_ n4_ n5_; (try clear hb); (try clear hb2); (try clear hk); (try clear hi)))
              go_ret
              exact ⟨by first | rfl | (simp [errW_none, errW_some] <;> rfl) | (simp [*, errW_none, errW_some] <;> rfl), by repeat (first | (with_reducible first | exact HB.out | apply below_alloc | apply pw_below_drewN | apply below_drew1 | refine below_set ?_ GE286.out | refine below_set ?_ GE296.out) | exact HB.out)⟩
          · replace c8 := Bool.eq_false_iff.mpr c8
            subst c8
            have H1 : (some false) = some r := by rw [if_neg (show ¬ (false = true) by decide)] at H; exact H
            clear H
            have H := H1
            clear H1
            obtain rfl := Option.some.inj H
            go_enter Tryd.func17, Tryd.ntmps17
            go_wp2_with (first | ((with_reducible refine gate_callee (f := 18) rfl ?_); refine goesL_ (some 8) rfl rfl Tryd.func18 (by kernel_rfl) rfl #[.string (⟨#[60, 65, 32, 120, 62]⟩ : ByteArray), .int .i64 0] rfl (by (try simp only [List.map_toArray, List.map_cons, List.map_nil]); first | done | rfl | (simp only [List.length_drop, List.length_take]; rfl)) ?_; (with_reducible refine (tag_Read.calls (⟨#[60, 65, 32, 120, 62]⟩ : ByteArray) 0 t277 t278 t279 t280 t283 t284 true _ ?side1 A1.out).mono ?_); (case side1 => first | (with_reducible exact HG.out) | exact Gl.below HG.out (by repeat (first | (with_reducible first | exact HB.out | apply below_alloc | apply pw_below_drewN | apply below_drew1) | exact HB.out)) | exact HG.out); rintro e w44 ⟨v281, rfl, ho0, hb⟩; refine ⟨_, rfl, ?_⟩; have n0_ := Aside0.mk (Kd.R_lower ho0 (below_size (by repeat (first | (with_reducible first | exact HB.out | apply below_alloc | apply pw_below_drewN | apply below_drew1) | exact HB.out)))); have n1_ := Aside0.mk (below_step (by repeat (first | (with_reducible first | exact HB.out | apply below_alloc | apply pw_below_drewN | apply below_drew1) | exact HB.out)) hb); clear HB; have HO282 := n0_; have HB := n1_; clear n0_ n1_; (try clear hb); (try clear hb2); (try clear hk); (try clear hi); (try clear ho0)) | ((with_reducible refine gate_dst (N := 1) rfl ?_); (try (refine gate_guard (by rfl) ?_; dsimp only)); refine box_event ?hg (N := 1) ?hd (cs := #[.int .i64 0, .string (⟨#[]⟩ : ByteArray), .string (⟨#[]⟩ : ByteArray), .slice none 0 0, .bool false]) (t := 39) ?hr ?_; (case hd => rfl); (case hg => rfl); (case hr => first | (go_simp; done) | (go_simp; rfl)); intro gb286 hg w45 hbox hb; have n0_ := Aside0.mk (Kd.R_below (by (with_reducible repeat (first | apply Kd.R_alloc | apply Kd.R_drewN | apply Kd.R_drew)); exact HO282.out) hb); have n1_ := Aside0.mk (below_step (by repeat (first | (with_reducible first | exact HB.out | apply below_alloc | apply pw_below_drewN | apply below_drew1) | exact HB.out)) hb); have n2_ := Aside0.mk (hbox); have n3_ := Aside0.mk ((by rw [hg]; exact (below_size (by repeat (first | (with_reducible first | exact HB.out | apply below_alloc | apply pw_below_drewN | apply below_drew1) | exact HB.out))) : w.heap.size ≤ gb286)); have n4_ := Aside0.mk ((by rw [hg]; exact (below_size (by repeat (first | (with_reducible first | exact HB.out | apply below_alloc | apply pw_below_drewN | apply below_drew1) | exact HB.out))) : w.heap.size ≤ gb286)); clear HO282; clear HB; have HO282 := n0_; have HB := n1_; have BK286 := n2_; have GW286 := n3_; have GE286 := n4_; clear n0_ n1_ n2_ n3_ n4_; clear hb hbox hg; have hcz46_0 : w45.cell? ⟨gb286, 0, none⟩ = some (.int .i64 0) := (blk_cell BK286.out 0).trans rfl; have hcz46_1 : w45.cell? ⟨gb286, 1, none⟩ = some (.string (⟨#[]⟩ : ByteArray)) := (blk_cell BK286.out 1).trans rfl; have hcz46_2 : w45.cell? ⟨gb286, 2, none⟩ = some (.string (⟨#[]⟩ : ByteArray)) := (blk_cell BK286.out 2).trans rfl; have hcz46_3 : w45.cell? ⟨gb286, 3, none⟩ = some (.slice none 0 0) := (blk_cell BK286.out 3).trans rfl; have hcz46_4 : w45.cell? ⟨gb286, 4, none⟩ = some (.bool false) := (blk_cell BK286.out 4).trans rfl; have hfz46_0 := blk_frozen BK286.out 0; have hfz46_1 := blk_frozen BK286.out 1; have hfz46_2 := blk_frozen BK286.out 2; have hfz46_3 := blk_frozen BK286.out 3; have hfz46_4 := blk_frozen BK286.out 4; obtain ⟨Ao47, co47, eo47⟩ := Kd.R_slice HO282.out; subst eo47) | ((with_reducible refine gate_callee (f := 18) rfl ?_); refine goesL_ (some 13) rfl rfl Tryd.func18 (by kernel_rfl) rfl #[.string (⟨#[60, 47, 112, 32, 62]⟩ : ByteArray), .int .i64 0] rfl (by (try simp only [List.map_toArray, List.map_cons, List.map_nil]); first | done | rfl | (simp only [List.length_drop, List.length_take]; rfl)) ?_; (with_reducible refine (tag_Read.calls (⟨#[60, 47, 112, 32, 62]⟩ : ByteArray) 0 t287 t288 t289 t290 t293 t294 true _ ?side1 A2.out).mono ?_); (case side1 => first | (with_reducible exact HG.out) | exact Gl.below HG.out (by repeat (first | (with_reducible first | exact HB.out | apply below_alloc | apply pw_below_drewN | apply below_drew1 | refine below_set ?_ GE286.out) | exact HB.out)) | exact HG.out); rintro e w48 ⟨v291, rfl, ho0, hb⟩; refine ⟨_, rfl, ?_⟩; have n0_ := Aside0.mk (Kd.R_elder' (by (with_reducible repeat (first | apply Kd.R_alloc | apply Kd.R_drewN | apply Kd.R_drew)); exact (Kd.R_mono (Kd.R_far (p := ⟨gb286, 4, none⟩) (Kd.R_far (p := ⟨gb286, 3, none⟩) (Kd.R_far (p := ⟨gb286, 2, none⟩) (Kd.R_far (p := ⟨gb286, 1, none⟩) (Kd.R_far (p := ⟨gb286, 0, none⟩) (Kd.R_types HO282.out BK286.out (by decide)) (fun _ hk => hk.2) (.int .i64 t277)) (fun _ hk => hk.2) (.string t278)) (fun _ hk => hk.2) (.string t279)) (fun _ hk => hk.2) (.slice Ao47 t280.length co47)) (fun _ hk => hk.2) (.bool t283)) (fun _ h_ => h_.1))) (Kd.R_base ho0) hb); have n1_ := Aside0.mk (Kd.R_lower (Kd.R_new' ho0 (Kd.R_lt (by (with_reducible repeat (first | apply Kd.R_alloc | apply Kd.R_drewN | apply Kd.R_drew)); exact (Kd.R_mono (Kd.R_far (p := ⟨gb286, 4, none⟩) (Kd.R_far (p := ⟨gb286, 3, none⟩) (Kd.R_far (p := ⟨gb286, 2, none⟩) (Kd.R_far (p := ⟨gb286, 1, none⟩) (Kd.R_far (p := ⟨gb286, 0, none⟩) (Kd.R_types HO282.out BK286.out (by decide)) (fun _ hk => hk.2) (.int .i64 t277)) (fun _ hk => hk.2) (.string t278)) (fun _ hk => hk.2) (.string t279)) (fun _ hk => hk.2) (.slice Ao47 t280.length co47)) (fun _ hk => hk.2) (.bool t283)) (fun _ h_ => h_.1))))) (below_size (by repeat (first | (with_reducible first | exact HB.out | apply below_alloc | apply pw_below_drewN | apply below_drew1 | refine below_set ?_ GE286.out) | exact HB.out)))); have n2_ := Aside0.mk (blk_below (g := gb286) (o := .cells #[.int .i64 t277, .string t278, .string t279, .slice Ao47 t280.length co47, .bool t283] 39 (0, 0)) (by (with_reducible repeat (first | refine blk_drewN ?_ _ | refine blk_drew ?_ | refine blk_alloc ?_ _)); refine blk_put (cs := #[.int .i64 t277, .string t278, .string t279, .slice Ao47 t280.length co47, .bool false]) ?_ 4 _ rfl; (with_reducible repeat (first | refine blk_drewN ?_ _ | refine blk_drew ?_ | refine blk_alloc ?_ _)); refine blk_put (cs := #[.int .i64 t277, .string t278, .string t279, .slice none 0 0, .bool false]) ?_ 3 _ rfl; (with_reducible repeat (first | refine blk_drewN ?_ _ | refine blk_drew ?_ | refine blk_alloc ?_ _)); refine blk_put (cs := #[.int .i64 t277, .string t278, .string (⟨#[]⟩ : ByteArray), .slice none 0 0, .bool false]) ?_ 2 _ rfl; (with_reducible repeat (first | refine blk_drewN ?_ _ | refine blk_drew ?_ | refine blk_alloc ?_ _)); refine blk_put (cs := #[.int .i64 t277, .string (⟨#[]⟩ : ByteArray), .string (⟨#[]⟩ : ByteArray), .slice none 0 0, .bool false]) ?_ 1 _ rfl; (with_reducible repeat (first | refine blk_drewN ?_ _ | refine blk_drew ?_ | refine blk_alloc ?_ _)); refine blk_put (cs := #[.int .i64 0, .string (⟨#[]⟩ : ByteArray), .string (⟨#[]⟩ : ByteArray), .slice none 0 0, .bool false]) ?_ 0 _ rfl; (with_reducible repeat (first | refine blk_drewN ?_ _ | refine blk_drew ?_ | refine blk_alloc ?_ _)); exact BK286.out) hb); have n3_ := Aside0.mk (below_step (by repeat (first | (with_reducible first | exact HB.out | apply below_alloc | apply pw_below_drewN | apply below_drew1 | refine below_set ?_ GE286.out) | exact HB.out)) hb); clear HO282; clear BK286; clear HB; have HO282 := n0_; have HO292 := n1_; have BK286 := n2_; have HB := n3_; clear n0_ n1_ n2_ n3_; (try clear hb); (try clear hb2); (try clear hk); (try clear hi); (try clear ho0)) | ((with_reducible refine gate_dst (N := 4) rfl ?_); (try (refine gate_guard (by rfl) ?_; dsimp only)); refine box_event ?hg (N := 4) ?hd (cs := #[.int .i64 0, .string (⟨#[]⟩ : ByteArray), .string (⟨#[]⟩ : ByteArray), .slice none 0 0, .bool false]) (t := 39) ?hr ?_; (case hd => rfl); (case hg => rfl); (case hr => first | (go_simp; done) | (go_simp; rfl)); intro gb296 hg w49 hbox hb; have n0_ := Aside0.mk (Kd.R_below (by (with_reducible repeat (first | apply Kd.R_alloc | apply Kd.R_drewN | apply Kd.R_drew)); exact HO282.out) hb); have n1_ := Aside0.mk (Kd.R_below (by (with_reducible repeat (first | apply Kd.R_alloc | apply Kd.R_drewN | apply Kd.R_drew)); exact HO292.out) hb); have n2_ := Aside0.mk (blk_below (g := gb286) (o := .cells #[.int .i64 t277, .string t278, .string t279, .slice Ao47 t280.length co47, .bool t283] 39 (0, 0)) (by (with_reducible repeat (first | refine blk_drewN ?_ _ | refine blk_drew ?_ | refine blk_alloc ?_ _)); exact BK286.out) hb); have n3_ := Aside0.mk (below_step (by repeat (first | (with_reducible first | exact HB.out | apply below_alloc | apply pw_below_drewN | apply below_drew1 | refine below_set ?_ GE286.out) | exact HB.out)) hb); have n4_ := Aside0.mk (hbox); have n5_ := Aside0.mk ((by rw [hg]; exact (below_size (by repeat (first | (with_reducible first | exact HB.out | apply below_alloc | apply pw_below_drewN | apply below_drew1 | refine below_set ?_ GE286.out) | exact HB.out))) : w.heap.size ≤ gb296)); have n6_ := Aside0.mk ((by rw [hg]; exact (below_size (by repeat (first | (with_reducible first | exact HB.out | apply below_alloc | apply pw_below_drewN | apply below_drew1 | refine below_set ?_ GE286.out) | exact HB.out))) : w.heap.size ≤ gb296)); have n7_ := Aside0.mk ((by rw [hg]; exact Nat.ne_of_lt (blk_lt (g := gb286) (o := .cells #[.int .i64 t277, .string t278, .string t279, .slice Ao47 t280.length co47, .bool t283] 39 (0, 0)) (by (with_reducible repeat (first | refine blk_drewN ?_ _ | refine blk_drew ?_ | refine blk_alloc ?_ _)); exact BK286.out)) : gb286 ≠ gb296)); have n8_ := Aside0.mk ((by rw [hg]; exact Nat.ne_of_gt (blk_lt (g := gb286) (o := .cells #[.int .i64 t277, .string t278, .string t279, .slice Ao47 t280.length co47, .bool t283] 39 (0, 0)) (by (with_reducible repeat (first | refine blk_drewN ?_ _ | refine blk_drew ?_ | refine blk_alloc ?_ _)); exact BK286.out)) : gb296 ≠ gb286)); clear HO282; clear HO292; clear BK286; clear HB; have HO282 := n0_; have HO292 := n1_; have BK286 := n2_; have HB := n3_; have BK296 := n4_; have GW296 := n5_; have GE296 := n6_; have NB286_296 := n7_; have NB296_286 := n8_; clear n0_ n1_ n2_ n3_ n4_ n5_ n6_ n7_ n8_; clear hb hbox hg; have hnb50 := NB296_286.out; have hnc50 := NB286_296.out; have hcz51_0 : w49.cell? ⟨gb296, 0, none⟩ = some (.int .i64 0) := (blk_cell BK296.out 0).trans rfl; have hcz51_1 : w49.cell? ⟨gb296, 1, none⟩ = some (.string (⟨#[]⟩ : ByteArray)) := (blk_cell BK296.out 1).trans rfl; have hcz51_2 : w49.cell? ⟨gb296, 2, none⟩ = some (.string (⟨#[]⟩ : ByteArray)) := (blk_cell BK296.out 2).trans rfl; have hcz51_3 : w49.cell? ⟨gb296, 3, none⟩ = some (.slice none 0 0) := (blk_cell BK296.out 3).trans rfl; have hcz51_4 : w49.cell? ⟨gb296, 4, none⟩ = some (.bool false) := (blk_cell BK296.out 4).trans rfl; have hfz51_0 := blk_frozen BK296.out 0; have hfz51_1 := blk_frozen BK296.out 1; have hfz51_2 := blk_frozen BK296.out 2; have hfz51_3 := blk_frozen BK296.out 3; have hfz51_4 := blk_frozen BK296.out 4; obtain ⟨Ao52, co52, eo52⟩ := Kd.R_slice HO292.out; subst eo52) | (go_at_call 20; (with_reducible refine (tag_Begins.calls (⟨#[60, 97]⟩ : ByteArray) 0 false _ A7.out).mono ?_); rintro e w53 ⟨rfl, hb⟩; have n0_ := Aside0.mk (Kd.R_below (by (with_reducible repeat (first | apply Kd.R_alloc | apply Kd.R_drewN | apply Kd.R_drew)); exact (Kd.R_mono (Kd.R_far (p := ⟨gb296, 4, none⟩) (Kd.R_far (p := ⟨gb296, 3, none⟩) (Kd.R_far (p := ⟨gb296, 2, none⟩) (Kd.R_far (p := ⟨gb296, 1, none⟩) (Kd.R_far (p := ⟨gb296, 0, none⟩) (Kd.R_types HO282.out BK296.out (by decide)) (fun _ hk => hk.2) (.int .i64 t287)) (fun _ hk => hk.2) (.string t288)) (fun _ hk => hk.2) (.string t289)) (fun _ hk => hk.2) (.slice Ao52 t290.length co52)) (fun _ hk => hk.2) (.bool t293)) (fun _ h_ => h_.1))) hb); have n1_ := Aside0.mk (Kd.R_below (by (with_reducible repeat (first | apply Kd.R_alloc | apply Kd.R_drewN | apply Kd.R_drew)); exact (Kd.R_mono (Kd.R_far (p := ⟨gb296, 4, none⟩) (Kd.R_far (p := ⟨gb296, 3, none⟩) (Kd.R_far (p := ⟨gb296, 2, none⟩) (Kd.R_far (p := ⟨gb296, 1, none⟩) (Kd.R_far (p := ⟨gb296, 0, none⟩) (Kd.R_types HO292.out BK296.out (by decide)) (fun _ hk => hk.2) (.int .i64 t287)) (fun _ hk => hk.2) (.string t288)) (fun _ hk => hk.2) (.string t289)) (fun _ hk => hk.2) (.slice Ao52 t290.length co52)) (fun _ hk => hk.2) (.bool t293)) (fun _ h_ => h_.1))) hb); have n2_ := Aside0.mk (blk_below (g := gb286) (o := .cells #[.int .i64 t277, .string t278, .string t279, .slice Ao47 t280.length co47, .bool t283] 39 (0, 0)) (by (with_reducible repeat (first | refine blk_drewN ?_ _ | refine blk_drew ?_ | refine blk_alloc ?_ _)); refine blk_far ?_ NB286_296.out _; (with_reducible repeat (first | refine blk_drewN ?_ _ | refine blk_drew ?_ | refine blk_alloc ?_ _)); refine blk_far ?_ NB286_296.out _; (with_reducible repeat (first | refine blk_drewN ?_ _ | refine blk_drew ?_ | refine blk_alloc ?_ _)); refine blk_far ?_ NB286_296.out _; (with_reducible repeat (first | refine blk_drewN ?_ _ | refine blk_drew ?_ | refine blk_alloc ?_ _)); refine blk_far ?_ NB286_296.out _; (with_reducible repeat (first | refine blk_drewN ?_ _ | refine blk_drew ?_ | refine blk_alloc ?_ _)); refine blk_far ?_ NB286_296.out _; (with_reducible repeat (first | refine blk_drewN ?_ _ | refine blk_drew ?_ | refine blk_alloc ?_ _)); exact BK286.out) hb); have n3_ := Aside0.mk (blk_below (g := gb296) (o := .cells #[.int .i64 t287, .string t288, .string t289, .slice Ao52 t290.length co52, .bool t293] 39 (0, 0)) (by (with_reducible repeat (first | refine blk_drewN ?_ _ | refine blk_drew ?_ | refine blk_alloc ?_ _)); refine blk_put (cs := #[.int .i64 t287, .string t288, .string t289, .slice Ao52 t290.length co52, .bool false]) ?_ 4 _ rfl; (with_reducible repeat (first | refine blk_drewN ?_ _ | refine blk_drew ?_ | refine blk_alloc ?_ _)); refine blk_put (cs := #[.int .i64 t287, .string t288, .string t289, .slice none 0 0, .bool false]) ?_ 3 _ rfl; (with_reducible repeat (first | refine blk_drewN ?_ _ | refine blk_drew ?_ | refine blk_alloc ?_ _)); refine blk_put (cs := #[.int .i64 t287, .string t288, .string (⟨#[]⟩ : ByteArray), .slice none 0 0, .bool false]) ?_ 2 _ rfl; (with_reducible repeat (first | refine blk_drewN ?_ _ | refine blk_drew ?_ | refine blk_alloc ?_ _)); refine blk_put (cs := #[.int .i64 t287, .string (⟨#[]⟩ : ByteArray), .string (⟨#[]⟩ : ByteArray), .slice none 0 0, .bool false]) ?_ 1 _ rfl; (with_reducible repeat (first | refine blk_drewN ?_ _ | refine blk_drew ?_ | refine blk_alloc ?_ _)); refine blk_put (cs := #[.int .i64 0, .string (⟨#[]⟩ : ByteArray), .string (⟨#[]⟩ : ByteArray), .slice none 0 0, .bool false]) ?_ 0 _ rfl; (with_reducible repeat (first | refine blk_drewN ?_ _ | refine blk_drew ?_ | refine blk_alloc ?_ _)); exact BK296.out) hb); have n4_ := Aside0.mk (below_step (by repeat (first | (with_reducible first | exact HB.out | apply below_alloc | apply pw_below_drewN | apply below_drew1 | refine below_set ?_ GE286.out | refine below_set ?_ GE296.out) | exact HB.out)) hb); clear HO282; clear HO292; clear BK286; clear BK296; clear HB; have HO282 := n0_; have HO292 := n1_; have BK286 := n2_; have BK296 := n3_; have HB := n4_; clear n0_ n1_ n2_ n3_ n4_; (try clear hb); (try clear hb2); (try clear hk); (try clear hi)))
            go_ret
            exact ⟨by first | rfl | (simp [errW_none, errW_some] <;> rfl) | (simp [*, errW_none, errW_some] <;> rfl), by repeat (first | (with_reducible first | exact HB.out | apply below_alloc | apply pw_below_drewN | apply below_drew1 | refine below_set ?_ GE286.out | refine below_set ?_ GE296.out) | exact HB.out)⟩
        · rw [if_neg c6] at H
          have c6b0 : (t294 == 5) = false := beq_eq_false_iff_ne.mpr c6
          have c6b1 : (t294 != 5) = true := bne_iff_ne.mpr c6
          obtain rfl := Option.some.inj H
          go_enter Tryd.func17, Tryd.ntmps17
          go_wp2_with (first | ((with_reducible refine gate_callee (f := 18) rfl ?_); refine goesL_ (some 8) rfl rfl Tryd.func18 (by kernel_rfl) rfl #[.string (⟨#[60, 65, 32, 120, 62]⟩ : ByteArray), .int .i64 0] rfl (by (try simp only [List.map_toArray, List.map_cons, List.map_nil]); first | done | rfl | (simp only [List.length_drop, List.length_take]; rfl)) ?_; (with_reducible refine (tag_Read.calls (⟨#[60, 65, 32, 120, 62]⟩ : ByteArray) 0 t277 t278 t279 t280 t283 t284 true _ ?side1 A1.out).mono ?_); (case side1 => first | (with_reducible exact HG.out) | exact Gl.below HG.out (by repeat (first | (with_reducible first | exact HB.out | apply below_alloc | apply pw_below_drewN | apply below_drew1) | exact HB.out)) | exact HG.out); rintro e w54 ⟨v281, rfl, ho0, hb⟩; refine ⟨_, rfl, ?_⟩; have n0_ := Aside0.mk (Kd.R_lower ho0 (below_size (by repeat (first | (with_reducible first | exact HB.out | apply below_alloc | apply pw_below_drewN | apply below_drew1) | exact HB.out)))); have n1_ := Aside0.mk (below_step (by repeat (first | (with_reducible first | exact HB.out | apply below_alloc | apply pw_below_drewN | apply below_drew1) | exact HB.out)) hb); clear HB; have HO282 := n0_; have HB := n1_; clear n0_ n1_; (try clear hb); (try clear hb2); (try clear hk); (try clear hi); (try clear ho0)) | ((with_reducible refine gate_dst (N := 1) rfl ?_); (try (refine gate_guard (by rfl) ?_; dsimp only)); refine box_event ?hg (N := 1) ?hd (cs := #[.int .i64 0, .string (⟨#[]⟩ : ByteArray), .string (⟨#[]⟩ : ByteArray), .slice none 0 0, .bool false]) (t := 39) ?hr ?_; (case hd => rfl); (case hg => rfl); (case hr => first | (go_simp; done) | (go_simp; rfl)); intro gb286 hg w55 hbox hb; have n0_ := Aside0.mk (Kd.R_below (by (with_reducible repeat (first | apply Kd.R_alloc | apply Kd.R_drewN | apply Kd.R_drew)); exact HO282.out) hb); have n1_ := Aside0.mk (below_step (by repeat (first | (with_reducible first | exact HB.out | apply below_alloc | apply pw_below_drewN | apply below_drew1) | exact HB.out)) hb); have n2_ := Aside0.mk (hbox); have n3_ := Aside0.mk ((by rw [hg]; exact (below_size (by repeat (first | (with_reducible first | exact HB.out | apply below_alloc | apply pw_below_drewN | apply below_drew1) | exact HB.out))) : w.heap.size ≤ gb286)); have n4_ := Aside0.mk ((by rw [hg]; exact (below_size (by repeat (first | (with_reducible first | exact HB.out | apply below_alloc | apply pw_below_drewN | apply below_drew1) | exact HB.out))) : w.heap.size ≤ gb286)); clear HO282; clear HB; have HO282 := n0_; have HB := n1_; have BK286 := n2_; have GW286 := n3_; have GE286 := n4_; clear n0_ n1_ n2_ n3_ n4_; clear hb hbox hg; have hcz56_0 : w55.cell? ⟨gb286, 0, none⟩ = some (.int .i64 0) := (blk_cell BK286.out 0).trans rfl; have hcz56_1 : w55.cell? ⟨gb286, 1, none⟩ = some (.string (⟨#[]⟩ : ByteArray)) := (blk_cell BK286.out 1).trans rfl; have hcz56_2 : w55.cell? ⟨gb286, 2, none⟩ = some (.string (⟨#[]⟩ : ByteArray)) := (blk_cell BK286.out 2).trans rfl; have hcz56_3 : w55.cell? ⟨gb286, 3, none⟩ = some (.slice none 0 0) := (blk_cell BK286.out 3).trans rfl; have hcz56_4 : w55.cell? ⟨gb286, 4, none⟩ = some (.bool false) := (blk_cell BK286.out 4).trans rfl; have hfz56_0 := blk_frozen BK286.out 0; have hfz56_1 := blk_frozen BK286.out 1; have hfz56_2 := blk_frozen BK286.out 2; have hfz56_3 := blk_frozen BK286.out 3; have hfz56_4 := blk_frozen BK286.out 4; obtain ⟨Ao57, co57, eo57⟩ := Kd.R_slice HO282.out; subst eo57) | ((with_reducible refine gate_callee (f := 18) rfl ?_); refine goesL_ (some 13) rfl rfl Tryd.func18 (by kernel_rfl) rfl #[.string (⟨#[60, 47, 112, 32, 62]⟩ : ByteArray), .int .i64 0] rfl (by (try simp only [List.map_toArray, List.map_cons, List.map_nil]); first | done | rfl | (simp only [List.length_drop, List.length_take]; rfl)) ?_; (with_reducible refine (tag_Read.calls (⟨#[60, 47, 112, 32, 62]⟩ : ByteArray) 0 t287 t288 t289 t290 t293 t294 true _ ?side1 A2.out).mono ?_); (case side1 => first | (with_reducible exact HG.out) | exact Gl.below HG.out (by repeat (first | (with_reducible first | exact HB.out | apply below_alloc | apply pw_below_drewN | apply below_drew1 | refine below_set ?_ GE286.out) | exact HB.out)) | exact HG.out); rintro e w58 ⟨v291, rfl, ho0, hb⟩; refine ⟨_, rfl, ?_⟩; have n0_ := Aside0.mk (Kd.R_elder' (by (with_reducible repeat (first | apply Kd.R_alloc | apply Kd.R_drewN | apply Kd.R_drew)); exact (Kd.R_mono (Kd.R_far (p := ⟨gb286, 4, none⟩) (Kd.R_far (p := ⟨gb286, 3, none⟩) (Kd.R_far (p := ⟨gb286, 2, none⟩) (Kd.R_far (p := ⟨gb286, 1, none⟩) (Kd.R_far (p := ⟨gb286, 0, none⟩) (Kd.R_types HO282.out BK286.out (by decide)) (fun _ hk => hk.2) (.int .i64 t277)) (fun _ hk => hk.2) (.string t278)) (fun _ hk => hk.2) (.string t279)) (fun _ hk => hk.2) (.slice Ao57 t280.length co57)) (fun _ hk => hk.2) (.bool t283)) (fun _ h_ => h_.1))) (Kd.R_base ho0) hb); have n1_ := Aside0.mk (Kd.R_lower (Kd.R_new' ho0 (Kd.R_lt (by (with_reducible repeat (first | apply Kd.R_alloc | apply Kd.R_drewN | apply Kd.R_drew)); exact (Kd.R_mono (Kd.R_far (p := ⟨gb286, 4, none⟩) (Kd.R_far (p := ⟨gb286, 3, none⟩) (Kd.R_far (p := ⟨gb286, 2, none⟩) (Kd.R_far (p := ⟨gb286, 1, none⟩) (Kd.R_far (p := ⟨gb286, 0, none⟩) (Kd.R_types HO282.out BK286.out (by decide)) (fun _ hk => hk.2) (.int .i64 t277)) (fun _ hk => hk.2) (.string t278)) (fun _ hk => hk.2) (.string t279)) (fun _ hk => hk.2) (.slice Ao57 t280.length co57)) (fun _ hk => hk.2) (.bool t283)) (fun _ h_ => h_.1))))) (below_size (by repeat (first | (with_reducible first | exact HB.out | apply below_alloc | apply pw_below_drewN | apply below_drew1 | refine below_set ?_ GE286.out) | exact HB.out)))); have n2_ := Aside0.mk (blk_below (g := gb286) (o := .cells #[.int .i64 t277, .string t278, .string t279, .slice Ao57 t280.length co57, .bool t283] 39 (0, 0)) (by (with_reducible repeat (first | refine blk_drewN ?_ _ | refine blk_drew ?_ | refine blk_alloc ?_ _)); refine blk_put (cs := #[.int .i64 t277, .string t278, .string t279, .slice Ao57 t280.length co57, .bool false]) ?_ 4 _ rfl; (with_reducible repeat (first | refine blk_drewN ?_ _ | refine blk_drew ?_ | refine blk_alloc ?_ _)); refine blk_put (cs := #[.int .i64 t277, .string t278, .string t279, .slice none 0 0, .bool false]) ?_ 3 _ rfl; (with_reducible repeat (first | refine blk_drewN ?_ _ | refine blk_drew ?_ | refine blk_alloc ?_ _)); refine blk_put (cs := #[.int .i64 t277, .string t278, .string (⟨#[]⟩ : ByteArray), .slice none 0 0, .bool false]) ?_ 2 _ rfl; (with_reducible repeat (first | refine blk_drewN ?_ _ | refine blk_drew ?_ | refine blk_alloc ?_ _)); refine blk_put (cs := #[.int .i64 t277, .string (⟨#[]⟩ : ByteArray), .string (⟨#[]⟩ : ByteArray), .slice none 0 0, .bool false]) ?_ 1 _ rfl; (with_reducible repeat (first | refine blk_drewN ?_ _ | refine blk_drew ?_ | refine blk_alloc ?_ _)); refine blk_put (cs := #[.int .i64 0, .string (⟨#[]⟩ : ByteArray), .string (⟨#[]⟩ : ByteArray), .slice none 0 0, .bool false]) ?_ 0 _ rfl; (with_reducible repeat (first | refine blk_drewN ?_ _ | refine blk_drew ?_ | refine blk_alloc ?_ _)); exact BK286.out) hb); have n3_ := Aside0.mk (below_step (by repeat (first | (with_reducible first | exact HB.out | apply below_alloc | apply pw_below_drewN | apply below_drew1 | refine below_set ?_ GE286.out) | exact HB.out)) hb); clear HO282; clear BK286; clear HB; have HO282 := n0_; have HO292 := n1_; have BK286 := n2_; have HB := n3_; clear n0_ n1_ n2_ n3_; (try clear hb); (try clear hb2); (try clear hk); (try clear hi); (try clear ho0)) | ((with_reducible refine gate_dst (N := 4) rfl ?_); (try (refine gate_guard (by rfl) ?_; dsimp only)); refine box_event ?hg (N := 4) ?hd (cs := #[.int .i64 0, .string (⟨#[]⟩ : ByteArray), .string (⟨#[]⟩ : ByteArray), .slice none 0 0, .bool false]) (t := 39) ?hr ?_; (case hd => rfl); (case hg => rfl); (case hr => first | (go_simp; done) | (go_simp; rfl)); intro gb296 hg w59 hbox hb; have n0_ := Aside0.mk (Kd.R_below (by (with_reducible repeat (first | apply Kd.R_alloc | apply Kd.R_drewN | apply Kd.R_drew)); exact HO282.out) hb); have n1_ := Aside0.mk (Kd.R_below (by (with_reducible repeat (first | apply Kd.R_alloc | apply Kd.R_drewN | apply Kd.R_drew)); exact HO292.out) hb); have n2_ := Aside0.mk (blk_below (g := gb286) (o := .cells #[.int .i64 t277, .string t278, .string t279, .slice Ao57 t280.length co57, .bool t283] 39 (0, 0)) (by (with_reducible repeat (first | refine blk_drewN ?_ _ | refine blk_drew ?_ | refine blk_alloc ?_ _)); exact BK286.out) hb); have n3_ := Aside0.mk (below_step (by repeat (first | (with_reducible first | exact HB.out | apply below_alloc | apply pw_below_drewN | apply below_drew1 | refine below_set ?_ GE286.out) | exact HB.out)) hb); have n4_ := Aside0.mk (hbox); have n5_ := Aside0.mk ((by rw [hg]; exact (below_size (by repeat (first | (with_reducible first | exact HB.out | apply below_alloc | apply pw_below_drewN | apply below_drew1 | refine below_set ?_ GE286.out) | exact HB.out))) : w.heap.size ≤ gb296)); have n6_ := Aside0.mk ((by rw [hg]; exact (below_size (by repeat (first | (with_reducible first | exact HB.out | apply below_alloc | apply pw_below_drewN | apply below_drew1 | refine below_set ?_ GE286.out) | exact HB.out))) : w.heap.size ≤ gb296)); have n7_ := Aside0.mk ((by rw [hg]; exact Nat.ne_of_lt (blk_lt (g := gb286) (o := .cells #[.int .i64 t277, .string t278, .string t279, .slice Ao57 t280.length co57, .bool t283] 39 (0, 0)) (by (with_reducible repeat (first | refine blk_drewN ?_ _ | refine blk_drew ?_ | refine blk_alloc ?_ _)); exact BK286.out)) : gb286 ≠ gb296)); have n8_ := Aside0.mk ((by rw [hg]; exact Nat.ne_of_gt (blk_lt (g := gb286) (o := .cells #[.int .i64 t277, .string t278, .string t279, .slice Ao57 t280.length co57, .bool t283] 39 (0, 0)) (by (with_reducible repeat (first | refine blk_drewN ?_ _ | refine blk_drew ?_ | refine blk_alloc ?_ _)); exact BK286.out)) : gb296 ≠ gb286)); clear HO282; clear HO292; clear BK286; clear HB; have HO282 := n0_; have HO292 := n1_; have BK286 := n2_; have HB := n3_; have BK296 := n4_; have GW296 := n5_; have GE296 := n6_; have NB286_296 := n7_; have NB296_286 := n8_; clear n0_ n1_ n2_ n3_ n4_ n5_ n6_ n7_ n8_; clear hb hbox hg; have hnb60 := NB296_286.out; have hnc60 := NB286_296.out; have hcz61_0 : w59.cell? ⟨gb296, 0, none⟩ = some (.int .i64 0) := (blk_cell BK296.out 0).trans rfl; have hcz61_1 : w59.cell? ⟨gb296, 1, none⟩ = some (.string (⟨#[]⟩ : ByteArray)) := (blk_cell BK296.out 1).trans rfl; have hcz61_2 : w59.cell? ⟨gb296, 2, none⟩ = some (.string (⟨#[]⟩ : ByteArray)) := (blk_cell BK296.out 2).trans rfl; have hcz61_3 : w59.cell? ⟨gb296, 3, none⟩ = some (.slice none 0 0) := (blk_cell BK296.out 3).trans rfl; have hcz61_4 : w59.cell? ⟨gb296, 4, none⟩ = some (.bool false) := (blk_cell BK296.out 4).trans rfl; have hfz61_0 := blk_frozen BK296.out 0; have hfz61_1 := blk_frozen BK296.out 1; have hfz61_2 := blk_frozen BK296.out 2; have hfz61_3 := blk_frozen BK296.out 3; have hfz61_4 := blk_frozen BK296.out 4; obtain ⟨Ao62, co62, eo62⟩ := Kd.R_slice HO292.out; subst eo62))
          go_ret
          exact ⟨by first | rfl | (simp [errW_none, errW_some] <;> rfl) | (simp [*, errW_none, errW_some] <;> rfl), by repeat (first | (with_reducible first | exact HB.out | apply below_alloc | apply pw_below_drewN | apply below_drew1 | refine below_set ?_ GE286.out | refine below_set ?_ GE296.out) | exact HB.out)⟩
      · rw [if_neg c5] at H
        have c5b0 : (t284 == 5) = false := beq_eq_false_iff_ne.mpr c5
        have c5b1 : (t284 != 5) = true := bne_iff_ne.mpr c5
        obtain rfl := Option.some.inj H
        go_enter Tryd.func17, Tryd.ntmps17
        go_wp2_with (first | ((with_reducible refine gate_callee (f := 18) rfl ?_); refine goesL_ (some 8) rfl rfl Tryd.func18 (by kernel_rfl) rfl #[.string (⟨#[60, 65, 32, 120, 62]⟩ : ByteArray), .int .i64 0] rfl (by (try simp only [List.map_toArray, List.map_cons, List.map_nil]); first | done | rfl | (simp only [List.length_drop, List.length_take]; rfl)) ?_; (with_reducible refine (tag_Read.calls (⟨#[60, 65, 32, 120, 62]⟩ : ByteArray) 0 t277 t278 t279 t280 t283 t284 true _ ?side1 A1.out).mono ?_); (case side1 => first | (with_reducible exact HG.out) | exact Gl.below HG.out (by repeat (first | (with_reducible first | exact HB.out | apply below_alloc | apply pw_below_drewN | apply below_drew1) | exact HB.out)) | exact HG.out); rintro e w63 ⟨v281, rfl, ho0, hb⟩; refine ⟨_, rfl, ?_⟩; have n0_ := Aside0.mk (Kd.R_lower ho0 (below_size (by repeat (first | (with_reducible first | exact HB.out | apply below_alloc | apply pw_below_drewN | apply below_drew1) | exact HB.out)))); have n1_ := Aside0.mk (below_step (by repeat (first | (with_reducible first | exact HB.out | apply below_alloc | apply pw_below_drewN | apply below_drew1) | exact HB.out)) hb); clear HB; have HO282 := n0_; have HB := n1_; clear n0_ n1_; (try clear hb); (try clear hb2); (try clear hk); (try clear hi); (try clear ho0)) | ((with_reducible refine gate_dst (N := 1) rfl ?_); (try (refine gate_guard (by rfl) ?_; dsimp only)); refine box_event ?hg (N := 1) ?hd (cs := #[.int .i64 0, .string (⟨#[]⟩ : ByteArray), .string (⟨#[]⟩ : ByteArray), .slice none 0 0, .bool false]) (t := 39) ?hr ?_; (case hd => rfl); (case hg => rfl); (case hr => first | (go_simp; done) | (go_simp; rfl)); intro gb286 hg w64 hbox hb; have n0_ := Aside0.mk (Kd.R_below (by (with_reducible repeat (first | apply Kd.R_alloc | apply Kd.R_drewN | apply Kd.R_drew)); exact HO282.out) hb); have n1_ := Aside0.mk (below_step (by repeat (first | (with_reducible first | exact HB.out | apply below_alloc | apply pw_below_drewN | apply below_drew1) | exact HB.out)) hb); have n2_ := Aside0.mk (hbox); have n3_ := Aside0.mk ((by rw [hg]; exact (below_size (by repeat (first | (with_reducible first | exact HB.out | apply below_alloc | apply pw_below_drewN | apply below_drew1) | exact HB.out))) : w.heap.size ≤ gb286)); have n4_ := Aside0.mk ((by rw [hg]; exact (below_size (by repeat (first | (with_reducible first | exact HB.out | apply below_alloc | apply pw_below_drewN | apply below_drew1) | exact HB.out))) : w.heap.size ≤ gb286)); clear HO282; clear HB; have HO282 := n0_; have HB := n1_; have BK286 := n2_; have GW286 := n3_; have GE286 := n4_; clear n0_ n1_ n2_ n3_ n4_; clear hb hbox hg; have hcz65_0 : w64.cell? ⟨gb286, 0, none⟩ = some (.int .i64 0) := (blk_cell BK286.out 0).trans rfl; have hcz65_1 : w64.cell? ⟨gb286, 1, none⟩ = some (.string (⟨#[]⟩ : ByteArray)) := (blk_cell BK286.out 1).trans rfl; have hcz65_2 : w64.cell? ⟨gb286, 2, none⟩ = some (.string (⟨#[]⟩ : ByteArray)) := (blk_cell BK286.out 2).trans rfl; have hcz65_3 : w64.cell? ⟨gb286, 3, none⟩ = some (.slice none 0 0) := (blk_cell BK286.out 3).trans rfl; have hcz65_4 : w64.cell? ⟨gb286, 4, none⟩ = some (.bool false) := (blk_cell BK286.out 4).trans rfl; have hfz65_0 := blk_frozen BK286.out 0; have hfz65_1 := blk_frozen BK286.out 1; have hfz65_2 := blk_frozen BK286.out 2; have hfz65_3 := blk_frozen BK286.out 3; have hfz65_4 := blk_frozen BK286.out 4; obtain ⟨Ao66, co66, eo66⟩ := Kd.R_slice HO282.out; subst eo66) | ((with_reducible refine gate_callee (f := 18) rfl ?_); refine goesL_ (some 13) rfl rfl Tryd.func18 (by kernel_rfl) rfl #[.string (⟨#[60, 47, 112, 32, 62]⟩ : ByteArray), .int .i64 0] rfl (by (try simp only [List.map_toArray, List.map_cons, List.map_nil]); first | done | rfl | (simp only [List.length_drop, List.length_take]; rfl)) ?_; (with_reducible refine (tag_Read.calls (⟨#[60, 47, 112, 32, 62]⟩ : ByteArray) 0 t287 t288 t289 t290 t293 t294 true _ ?side1 A2.out).mono ?_); (case side1 => first | (with_reducible exact HG.out) | exact Gl.below HG.out (by repeat (first | (with_reducible first | exact HB.out | apply below_alloc | apply pw_below_drewN | apply below_drew1 | refine below_set ?_ GE286.out) | exact HB.out)) | exact HG.out); rintro e w67 ⟨v291, rfl, ho0, hb⟩; refine ⟨_, rfl, ?_⟩; have n0_ := Aside0.mk (Kd.R_elder' (by (with_reducible repeat (first | apply Kd.R_alloc | apply Kd.R_drewN | apply Kd.R_drew)); exact (Kd.R_mono (Kd.R_far (p := ⟨gb286, 4, none⟩) (Kd.R_far (p := ⟨gb286, 3, none⟩) (Kd.R_far (p := ⟨gb286, 2, none⟩) (Kd.R_far (p := ⟨gb286, 1, none⟩) (Kd.R_far (p := ⟨gb286, 0, none⟩) (Kd.R_types HO282.out BK286.out (by decide)) (fun _ hk => hk.2) (.int .i64 t277)) (fun _ hk => hk.2) (.string t278)) (fun _ hk => hk.2) (.string t279)) (fun _ hk => hk.2) (.slice Ao66 t280.length co66)) (fun _ hk => hk.2) (.bool t283)) (fun _ h_ => h_.1))) (Kd.R_base ho0) hb); have n1_ := Aside0.mk (Kd.R_lower (Kd.R_new' ho0 (Kd.R_lt (by (with_reducible repeat (first | apply Kd.R_alloc | apply Kd.R_drewN | apply Kd.R_drew)); exact (Kd.R_mono (Kd.R_far (p := ⟨gb286, 4, none⟩) (Kd.R_far (p := ⟨gb286, 3, none⟩) (Kd.R_far (p := ⟨gb286, 2, none⟩) (Kd.R_far (p := ⟨gb286, 1, none⟩) (Kd.R_far (p := ⟨gb286, 0, none⟩) (Kd.R_types HO282.out BK286.out (by decide)) (fun _ hk => hk.2) (.int .i64 t277)) (fun _ hk => hk.2) (.string t278)) (fun _ hk => hk.2) (.string t279)) (fun _ hk => hk.2) (.slice Ao66 t280.length co66)) (fun _ hk => hk.2) (.bool t283)) (fun _ h_ => h_.1))))) (below_size (by repeat (first | (with_reducible first | exact HB.out | apply below_alloc | apply pw_below_drewN | apply below_drew1 | refine below_set ?_ GE286.out) | exact HB.out)))); have n2_ := Aside0.mk (blk_below (g := gb286) (o := .cells #[.int .i64 t277, .string t278, .string t279, .slice Ao66 t280.length co66, .bool t283] 39 (0, 0)) (by (with_reducible repeat (first | refine blk_drewN ?_ _ | refine blk_drew ?_ | refine blk_alloc ?_ _)); refine blk_put (cs := #[.int .i64 t277, .string t278, .string t279, .slice Ao66 t280.length co66, .bool false]) ?_ 4 _ rfl; (with_reducible repeat (first | refine blk_drewN ?_ _ | refine blk_drew ?_ | refine blk_alloc ?_ _)); refine blk_put (cs := #[.int .i64 t277, .string t278, .string t279, .slice none 0 0, .bool false]) ?_ 3 _ rfl; (with_reducible repeat (first | refine blk_drewN ?_ _ | refine blk_drew ?_ | refine blk_alloc ?_ _)); refine blk_put (cs := #[.int .i64 t277, .string t278, .string (⟨#[]⟩ : ByteArray), .slice none 0 0, .bool false]) ?_ 2 _ rfl; (with_reducible repeat (first | refine blk_drewN ?_ _ | refine blk_drew ?_ | refine blk_alloc ?_ _)); refine blk_put (cs := #[.int .i64 t277, .string (⟨#[]⟩ : ByteArray), .string (⟨#[]⟩ : ByteArray), .slice none 0 0, .bool false]) ?_ 1 _ rfl; (with_reducible repeat (first | refine blk_drewN ?_ _ | refine blk_drew ?_ | refine blk_alloc ?_ _)); refine blk_put (cs := #[.int .i64 0, .string (⟨#[]⟩ : ByteArray), .string (⟨#[]⟩ : ByteArray), .slice none 0 0, .bool false]) ?_ 0 _ rfl; (with_reducible repeat (first | refine blk_drewN ?_ _ | refine blk_drew ?_ | refine blk_alloc ?_ _)); exact BK286.out) hb); have n3_ := Aside0.mk (below_step (by repeat (first | (with_reducible first | exact HB.out | apply below_alloc | apply pw_below_drewN | apply below_drew1 | refine below_set ?_ GE286.out) | exact HB.out)) hb); clear HO282; clear BK286; clear HB; have HO282 := n0_; have HO292 := n1_; have BK286 := n2_; have HB := n3_; clear n0_ n1_ n2_ n3_; (try clear hb); (try clear hb2); (try clear hk); (try clear hi); (try clear ho0)) | ((with_reducible refine gate_dst (N := 4) rfl ?_); (try (refine gate_guard (by rfl) ?_; dsimp only)); refine box_event ?hg (N := 4) ?hd (cs := #[.int .i64 0, .string (⟨#[]⟩ : ByteArray), .string (⟨#[]⟩ : ByteArray), .slice none 0 0, .bool false]) (t := 39) ?hr ?_; (case hd => rfl); (case hg => rfl); (case hr => first | (go_simp; done) | (go_simp; rfl)); intro gb296 hg w68 hbox hb; have n0_ := Aside0.mk (Kd.R_below (by (with_reducible repeat (first | apply Kd.R_alloc | apply Kd.R_drewN | apply Kd.R_drew)); exact HO282.out) hb); have n1_ := Aside0.mk (Kd.R_below (by (with_reducible repeat (first | apply Kd.R_alloc | apply Kd.R_drewN | apply Kd.R_drew)); exact HO292.out) hb); have n2_ := Aside0.mk (blk_below (g := gb286) (o := .cells #[.int .i64 t277, .string t278, .string t279, .slice Ao66 t280.length co66, .bool t283] 39 (0, 0)) (by (with_reducible repeat (first | refine blk_drewN ?_ _ | refine blk_drew ?_ | refine blk_alloc ?_ _)); exact BK286.out) hb); have n3_ := Aside0.mk (below_step (by repeat (first | (with_reducible first | exact HB.out | apply below_alloc | apply pw_below_drewN | apply below_drew1 | refine below_set ?_ GE286.out) | exact HB.out)) hb); have n4_ := Aside0.mk (hbox); have n5_ := Aside0.mk ((by rw [hg]; exact (below_size (by repeat (first | (with_reducible first | exact HB.out | apply below_alloc | apply pw_below_drewN | apply below_drew1 | refine below_set ?_ GE286.out) | exact HB.out))) : w.heap.size ≤ gb296)); have n6_ := Aside0.mk ((by rw [hg]; exact (below_size (by repeat (first | (with_reducible first | exact HB.out | apply below_alloc | apply pw_below_drewN | apply below_drew1 | refine below_set ?_ GE286.out) | exact HB.out))) : w.heap.size ≤ gb296)); have n7_ := Aside0.mk ((by rw [hg]; exact Nat.ne_of_lt (blk_lt (g := gb286) (o := .cells #[.int .i64 t277, .string t278, .string t279, .slice Ao66 t280.length co66, .bool t283] 39 (0, 0)) (by (with_reducible repeat (first | refine blk_drewN ?_ _ | refine blk_drew ?_ | refine blk_alloc ?_ _)); exact BK286.out)) : gb286 ≠ gb296)); have n8_ := Aside0.mk ((by rw [hg]; exact Nat.ne_of_gt (blk_lt (g := gb286) (o := .cells #[.int .i64 t277, .string t278, .string t279, .slice Ao66 t280.length co66, .bool t283] 39 (0, 0)) (by (with_reducible repeat (first | refine blk_drewN ?_ _ | refine blk_drew ?_ | refine blk_alloc ?_ _)); exact BK286.out)) : gb296 ≠ gb286)); clear HO282; clear HO292; clear BK286; clear HB; have HO282 := n0_; have HO292 := n1_; have BK286 := n2_; have HB := n3_; have BK296 := n4_; have GW296 := n5_; have GE296 := n6_; have NB286_296 := n7_; have NB296_286 := n8_; clear n0_ n1_ n2_ n3_ n4_ n5_ n6_ n7_ n8_; clear hb hbox hg; have hnb69 := NB296_286.out; have hnc69 := NB286_296.out; have hcz70_0 : w68.cell? ⟨gb296, 0, none⟩ = some (.int .i64 0) := (blk_cell BK296.out 0).trans rfl; have hcz70_1 : w68.cell? ⟨gb296, 1, none⟩ = some (.string (⟨#[]⟩ : ByteArray)) := (blk_cell BK296.out 1).trans rfl; have hcz70_2 : w68.cell? ⟨gb296, 2, none⟩ = some (.string (⟨#[]⟩ : ByteArray)) := (blk_cell BK296.out 2).trans rfl; have hcz70_3 : w68.cell? ⟨gb296, 3, none⟩ = some (.slice none 0 0) := (blk_cell BK296.out 3).trans rfl; have hcz70_4 : w68.cell? ⟨gb296, 4, none⟩ = some (.bool false) := (blk_cell BK296.out 4).trans rfl; have hfz70_0 := blk_frozen BK296.out 0; have hfz70_1 := blk_frozen BK296.out 1; have hfz70_2 := blk_frozen BK296.out 2; have hfz70_3 := blk_frozen BK296.out 3; have hfz70_4 := blk_frozen BK296.out 4; obtain ⟨Ao71, co71, eo71⟩ := Kd.R_slice HO292.out; subst eo71))
        go_ret
        exact ⟨by first | rfl | (simp [errW_none, errW_some] <;> rfl) | (simp [*, errW_none, errW_some] <;> rfl), by repeat (first | (with_reducible first | exact HB.out | apply below_alloc | apply pw_below_drewN | apply below_drew1 | refine below_set ?_ GE286.out | refine below_set ?_ GE296.out) | exact HB.out)⟩
    · replace c4 := Bool.eq_false_iff.mpr c4
      subst c4
      have H1 : (some false) = some r := by rw [if_neg (show ¬ (false = true) by decide)] at H; exact H
      clear H
      have H := H1
      clear H1
      obtain rfl := Option.some.inj H
      go_enter Tryd.func17, Tryd.ntmps17
      go_wp2_with (first | ((with_reducible refine gate_callee (f := 18) rfl ?_); refine goesL_ (some 8) rfl rfl Tryd.func18 (by kernel_rfl) rfl #[.string (⟨#[60, 65, 32, 120, 62]⟩ : ByteArray), .int .i64 0] rfl (by (try simp only [List.map_toArray, List.map_cons, List.map_nil]); first | done | rfl | (simp only [List.length_drop, List.length_take]; rfl)) ?_; (with_reducible refine (tag_Read.calls (⟨#[60, 65, 32, 120, 62]⟩ : ByteArray) 0 t277 t278 t279 t280 t283 t284 true _ ?side1 A1.out).mono ?_); (case side1 => first | (with_reducible exact HG.out) | exact Gl.below HG.out (by repeat (first | (with_reducible first | exact HB.out | apply below_alloc | apply pw_below_drewN | apply below_drew1) | exact HB.out)) | exact HG.out); rintro e w72 ⟨v281, rfl, ho0, hb⟩; refine ⟨_, rfl, ?_⟩; have n0_ := Aside0.mk (Kd.R_lower ho0 (below_size (by repeat (first | (with_reducible first | exact HB.out | apply below_alloc | apply pw_below_drewN | apply below_drew1) | exact HB.out)))); have n1_ := Aside0.mk (below_step (by repeat (first | (with_reducible first | exact HB.out | apply below_alloc | apply pw_below_drewN | apply below_drew1) | exact HB.out)) hb); clear HB; have HO282 := n0_; have HB := n1_; clear n0_ n1_; (try clear hb); (try clear hb2); (try clear hk); (try clear hi); (try clear ho0)) | ((with_reducible refine gate_dst (N := 1) rfl ?_); (try (refine gate_guard (by rfl) ?_; dsimp only)); refine box_event ?hg (N := 1) ?hd (cs := #[.int .i64 0, .string (⟨#[]⟩ : ByteArray), .string (⟨#[]⟩ : ByteArray), .slice none 0 0, .bool false]) (t := 39) ?hr ?_; (case hd => rfl); (case hg => rfl); (case hr => first | (go_simp; done) | (go_simp; rfl)); intro gb286 hg w73 hbox hb; have n0_ := Aside0.mk (Kd.R_below (by (with_reducible repeat (first | apply Kd.R_alloc | apply Kd.R_drewN | apply Kd.R_drew)); exact HO282.out) hb); have n1_ := Aside0.mk (below_step (by repeat (first | (with_reducible first | exact HB.out | apply below_alloc | apply pw_below_drewN | apply below_drew1) | exact HB.out)) hb); have n2_ := Aside0.mk (hbox); have n3_ := Aside0.mk ((by rw [hg]; exact (below_size (by repeat (first | (with_reducible first | exact HB.out | apply below_alloc | apply pw_below_drewN | apply below_drew1) | exact HB.out))) : w.heap.size ≤ gb286)); have n4_ := Aside0.mk ((by rw [hg]; exact (below_size (by repeat (first | (with_reducible first | exact HB.out | apply below_alloc | apply pw_below_drewN | apply below_drew1) | exact HB.out))) : w.heap.size ≤ gb286)); clear HO282; clear HB; have HO282 := n0_; have HB := n1_; have BK286 := n2_; have GW286 := n3_; have GE286 := n4_; clear n0_ n1_ n2_ n3_ n4_; clear hb hbox hg; have hcz74_0 : w73.cell? ⟨gb286, 0, none⟩ = some (.int .i64 0) := (blk_cell BK286.out 0).trans rfl; have hcz74_1 : w73.cell? ⟨gb286, 1, none⟩ = some (.string (⟨#[]⟩ : ByteArray)) := (blk_cell BK286.out 1).trans rfl; have hcz74_2 : w73.cell? ⟨gb286, 2, none⟩ = some (.string (⟨#[]⟩ : ByteArray)) := (blk_cell BK286.out 2).trans rfl; have hcz74_3 : w73.cell? ⟨gb286, 3, none⟩ = some (.slice none 0 0) := (blk_cell BK286.out 3).trans rfl; have hcz74_4 : w73.cell? ⟨gb286, 4, none⟩ = some (.bool false) := (blk_cell BK286.out 4).trans rfl; have hfz74_0 := blk_frozen BK286.out 0; have hfz74_1 := blk_frozen BK286.out 1; have hfz74_2 := blk_frozen BK286.out 2; have hfz74_3 := blk_frozen BK286.out 3; have hfz74_4 := blk_frozen BK286.out 4; obtain ⟨Ao75, co75, eo75⟩ := Kd.R_slice HO282.out; subst eo75) | ((with_reducible refine gate_callee (f := 18) rfl ?_); refine goesL_ (some 13) rfl rfl Tryd.func18 (by kernel_rfl) rfl #[.string (⟨#[60, 47, 112, 32, 62]⟩ : ByteArray), .int .i64 0] rfl (by (try simp only [List.map_toArray, List.map_cons, List.map_nil]); first | done | rfl | (simp only [List.length_drop, List.length_take]; rfl)) ?_; (with_reducible refine (tag_Read.calls (⟨#[60, 47, 112, 32, 62]⟩ : ByteArray) 0 t287 t288 t289 t290 t293 t294 false _ ?side1 A2.out).mono ?_); (case side1 => first | (with_reducible exact HG.out) | exact Gl.below HG.out (by repeat (first | (with_reducible first | exact HB.out | apply below_alloc | apply pw_below_drewN | apply below_drew1 | refine below_set ?_ GE286.out) | exact HB.out)) | exact HG.out); rintro e w76 ⟨v291, rfl, ho0, hb⟩; refine ⟨_, rfl, ?_⟩; have n0_ := Aside0.mk (Kd.R_elder' (by (with_reducible repeat (first | apply Kd.R_alloc | apply Kd.R_drewN | apply Kd.R_drew)); exact (Kd.R_mono (Kd.R_far (p := ⟨gb286, 4, none⟩) (Kd.R_far (p := ⟨gb286, 3, none⟩) (Kd.R_far (p := ⟨gb286, 2, none⟩) (Kd.R_far (p := ⟨gb286, 1, none⟩) (Kd.R_far (p := ⟨gb286, 0, none⟩) (Kd.R_types HO282.out BK286.out (by decide)) (fun _ hk => hk.2) (.int .i64 t277)) (fun _ hk => hk.2) (.string t278)) (fun _ hk => hk.2) (.string t279)) (fun _ hk => hk.2) (.slice Ao75 t280.length co75)) (fun _ hk => hk.2) (.bool t283)) (fun _ h_ => h_.1))) (Kd.R_base ho0) hb); have n1_ := Aside0.mk (Kd.R_lower (Kd.R_new' ho0 (Kd.R_lt (by (with_reducible repeat (first | apply Kd.R_alloc | apply Kd.R_drewN | apply Kd.R_drew)); exact (Kd.R_mono (Kd.R_far (p := ⟨gb286, 4, none⟩) (Kd.R_far (p := ⟨gb286, 3, none⟩) (Kd.R_far (p := ⟨gb286, 2, none⟩) (Kd.R_far (p := ⟨gb286, 1, none⟩) (Kd.R_far (p := ⟨gb286, 0, none⟩) (Kd.R_types HO282.out BK286.out (by decide)) (fun _ hk => hk.2) (.int .i64 t277)) (fun _ hk => hk.2) (.string t278)) (fun _ hk => hk.2) (.string t279)) (fun _ hk => hk.2) (.slice Ao75 t280.length co75)) (fun _ hk => hk.2) (.bool t283)) (fun _ h_ => h_.1))))) (below_size (by repeat (first | (with_reducible first | exact HB.out | apply below_alloc | apply pw_below_drewN | apply below_drew1 | refine below_set ?_ GE286.out) | exact HB.out)))); have n2_ := Aside0.mk (blk_below (g := gb286) (o := .cells #[.int .i64 t277, .string t278, .string t279, .slice Ao75 t280.length co75, .bool t283] 39 (0, 0)) (by (with_reducible repeat (first | refine blk_drewN ?_ _ | refine blk_drew ?_ | refine blk_alloc ?_ _)); refine blk_put (cs := #[.int .i64 t277, .string t278, .string t279, .slice Ao75 t280.length co75, .bool false]) ?_ 4 _ rfl; (with_reducible repeat (first | refine blk_drewN ?_ _ | refine blk_drew ?_ | refine blk_alloc ?_ _)); refine blk_put (cs := #[.int .i64 t277, .string t278, .string t279, .slice none 0 0, .bool false]) ?_ 3 _ rfl; (with_reducible repeat (first | refine blk_drewN ?_ _ | refine blk_drew ?_ | refine blk_alloc ?_ _)); refine blk_put (cs := #[.int .i64 t277, .string t278, .string (⟨#[]⟩ : ByteArray), .slice none 0 0, .bool false]) ?_ 2 _ rfl; (with_reducible repeat (first | refine blk_drewN ?_ _ | refine blk_drew ?_ | refine blk_alloc ?_ _)); refine blk_put (cs := #[.int .i64 t277, .string (⟨#[]⟩ : ByteArray), .string (⟨#[]⟩ : ByteArray), .slice none 0 0, .bool false]) ?_ 1 _ rfl; (with_reducible repeat (first | refine blk_drewN ?_ _ | refine blk_drew ?_ | refine blk_alloc ?_ _)); refine blk_put (cs := #[.int .i64 0, .string (⟨#[]⟩ : ByteArray), .string (⟨#[]⟩ : ByteArray), .slice none 0 0, .bool false]) ?_ 0 _ rfl; (with_reducible repeat (first | refine blk_drewN ?_ _ | refine blk_drew ?_ | refine blk_alloc ?_ _)); exact BK286.out) hb); have n3_ := Aside0.mk (below_step (by repeat (first | (with_reducible first | exact HB.out | apply below_alloc | apply pw_below_drewN | apply below_drew1 | refine below_set ?_ GE286.out) | exact HB.out)) hb); clear HO282; clear BK286; clear HB; have HO282 := n0_; have HO292 := n1_; have BK286 := n2_; have HB := n3_; clear n0_ n1_ n2_ n3_; (try clear hb); (try clear hb2); (try clear hk); (try clear hi); (try clear ho0)) | ((with_reducible refine gate_dst (N := 4) rfl ?_); (try (refine gate_guard (by rfl) ?_; dsimp only)); refine box_event ?hg (N := 4) ?hd (cs := #[.int .i64 0, .string (⟨#[]⟩ : ByteArray), .string (⟨#[]⟩ : ByteArray), .slice none 0 0, .bool false]) (t := 39) ?hr ?_; (case hd => rfl); (case hg => rfl); (case hr => first | (go_simp; done) | (go_simp; rfl)); intro gb296 hg w77 hbox hb; have n0_ := Aside0.mk (Kd.R_below (by (with_reducible repeat (first | apply Kd.R_alloc | apply Kd.R_drewN | apply Kd.R_drew)); exact HO282.out) hb); have n1_ := Aside0.mk (Kd.R_below (by (with_reducible repeat (first | apply Kd.R_alloc | apply Kd.R_drewN | apply Kd.R_drew)); exact HO292.out) hb); have n2_ := Aside0.mk (blk_below (g := gb286) (o := .cells #[.int .i64 t277, .string t278, .string t279, .slice Ao75 t280.length co75, .bool t283] 39 (0, 0)) (by (with_reducible repeat (first | refine blk_drewN ?_ _ | refine blk_drew ?_ | refine blk_alloc ?_ _)); exact BK286.out) hb); have n3_ := Aside0.mk (below_step (by repeat (first | (with_reducible first | exact HB.out | apply below_alloc | apply pw_below_drewN | apply below_drew1 | refine below_set ?_ GE286.out) | exact HB.out)) hb); have n4_ := Aside0.mk (hbox); have n5_ := Aside0.mk ((by rw [hg]; exact (below_size (by repeat (first | (with_reducible first | exact HB.out | apply below_alloc | apply pw_below_drewN | apply below_drew1 | refine below_set ?_ GE286.out) | exact HB.out))) : w.heap.size ≤ gb296)); have n6_ := Aside0.mk ((by rw [hg]; exact (below_size (by repeat (first | (with_reducible first | exact HB.out | apply below_alloc | apply pw_below_drewN | apply below_drew1 | refine below_set ?_ GE286.out) | exact HB.out))) : w.heap.size ≤ gb296)); have n7_ := Aside0.mk ((by rw [hg]; exact Nat.ne_of_lt (blk_lt (g := gb286) (o := .cells #[.int .i64 t277, .string t278, .string t279, .slice Ao75 t280.length co75, .bool t283] 39 (0, 0)) (by (with_reducible repeat (first | refine blk_drewN ?_ _ | refine blk_drew ?_ | refine blk_alloc ?_ _)); exact BK286.out)) : gb286 ≠ gb296)); have n8_ := Aside0.mk ((by rw [hg]; exact Nat.ne_of_gt (blk_lt (g := gb286) (o := .cells #[.int .i64 t277, .string t278, .string t279, .slice Ao75 t280.length co75, .bool t283] 39 (0, 0)) (by (with_reducible repeat (first | refine blk_drewN ?_ _ | refine blk_drew ?_ | refine blk_alloc ?_ _)); exact BK286.out)) : gb296 ≠ gb286)); clear HO282; clear HO292; clear BK286; clear HB; have HO282 := n0_; have HO292 := n1_; have BK286 := n2_; have HB := n3_; have BK296 := n4_; have GW296 := n5_; have GE296 := n6_; have NB286_296 := n7_; have NB296_286 := n8_; clear n0_ n1_ n2_ n3_ n4_ n5_ n6_ n7_ n8_; clear hb hbox hg; have hnb78 := NB296_286.out; have hnc78 := NB286_296.out; have hcz79_0 : w77.cell? ⟨gb296, 0, none⟩ = some (.int .i64 0) := (blk_cell BK296.out 0).trans rfl; have hcz79_1 : w77.cell? ⟨gb296, 1, none⟩ = some (.string (⟨#[]⟩ : ByteArray)) := (blk_cell BK296.out 1).trans rfl; have hcz79_2 : w77.cell? ⟨gb296, 2, none⟩ = some (.string (⟨#[]⟩ : ByteArray)) := (blk_cell BK296.out 2).trans rfl; have hcz79_3 : w77.cell? ⟨gb296, 3, none⟩ = some (.slice none 0 0) := (blk_cell BK296.out 3).trans rfl; have hcz79_4 : w77.cell? ⟨gb296, 4, none⟩ = some (.bool false) := (blk_cell BK296.out 4).trans rfl; have hfz79_0 := blk_frozen BK296.out 0; have hfz79_1 := blk_frozen BK296.out 1; have hfz79_2 := blk_frozen BK296.out 2; have hfz79_3 := blk_frozen BK296.out 3; have hfz79_4 := blk_frozen BK296.out 4; obtain ⟨Ao80, co80, eo80⟩ := Kd.R_slice HO292.out; subst eo80))
      go_ret
      exact ⟨by first | rfl | (simp [errW_none, errW_some] <;> rfl) | (simp [*, errW_none, errW_some] <;> rfl), by repeat (first | (with_reducible first | exact HB.out | apply below_alloc | apply pw_below_drewN | apply below_drew1 | refine below_set ?_ GE286.out | refine below_set ?_ GE296.out) | exact HB.out)⟩
  · replace c3 := Bool.eq_false_iff.mpr c3
    subst c3
    have H1 : (some false) = some r := by rw [if_neg (show ¬ (false = true) by decide)] at H; exact H
    clear H
    have H := H1
    clear H1
    obtain rfl := Option.some.inj H
    go_enter Tryd.func17, Tryd.ntmps17
    go_wp2_with (first | ((with_reducible refine gate_callee (f := 18) rfl ?_); refine goesL_ (some 8) rfl rfl Tryd.func18 (by kernel_rfl) rfl #[.string (⟨#[60, 65, 32, 120, 62]⟩ : ByteArray), .int .i64 0] rfl (by (try simp only [List.map_toArray, List.map_cons, List.map_nil]); first | done | rfl | (simp only [List.length_drop, List.length_take]; rfl)) ?_; (with_reducible refine (tag_Read.calls (⟨#[60, 65, 32, 120, 62]⟩ : ByteArray) 0 t277 t278 t279 t280 t283 t284 false _ ?side1 A1.out).mono ?_); (case side1 => first | (with_reducible exact HG.out) | exact Gl.below HG.out (by repeat (first | (with_reducible first | exact HB.out | apply below_alloc | apply pw_below_drewN | apply below_drew1) | exact HB.out)) | exact HG.out); rintro e w81 ⟨v281, rfl, ho0, hb⟩; refine ⟨_, rfl, ?_⟩; have n0_ := Aside0.mk (Kd.R_lower ho0 (below_size (by repeat (first | (with_reducible first | exact HB.out | apply below_alloc | apply pw_below_drewN | apply below_drew1) | exact HB.out)))); have n1_ := Aside0.mk (below_step (by repeat (first | (with_reducible first | exact HB.out | apply below_alloc | apply pw_below_drewN | apply below_drew1) | exact HB.out)) hb); clear HB; have HO282 := n0_; have HB := n1_; clear n0_ n1_; (try clear hb); (try clear hb2); (try clear hk); (try clear hi); (try clear ho0)) | ((with_reducible refine gate_dst (N := 1) rfl ?_); (try (refine gate_guard (by rfl) ?_; dsimp only)); refine box_event ?hg (N := 1) ?hd (cs := #[.int .i64 0, .string (⟨#[]⟩ : ByteArray), .string (⟨#[]⟩ : ByteArray), .slice none 0 0, .bool false]) (t := 39) ?hr ?_; (case hd => rfl); (case hg => rfl); (case hr => first | (go_simp; done) | (go_simp; rfl)); intro gb286 hg w82 hbox hb; have n0_ := Aside0.mk (Kd.R_below (by (with_reducible repeat (first | apply Kd.R_alloc | apply Kd.R_drewN | apply Kd.R_drew)); exact HO282.out) hb); have n1_ := Aside0.mk (below_step (by repeat (first | (with_reducible first | exact HB.out | apply below_alloc | apply pw_below_drewN | apply below_drew1) | exact HB.out)) hb); have n2_ := Aside0.mk (hbox); have n3_ := Aside0.mk ((by rw [hg]; exact (below_size (by repeat (first | (with_reducible first | exact HB.out | apply below_alloc | apply pw_below_drewN | apply below_drew1) | exact HB.out))) : w.heap.size ≤ gb286)); have n4_ := Aside0.mk ((by rw [hg]; exact (below_size (by repeat (first | (with_reducible first | exact HB.out | apply below_alloc | apply pw_below_drewN | apply below_drew1) | exact HB.out))) : w.heap.size ≤ gb286)); clear HO282; clear HB; have HO282 := n0_; have HB := n1_; have BK286 := n2_; have GW286 := n3_; have GE286 := n4_; clear n0_ n1_ n2_ n3_ n4_; clear hb hbox hg; have hcz83_0 : w82.cell? ⟨gb286, 0, none⟩ = some (.int .i64 0) := (blk_cell BK286.out 0).trans rfl; have hcz83_1 : w82.cell? ⟨gb286, 1, none⟩ = some (.string (⟨#[]⟩ : ByteArray)) := (blk_cell BK286.out 1).trans rfl; have hcz83_2 : w82.cell? ⟨gb286, 2, none⟩ = some (.string (⟨#[]⟩ : ByteArray)) := (blk_cell BK286.out 2).trans rfl; have hcz83_3 : w82.cell? ⟨gb286, 3, none⟩ = some (.slice none 0 0) := (blk_cell BK286.out 3).trans rfl; have hcz83_4 : w82.cell? ⟨gb286, 4, none⟩ = some (.bool false) := (blk_cell BK286.out 4).trans rfl; have hfz83_0 := blk_frozen BK286.out 0; have hfz83_1 := blk_frozen BK286.out 1; have hfz83_2 := blk_frozen BK286.out 2; have hfz83_3 := blk_frozen BK286.out 3; have hfz83_4 := blk_frozen BK286.out 4; obtain ⟨Ao84, co84, eo84⟩ := Kd.R_slice HO282.out; subst eo84) | ((with_reducible refine gate_callee (f := 18) rfl ?_); refine goesL_ (some 13) rfl rfl Tryd.func18 (by kernel_rfl) rfl #[.string (⟨#[60, 47, 112, 32, 62]⟩ : ByteArray), .int .i64 0] rfl (by (try simp only [List.map_toArray, List.map_cons, List.map_nil]); first | done | rfl | (simp only [List.length_drop, List.length_take]; rfl)) ?_; (with_reducible refine (tag_Read.calls (⟨#[60, 47, 112, 32, 62]⟩ : ByteArray) 0 t287 t288 t289 t290 t293 t294 t295 _ ?side1 A2.out).mono ?_); (case side1 => first | (with_reducible exact HG.out) | exact Gl.below HG.out (by repeat (first | (with_reducible first | exact HB.out | apply below_alloc | apply pw_below_drewN | apply below_drew1 | refine below_set ?_ GE286.out) | exact HB.out)) | exact HG.out); rintro e w85 ⟨v291, rfl, ho0, hb⟩; refine ⟨_, rfl, ?_⟩; have n0_ := Aside0.mk (Kd.R_elder' (by (with_reducible repeat (first | apply Kd.R_alloc | apply Kd.R_drewN | apply Kd.R_drew)); exact (Kd.R_mono (Kd.R_far (p := ⟨gb286, 4, none⟩) (Kd.R_far (p := ⟨gb286, 3, none⟩) (Kd.R_far (p := ⟨gb286, 2, none⟩) (Kd.R_far (p := ⟨gb286, 1, none⟩) (Kd.R_far (p := ⟨gb286, 0, none⟩) (Kd.R_types HO282.out BK286.out (by decide)) (fun _ hk => hk.2) (.int .i64 t277)) (fun _ hk => hk.2) (.string t278)) (fun _ hk => hk.2) (.string t279)) (fun _ hk => hk.2) (.slice Ao84 t280.length co84)) (fun _ hk => hk.2) (.bool t283)) (fun _ h_ => h_.1))) (Kd.R_base ho0) hb); have n1_ := Aside0.mk (Kd.R_lower (Kd.R_new' ho0 (Kd.R_lt (by (with_reducible repeat (first | apply Kd.R_alloc | apply Kd.R_drewN | apply Kd.R_drew)); exact (Kd.R_mono (Kd.R_far (p := ⟨gb286, 4, none⟩) (Kd.R_far (p := ⟨gb286, 3, none⟩) (Kd.R_far (p := ⟨gb286, 2, none⟩) (Kd.R_far (p := ⟨gb286, 1, none⟩) (Kd.R_far (p := ⟨gb286, 0, none⟩) (Kd.R_types HO282.out BK286.out (by decide)) (fun _ hk => hk.2) (.int .i64 t277)) (fun _ hk => hk.2) (.string t278)) (fun _ hk => hk.2) (.string t279)) (fun _ hk => hk.2) (.slice Ao84 t280.length co84)) (fun _ hk => hk.2) (.bool t283)) (fun _ h_ => h_.1))))) (below_size (by repeat (first | (with_reducible first | exact HB.out | apply below_alloc | apply pw_below_drewN | apply below_drew1 | refine below_set ?_ GE286.out) | exact HB.out)))); have n2_ := Aside0.mk (blk_below (g := gb286) (o := .cells #[.int .i64 t277, .string t278, .string t279, .slice Ao84 t280.length co84, .bool t283] 39 (0, 0)) (by (with_reducible repeat (first | refine blk_drewN ?_ _ | refine blk_drew ?_ | refine blk_alloc ?_ _)); refine blk_put (cs := #[.int .i64 t277, .string t278, .string t279, .slice Ao84 t280.length co84, .bool false]) ?_ 4 _ rfl; (with_reducible repeat (first | refine blk_drewN ?_ _ | refine blk_drew ?_ | refine blk_alloc ?_ _)); refine blk_put (cs := #[.int .i64 t277, .string t278, .string t279, .slice none 0 0, .bool false]) ?_ 3 _ rfl; (with_reducible repeat (first | refine blk_drewN ?_ _ | refine blk_drew ?_ | refine blk_alloc ?_ _)); refine blk_put (cs := #[.int .i64 t277, .string t278, .string (⟨#[]⟩ : ByteArray), .slice none 0 0, .bool false]) ?_ 2 _ rfl; (with_reducible repeat (first | refine blk_drewN ?_ _ | refine blk_drew ?_ | refine blk_alloc ?_ _)); refine blk_put (cs := #[.int .i64 t277, .string (⟨#[]⟩ : ByteArray), .string (⟨#[]⟩ : ByteArray), .slice none 0 0, .bool false]) ?_ 1 _ rfl; (with_reducible repeat (first | refine blk_drewN ?_ _ | refine blk_drew ?_ | refine blk_alloc ?_ _)); refine blk_put (cs := #[.int .i64 0, .string (⟨#[]⟩ : ByteArray), .string (⟨#[]⟩ : ByteArray), .slice none 0 0, .bool false]) ?_ 0 _ rfl; (with_reducible repeat (first | refine blk_drewN ?_ _ | refine blk_drew ?_ | refine blk_alloc ?_ _)); exact BK286.out) hb); have n3_ := Aside0.mk (below_step (by repeat (first | (with_reducible first | exact HB.out | apply below_alloc | apply pw_below_drewN | apply below_drew1 | refine below_set ?_ GE286.out) | exact HB.out)) hb); clear HO282; clear BK286; clear HB; have HO282 := n0_; have HO292 := n1_; have BK286 := n2_; have HB := n3_; clear n0_ n1_ n2_ n3_; (try clear hb); (try clear hb2); (try clear hk); (try clear hi); (try clear ho0)) | ((with_reducible refine gate_dst (N := 4) rfl ?_); (try (refine gate_guard (by rfl) ?_; dsimp only)); refine box_event ?hg (N := 4) ?hd (cs := #[.int .i64 0, .string (⟨#[]⟩ : ByteArray), .string (⟨#[]⟩ : ByteArray), .slice none 0 0, .bool false]) (t := 39) ?hr ?_; (case hd => rfl); (case hg => rfl); (case hr => first | (go_simp; done) | (go_simp; rfl)); intro gb296 hg w86 hbox hb; have n0_ := Aside0.mk (Kd.R_below (by (with_reducible repeat (first | apply Kd.R_alloc | apply Kd.R_drewN | apply Kd.R_drew)); exact HO282.out) hb); have n1_ := Aside0.mk (Kd.R_below (by (with_reducible repeat (first | apply Kd.R_alloc | apply Kd.R_drewN | apply Kd.R_drew)); exact HO292.out) hb); have n2_ := Aside0.mk (blk_below (g := gb286) (o := .cells #[.int .i64 t277, .string t278, .string t279, .slice Ao84 t280.length co84, .bool t283] 39 (0, 0)) (by (with_reducible repeat (first | refine blk_drewN ?_ _ | refine blk_drew ?_ | refine blk_alloc ?_ _)); exact BK286.out) hb); have n3_ := Aside0.mk (below_step (by repeat (first | (with_reducible first | exact HB.out | apply below_alloc | apply pw_below_drewN | apply below_drew1 | refine below_set ?_ GE286.out) | exact HB.out)) hb); have n4_ := Aside0.mk (hbox); have n5_ := Aside0.mk ((by rw [hg]; exact (below_size (by repeat (first | (with_reducible first | exact HB.out | apply below_alloc | apply pw_below_drewN | apply below_drew1 | refine below_set ?_ GE286.out) | exact HB.out))) : w.heap.size ≤ gb296)); have n6_ := Aside0.mk ((by rw [hg]; exact (below_size (by repeat (first | (with_reducible first | exact HB.out | apply below_alloc | apply pw_below_drewN | apply below_drew1 | refine below_set ?_ GE286.out) | exact HB.out))) : w.heap.size ≤ gb296)); have n7_ := Aside0.mk ((by rw [hg]; exact Nat.ne_of_lt (blk_lt (g := gb286) (o := .cells #[.int .i64 t277, .string t278, .string t279, .slice Ao84 t280.length co84, .bool t283] 39 (0, 0)) (by (with_reducible repeat (first | refine blk_drewN ?_ _ | refine blk_drew ?_ | refine blk_alloc ?_ _)); exact BK286.out)) : gb286 ≠ gb296)); have n8_ := Aside0.mk ((by rw [hg]; exact Nat.ne_of_gt (blk_lt (g := gb286) (o := .cells #[.int .i64 t277, .string t278, .string t279, .slice Ao84 t280.length co84, .bool t283] 39 (0, 0)) (by (with_reducible repeat (first | refine blk_drewN ?_ _ | refine blk_drew ?_ | refine blk_alloc ?_ _)); exact BK286.out)) : gb296 ≠ gb286)); clear HO282; clear HO292; clear BK286; clear HB; have HO282 := n0_; have HO292 := n1_; have BK286 := n2_; have HB := n3_; have BK296 := n4_; have GW296 := n5_; have GE296 := n6_; have NB286_296 := n7_; have NB296_286 := n8_; clear n0_ n1_ n2_ n3_ n4_ n5_ n6_ n7_ n8_; clear hb hbox hg; have hnb87 := NB296_286.out; have hnc87 := NB286_296.out; have hcz88_0 : w86.cell? ⟨gb296, 0, none⟩ = some (.int .i64 0) := (blk_cell BK296.out 0).trans rfl; have hcz88_1 : w86.cell? ⟨gb296, 1, none⟩ = some (.string (⟨#[]⟩ : ByteArray)) := (blk_cell BK296.out 1).trans rfl; have hcz88_2 : w86.cell? ⟨gb296, 2, none⟩ = some (.string (⟨#[]⟩ : ByteArray)) := (blk_cell BK296.out 2).trans rfl; have hcz88_3 : w86.cell? ⟨gb296, 3, none⟩ = some (.slice none 0 0) := (blk_cell BK296.out 3).trans rfl; have hcz88_4 : w86.cell? ⟨gb296, 4, none⟩ = some (.bool false) := (blk_cell BK296.out 4).trans rfl; have hfz88_0 := blk_frozen BK296.out 0; have hfz88_1 := blk_frozen BK296.out 1; have hfz88_2 := blk_frozen BK296.out 2; have hfz88_3 := blk_frozen BK296.out 3; have hfz88_4 := blk_frozen BK296.out 4; obtain ⟨Ao89, co89, eo89⟩ := Kd.R_slice HO292.out; subst eo89))
    go_ret
    exact ⟨by first | rfl | (simp [errW_none, errW_some] <;> rfl) | (simp [*, errW_none, errW_some] <;> rfl), by repeat (first | (with_reducible first | exact HB.out | apply below_alloc | apply pw_below_drewN | apply below_drew1 | refine below_set ?_ GE286.out | refine below_set ?_ GE296.out) | exact HB.out)⟩

end Go.Proofs.YtfhjfidkcdcjnaaDoor.Q

/- The pure statements' common ground for tags. -/
namespace Go.Proofs.YtfhjfidkcdcjnaaDoor.Pure
open Go Go.RowKit Go.Proofs.YtfhjfidkcdcjnaaDoor.Q Go.Proofs.YtfhjfidkcdcjnaaDoorW.PrintWords Go.Proofs.YtfhjfidkcdcjnaaDoorW.PrintLast Go.Proofs.YtfhjfidkcdcjnaaDoorW.PrintMore
set_option linter.unusedVariables false
set_option linter.unusedSimpArgs false

theorem same9_ev (a : Int) (b c : ByteArray) (l : List S27) (d : Bool) (hl : l.length < 2147483648) : Ev (fun k => flailref09_Same.f k a b c l d a b c l d) true := by
  refine Ev.congr (fun k => ?_) (Ev.bind (f := fun _ t => some t) (same_ev l hl) (Ev.now true))
  unfold flailref09_Same.f
  simp
theorem tag_out {s : ByteArray} (hs : s.size < 268435456) {i : Nat} (hi : i ≤ s.size) (h : Fl.nameL ((Fl.toL s).drop i) = 0) : tag_Read.f s (i : Int) = some (0, ⟨#[]⟩, ⟨#[]⟩, [], false, (i : Int), false) := by
  unfold tag_Read.f
  rw [if_pos hs, if_pos (Or.inr (Or.inr (by rw [Int.toNat_natCast]; exact h)))]
theorem tag_in {s : ByteArray} (hs : s.size < 268435456) {i : Nat} (hi : i ≤ s.size) (h : Fl.nameL ((Fl.toL s).drop i) ≠ 0) : tag_Read.f s (i : Int) = match Fl.tagL ((Fl.toL s).drop i) with
    | none => some (0, ⟨#[]⟩, ⟨#[]⟩, [], false, (s.size : Int), false)
    | some t => some ((t.kind : Int), Fl.ofL t.name, ⟨#[]⟩, t.attrs.map toS, t.self, ((s.size - t.rest.length : Nat) : Int), true) := by
  unfold tag_Read.f
  rw [if_pos hs, if_neg (by rw [Int.toNat_natCast]; omega), Int.toNat_natCast]
  all_goals rfl
theorem tag_begins {s : ByteArray} (hs : s.size < 268435456) {i : Nat} (hi : i ≤ s.size) : tag_Begins.f s (i : Int) = some (decide (Fl.nameL ((Fl.toL s).drop i) ≠ 0)) := by
  unfold tag_Begins.f tag_place_name.f
  rw [if_pos (by omega), if_neg (by omega), Int.toNat_natCast]
  simp only [Option.bind_some, Option.some.injEq, decide_eq_decide]
  omega
set_option maxRecDepth 1000000 in
theorem awake_tag1 : Fl.tagL [60, 65, 32, 120, 62] = some ⟨1, [97], [([120], [])], false, []⟩ := by
  have h : Fl.readL [32, 120, 62] = some ([([120], [])], false, []) := by decide +kernel
  have e := Fl.tagL_one (x := 65) (by decide) [32, 120, 62]
  rw [show ([32, 120, 62] : Fl.Bs).dropWhile Fl.nm = [32, 120, 62] from by decide, h] at e
  rw [e, show Fl.lower (65 :: ([32, 120, 62] : Fl.Bs).takeWhile Fl.nm) = [97] from by decide, show Fl.clean [97] = [97] from by decide]; rfl
set_option maxRecDepth 1000000 in
theorem awake_tag2 : Fl.tagL [60, 47, 112, 32, 62] = some ⟨2, [112], [], false, []⟩ := by
  have h : Fl.readL [32, 62] = some ([], false, []) := by decide +kernel
  have e := Fl.tagL_two (x := 112) (by decide) [32, 62]
  rw [show ([32, 62] : Fl.Bs).dropWhile Fl.nm = [32, 62] from by decide, h] at e
  rw [e, show Fl.lower (112 :: ([32, 62] : Fl.Bs).takeWhile Fl.nm) = [112] from by decide, show Fl.clean [112] = [112] from by decide]; rfl
theorem awake9_ev : Ev (fun k => flaillaw09_awake.f k) true := by
  have h1 : tag_Read.f (⟨#[60, 65, 32, 120, 62]⟩ : ByteArray) 0 = some (1, ⟨#[97]⟩, ⟨#[]⟩, [⟨⟨#[120]⟩, ⟨#[]⟩⟩], false, 5, true) := by
    have := tag_in (s := ⟨#[60, 65, 32, 120, 62]⟩) (i := 0) (by decide) (by decide) (by decide)
    rw [show (Fl.toL ⟨#[60, 65, 32, 120, 62]⟩).drop 0 = [60, 65, 32, 120, 62] from rfl, awake_tag1] at this
    exact this
  have h2 : tag_Read.f (⟨#[60, 47, 112, 32, 62]⟩ : ByteArray) 0 = some (2, ⟨#[112]⟩, ⟨#[]⟩, [], false, 5, true) := by
    have := tag_in (s := ⟨#[60, 47, 112, 32, 62]⟩) (i := 0) (by decide) (by decide) (by decide)
    rw [show (Fl.toL ⟨#[60, 47, 112, 32, 62]⟩).drop 0 = [60, 47, 112, 32, 62] from rfl, awake_tag2] at this
    exact this
  have h3 : tag_Begins.f (⟨#[60, 97]⟩ : ByteArray) 0 = some true := by
    have := tag_begins (s := ⟨#[60, 97]⟩) (i := 0) (by decide) (by decide)
    exact this
  refine Ev.congr (fun k => ?_) (Ev.bind (f := fun k t => if t = true then ((flailref09_Same.f k 2 ⟨#[112]⟩ ⟨#[]⟩ [] false 2 ⟨#[112]⟩ ⟨#[]⟩ [] false).bind fun t => some t) else some false) (same9_ev 1 ⟨#[97]⟩ ⟨#[]⟩ [⟨⟨#[120]⟩, ⟨#[]⟩⟩] false (by decide)) ?_)
  · unfold flaillaw09_awake.f
    rw [h1, h2, h3]
    simp only [Option.bind_some, if_true]
  · simp only [if_true]
    exact Ev.bind (f := fun _ t => some t) (same9_ev 2 ⟨#[112]⟩ ⟨#[]⟩ [] false (by decide)) (Ev.now true)
theorem toL_append (a b : ByteArray) : Fl.toL (a ++ b) = Fl.toL a ++ Fl.toL b := by
  unfold Fl.toL
  rw [ByteArray.data_append, Array.toList_append]
theorem toL_extract0 (s : ByteArray) (n : Nat) : Fl.toL (s.extract 0 n) = (Fl.toL s).take n := by
  rw [Fl.extract_toL]; simp
end Go.Proofs.YtfhjfidkcdcjnaaDoor.Pure
