/- Texts of this claim, one behind the other: Pxxsleuthref12stands, Pxxsleuthref12TrailMay, Trails, Pxxsleuthlaw0Num, Pxxsleuthlaw13some, Pxxsleuthlaw0SameInts, Pxxsleuthlaw13awake, Sums, Sums2, PureCut, Cutw, Cutx. -/
import Derived.Test.YtkbaelhcijibiaaDoorTs1
import Derived.Test.YtkbaelhcijibiaaDoorTs4
import Derived.Test.YtkbaelhcijibiaaDoorTs2
import Derived.Lib.Hide
import Derived.Deep.RegionWith
import Derived.Deep.CutBlock
import Derived.Deep.DeepCutAuto
import Derived.Deep.QuietTactic
import Derived.BigQuiet

/- Of each function of this text: a plain Lean function and a proof that the machine's call comes to its answers; printed by this session's program. -/
namespace Go.Proofs.YtkbaelhcijibiaaDoor.Px
open Go.RowKit Go.Proofs.YtkbaelhcijibiaaDoorW.PrintWords Go.Proofs.YtkbaelhcijibiaaDoorW.PrintLast Go.Proofs.YtkbaelhcijibiaaDoorW.PrintMore
attribute [local go_sem] max2_int min2_int max_two min_two max_three min_three max_four min_four   -- for this text's walks alone
set_option linter.unusedVariables false
set_option linter.unusedSimpArgs false

/-! ### sleuthref12_stands: function 57 -/
def sleuthref12_stands.f (k : Nat) (a0_0 : Int) (a0_1 : Int) (l0_2 : List ByteArray) (a0_3 : ByteArray) (a1 : Int) : Option (Bool) := if a1 < 512 then ((sleuthref12_texts.f k a0_0 a0_1 l0_2 a0_3).bind fun t434 => (if t434 = true then (if a1 = 0 then (if a0_1 = (-1) then (some true) else (if a1 > 0 then ((sleuthref12_upTo.f a0_1 0 (wrap64 (a1 - 1))).bind fun t435 => (some t435)) else (some false))) else (if a1 > 0 then ((sleuthref12_upTo.f a0_1 0 (wrap64 (a1 - 1))).bind fun t436 => (some t436)) else (some false))) else (some false))) else (some false)
theorem sleuthref12_stands.mono : ∀ a0 a1 a2 a3 a4 k, LeO (sleuthref12_stands.f k a0 a1 a2 a3 a4) (sleuthref12_stands.f (k + 1) a0 a1 a2 a3 a4) := by
  intro a0 a1 a2 a3 a4 k
  unfold sleuthref12_stands.f
  repeat' first
      | (with_reducible exact sleuthref12_texts.mono _ _ _ _ _)
      | (with_reducible exact LeO.refl _)
      | (with_reducible exact LeO.none _)
      | (with_reducible refine LeO.ite ?_ ?_)
      | (with_reducible refine LeO.bind ?_ (fun _ => ?_))
      | exact sleuthref12_texts.mono _ _ _ _ _
      | exact LeO.none _
      | refine LeO.ite ?_ ?_
      | refine LeO.bind ?_ (fun _ => ?_)
set_option maxHeartbeats 8000000 in
set_option maxRecDepth 100000 in
theorem sleuthref12_stands.calls (k : Nat) (a0_0 : Int) (a0_1 : Int) (A0_2 : Option Addr) (c0_2 : Nat) (l0_2 : List ByteArray) (a0_3 : ByteArray) (a1 : Int) (r : Bool) (w : World) (hr0_2 : Kd.C Kd.string w A0_2 l0_2.length l0_2) (hc0_2 : l0_2.length ≤ c0_2) (h : sleuthref12_stands.f k a0_0 a0_1 l0_2 a0_3 a1 = some r) :
    Calls Tryd.prog 57 #[.agg #[.int .i64 a0_0, .int .i64 a0_1, .slice A0_2 l0_2.length c0_2, .string a0_3], .int .i64 a1] w fun e w' => e = .returned (.bool r) ∧ Below w.heap.size w w' := by
  have hu24 := Tryd.underlying24
  have HR0_2 := Aside0.mk hr0_2
  have HC0_2 := Aside0.mk hc0_2
  clear hr0_2 hc0_2
  have HB := Aside0.mk (Below.refl w.heap.size w)
  have H : (if a1 < 512 then ((sleuthref12_texts.f k a0_0 a0_1 l0_2 a0_3).bind fun t434 => (if t434 = true then (if a1 = 0 then (if a0_1 = (-1) then (some true) else (if a1 > 0 then ((sleuthref12_upTo.f a0_1 0 (wrap64 (a1 - 1))).bind fun t435 => (some t435)) else (some false))) else (if a1 > 0 then ((sleuthref12_upTo.f a0_1 0 (wrap64 (a1 - 1))).bind fun t436 => (some t436)) else (some false))) else (some false))) else (some false)) = some r := h
  clear h
  by_cases c3 : a1 < 512
  · rw [if_pos c3] at H
    have c3b0 : decide (a1 < 512) = true := decide_eq_true c3
    clear c3
    replace H := Option.bind_eq_some_iff.mp H
    obtain ⟨t434, A40, H⟩ := H
    replace H : (if t434 = true then (if a1 = 0 then (if a0_1 = (-1) then (some true) else (if a1 > 0 then ((sleuthref12_upTo.f a0_1 0 (wrap64 (a1 - 1))).bind fun t435 => (some t435)) else (some false))) else (if a1 > 0 then ((sleuthref12_upTo.f a0_1 0 (wrap64 (a1 - 1))).bind fun t436 => (some t436)) else (some false))) else (some false)) = some r := H
    have A4 := Aside0.mk A40
    clear A40
    by_cases c5 : t434 = true
    · subst c5
      have H1 : (if a1 = 0 then (if a0_1 = (-1) then (some true) else (if a1 > 0 then ((sleuthref12_upTo.f a0_1 0 (wrap64 (a1 - 1))).bind fun t435 => (some t435)) else (some false))) else (if a1 > 0 then ((sleuthref12_upTo.f a0_1 0 (wrap64 (a1 - 1))).bind fun t436 => (some t436)) else (some false))) = some r := by rw [if_pos rfl] at H; exact H
      clear H
      have H := H1
      clear H1
      by_cases c6 : a1 = 0
      · rw [if_pos c6] at H
        have c6b0 : (a1 == 0) = true := beq_iff_eq.mpr c6
        have c6b1 : (a1 != 0) = false := bne_eq_false_iff_eq.mpr c6
        clear c6
        by_cases c7 : a0_1 = (-1)
        · rw [if_pos c7] at H
          have c7b0 : (a0_1 == (-1)) = true := beq_iff_eq.mpr c7
          have c7b1 : (a0_1 != (-1)) = false := bne_eq_false_iff_eq.mpr c7
          clear c7
          obtain rfl := Option.some.inj H
          go_enter Tryd.func57, Tryd.ntmps57
          go_wp2_with (first | ((with_reducible refine gate_dst (N := 2) rfl ?_); refine box_event ?hg (N := 2) ?hd (cs := #[.int .i64 a0_0, .int .i64 a0_1, .slice A0_2 l0_2.length c0_2, .string a0_3]) (t := 24) ?hr ?_; (case hd => rfl); (case hg => rfl); (case hr => first | (go_simp; done) | (go_simp; rfl)); intro gb433 hg w8 hbox hb; have n0_ := Aside0.mk (below_step (by repeat (first | (with_reducible first | exact HB.out | apply below_alloc | apply pw_below_drewN | apply below_drew1) | exact HB.out)) hb); have n1_ := Aside0.mk (hbox); have n2_ := Aside0.mk ((by rw [hg]; exact (below_size (by repeat (first | (with_reducible first | exact HB.out | apply below_alloc | apply pw_below_drewN | apply below_drew1) | exact HB.out))) : w.heap.size ≤ gb433)); have n3_ := Aside0.mk ((by rw [hg]; exact (below_size (by repeat (first | (with_reducible first | exact HB.out | apply below_alloc | apply pw_below_drewN | apply below_drew1) | exact HB.out))) : w.heap.size ≤ gb433)); clear HB; have HB := n0_; have BK433 := n1_; have GW433 := n2_; have GE433 := n3_; clear n0_ n1_ n2_ n3_; clear hb hbox hg; have hcz9_0 : w8.cell? ⟨gb433, 0, none⟩ = some (.int .i64 a0_0) := (blk_cell BK433.out 0).trans rfl; have hcz9_1 : w8.cell? ⟨gb433, 1, none⟩ = some (.int .i64 a0_1) := (blk_cell BK433.out 1).trans rfl; have hcz9_2 : w8.cell? ⟨gb433, 2, none⟩ = some (.slice A0_2 l0_2.length c0_2) := (blk_cell BK433.out 2).trans rfl; have hcz9_3 : w8.cell? ⟨gb433, 3, none⟩ = some (.string a0_3) := (blk_cell BK433.out 3).trans rfl; have hfz9_0 := blk_frozen BK433.out 0; have hfz9_1 := blk_frozen BK433.out 1; have hfz9_2 := blk_frozen BK433.out 2; have hfz9_3 := blk_frozen BK433.out 3) | (go_at_call 42; (with_reducible refine (sleuthref12_texts.calls k a0_0 a0_1 _ _ l0_2 a0_3 true _ ?side1 ?side2 A4.out).mono ?_); (case side1 => repeat (first | exact (Kd.C_below HR0_2.out HB.out) | (with_reducible refine Kd.C_alloc ?_ _) | (with_reducible refine Kd.C_drewN ?_ _) | (with_reducible refine Kd.C_drew ?_))); (case side2 => exact HC0_2.out); rintro e w10 ⟨rfl, hb⟩; have n0_ := Aside0.mk (blk_below (g := gb433) (o := .cells #[.int .i64 a0_0, .int .i64 a0_1, .slice A0_2 l0_2.length c0_2, .string a0_3] 24 (0, 0)) (by (with_reducible repeat (first | refine blk_drewN ?_ _ | refine blk_drew ?_ | refine blk_alloc ?_ _)); exact BK433.out) hb); have n1_ := Aside0.mk (below_step (by repeat (first | (with_reducible first | exact HB.out | apply below_alloc | apply pw_below_drewN | apply below_drew1 | refine below_set ?_ GE433.out) | exact HB.out)) hb); clear BK433; clear HB; have BK433 := n0_; have HB := n1_; clear n0_ n1_; (try clear hb); (try clear hb2); (try clear hk); (try clear hi); have hcz11_0 : w10.cell? ⟨gb433, 0, none⟩ = some (.int .i64 a0_0) := (blk_cell BK433.out 0).trans rfl; have hcz11_1 : w10.cell? ⟨gb433, 1, none⟩ = some (.int .i64 a0_1) := (blk_cell BK433.out 1).trans rfl; have hcz11_2 : w10.cell? ⟨gb433, 2, none⟩ = some (.slice A0_2 l0_2.length c0_2) := (blk_cell BK433.out 2).trans rfl; have hcz11_3 : w10.cell? ⟨gb433, 3, none⟩ = some (.string a0_3) := (blk_cell BK433.out 3).trans rfl; have hfz11_0 := blk_frozen BK433.out 0; have hfz11_1 := blk_frozen BK433.out 1; have hfz11_2 := blk_frozen BK433.out 2; have hfz11_3 := blk_frozen BK433.out 3))
          go_ret
          exact ⟨by first | rfl | (simp [errW_none, errW_some] <;> rfl) | (simp [*, errW_none, errW_some] <;> rfl), by repeat (first | (with_reducible first | exact HB.out | apply below_alloc | apply pw_below_drewN | apply below_drew1 | refine below_set ?_ GE433.out) | exact HB.out)⟩
        · rw [if_neg c7] at H
          have c7b0 : (a0_1 == (-1)) = false := beq_eq_false_iff_ne.mpr c7
          have c7b1 : (a0_1 != (-1)) = true := bne_iff_ne.mpr c7
          by_cases c12 : a1 > 0
          · rw [if_pos c12] at H
            have c12b0 : decide (0 < a1) = true := decide_eq_true c12
            clear c12
            replace H := Option.bind_eq_some_iff.mp H
            obtain ⟨t435, A130, H⟩ := H
            replace H : (some t435) = some r := H
            have A13 := Aside0.mk A130
            clear A130
            obtain rfl := Option.some.inj H
            go_enter Tryd.func57, Tryd.ntmps57
            go_wp2_with (first | ((with_reducible refine gate_dst (N := 2) rfl ?_); refine box_event ?hg (N := 2) ?hd (cs := #[.int .i64 a0_0, .int .i64 a0_1, .slice A0_2 l0_2.length c0_2, .string a0_3]) (t := 24) ?hr ?_; (case hd => rfl); (case hg => rfl); (case hr => first | (go_simp; done) | (go_simp; rfl)); intro gb433 hg w14 hbox hb; have n0_ := Aside0.mk (below_step (by repeat (first | (with_reducible first | exact HB.out | apply below_alloc | apply pw_below_drewN | apply below_drew1) | exact HB.out)) hb); have n1_ := Aside0.mk (hbox); have n2_ := Aside0.mk ((by rw [hg]; exact (below_size (by repeat (first | (with_reducible first | exact HB.out | apply below_alloc | apply pw_below_drewN | apply below_drew1) | exact HB.out))) : w.heap.size ≤ gb433)); have n3_ := Aside0.mk ((by rw [hg]; exact (below_size (by repeat (first | (with_reducible first | exact HB.out | apply below_alloc | apply pw_below_drewN | apply below_drew1) | exact HB.out))) : w.heap.size ≤ gb433)); clear HB; have HB := n0_; have BK433 := n1_; have GW433 := n2_; have GE433 := n3_; clear n0_ n1_ n2_ n3_; clear hb hbox hg; have hcz15_0 : w14.cell? ⟨gb433, 0, none⟩ = some (.int .i64 a0_0) := (blk_cell BK433.out 0).trans rfl; have hcz15_1 : w14.cell? ⟨gb433, 1, none⟩ = some (.int .i64 a0_1) := (blk_cell BK433.out 1).trans rfl; have hcz15_2 : w14.cell? ⟨gb433, 2, none⟩ = some (.slice A0_2 l0_2.length c0_2) := (blk_cell BK433.out 2).trans rfl; have hcz15_3 : w14.cell? ⟨gb433, 3, none⟩ = some (.string a0_3) := (blk_cell BK433.out 3).trans rfl; have hfz15_0 := blk_frozen BK433.out 0; have hfz15_1 := blk_frozen BK433.out 1; have hfz15_2 := blk_frozen BK433.out 2; have hfz15_3 := blk_frozen BK433.out 3) | (go_at_call 42; (with_reducible refine (sleuthref12_texts.calls k a0_0 a0_1 _ _ l0_2 a0_3 true _ ?side1 ?side2 A4.out).mono ?_); (case side1 => repeat (first | exact (Kd.C_below HR0_2.out HB.out) | (with_reducible refine Kd.C_alloc ?_ _) | (with_reducible refine Kd.C_drewN ?_ _) | (with_reducible refine Kd.C_drew ?_))); (case side2 => exact HC0_2.out); rintro e w16 ⟨rfl, hb⟩; have n0_ := Aside0.mk (blk_below (g := gb433) (o := .cells #[.int .i64 a0_0, .int .i64 a0_1, .slice A0_2 l0_2.length c0_2, .string a0_3] 24 (0, 0)) (by (with_reducible repeat (first | refine blk_drewN ?_ _ | refine blk_drew ?_ | refine blk_alloc ?_ _)); exact BK433.out) hb); have n1_ := Aside0.mk (below_step (by repeat (first | (with_reducible first | exact HB.out | apply below_alloc | apply pw_below_drewN | apply below_drew1 | refine below_set ?_ GE433.out) | exact HB.out)) hb); clear BK433; clear HB; have BK433 := n0_; have HB := n1_; clear n0_ n1_; (try clear hb); (try clear hb2); (try clear hk); (try clear hi); have hcz17_0 : w16.cell? ⟨gb433, 0, none⟩ = some (.int .i64 a0_0) := (blk_cell BK433.out 0).trans rfl; have hcz17_1 : w16.cell? ⟨gb433, 1, none⟩ = some (.int .i64 a0_1) := (blk_cell BK433.out 1).trans rfl; have hcz17_2 : w16.cell? ⟨gb433, 2, none⟩ = some (.slice A0_2 l0_2.length c0_2) := (blk_cell BK433.out 2).trans rfl; have hcz17_3 : w16.cell? ⟨gb433, 3, none⟩ = some (.string a0_3) := (blk_cell BK433.out 3).trans rfl; have hfz17_0 := blk_frozen BK433.out 0; have hfz17_1 := blk_frozen BK433.out 1; have hfz17_2 := blk_frozen BK433.out 2; have hfz17_3 := blk_frozen BK433.out 3) | (go_at_call 43; (with_reducible refine (sleuthref12_upTo.calls a0_1 0 (wrap64 (a1 - 1)) t435 _ A13.out).mono ?_); rintro e w' ⟨rfl, ⟨nd, rfl⟩⟩))
            go_ret
            exact ⟨by first | rfl | (simp [errW_none, errW_some] <;> rfl) | (simp [*, errW_none, errW_some] <;> rfl), by repeat (first | (with_reducible first | exact HB.out | apply below_alloc | apply pw_below_drewN | apply below_drew1 | refine below_set ?_ GE433.out) | exact HB.out)⟩
          · rw [if_neg c12] at H
            have c12b0 : decide (0 < a1) = false := decide_eq_false c12
            clear c12
            obtain rfl := Option.some.inj H
            go_enter Tryd.func57, Tryd.ntmps57
            go_wp2_with (first | ((with_reducible refine gate_dst (N := 2) rfl ?_); refine box_event ?hg (N := 2) ?hd (cs := #[.int .i64 a0_0, .int .i64 a0_1, .slice A0_2 l0_2.length c0_2, .string a0_3]) (t := 24) ?hr ?_; (case hd => rfl); (case hg => rfl); (case hr => first | (go_simp; done) | (go_simp; rfl)); intro gb433 hg w18 hbox hb; have n0_ := Aside0.mk (below_step (by repeat (first | (with_reducible first | exact HB.out | apply below_alloc | apply pw_below_drewN | apply below_drew1) | exact HB.out)) hb); have n1_ := Aside0.mk (hbox); have n2_ := Aside0.mk ((by rw [hg]; exact (below_size (by repeat (first | (with_reducible first | exact HB.out | apply below_alloc | apply pw_below_drewN | apply below_drew1) | exact HB.out))) : w.heap.size ≤ gb433)); have n3_ := Aside0.mk ((by rw [hg]; exact (below_size (by repeat (first | (with_reducible first | exact HB.out | apply below_alloc | apply pw_below_drewN | apply below_drew1) | exact HB.out))) : w.heap.size ≤ gb433)); clear HB; have HB := n0_; have BK433 := n1_; have GW433 := n2_; have GE433 := n3_; clear n0_ n1_ n2_ n3_; clear hb hbox hg; have hcz19_0 : w18.cell? ⟨gb433, 0, none⟩ = some (.int .i64 a0_0) := (blk_cell BK433.out 0).trans rfl; have hcz19_1 : w18.cell? ⟨gb433, 1, none⟩ = some (.int .i64 a0_1) := (blk_cell BK433.out 1).trans rfl; have hcz19_2 : w18.cell? ⟨gb433, 2, none⟩ = some (.slice A0_2 l0_2.length c0_2) := (blk_cell BK433.out 2).trans rfl; have hcz19_3 : w18.cell? ⟨gb433, 3, none⟩ = some (.string a0_3) := (blk_cell BK433.out 3).trans rfl; have hfz19_0 := blk_frozen BK433.out 0; have hfz19_1 := blk_frozen BK433.out 1; have hfz19_2 := blk_frozen BK433.out 2; have hfz19_3 := blk_frozen BK433.out 3) | (go_at_call 42; (with_reducible refine (sleuthref12_texts.calls k a0_0 a0_1 _ _ l0_2 a0_3 true _ ?side1 ?side2 A4.out).mono ?_); (case side1 => repeat (first | exact (Kd.C_below HR0_2.out HB.out) | (with_reducible refine Kd.C_alloc ?_ _) | (with_reducible refine Kd.C_drewN ?_ _) | (with_reducible refine Kd.C_drew ?_))); (case side2 => exact HC0_2.out); rintro e w20 ⟨rfl, hb⟩; have n0_ := Aside0.mk (blk_below (g := gb433) (o := .cells #[.int .i64 a0_0, .int .i64 a0_1, .slice A0_2 l0_2.length c0_2, .string a0_3] 24 (0, 0)) (by (with_reducible repeat (first | refine blk_drewN ?_ _ | refine blk_drew ?_ | refine blk_alloc ?_ _)); exact BK433.out) hb); have n1_ := Aside0.mk (below_step (by repeat (first | (with_reducible first | exact HB.out | apply below_alloc | apply pw_below_drewN | apply below_drew1 | refine below_set ?_ GE433.out) | exact HB.out)) hb); clear BK433; clear HB; have BK433 := n0_; have HB := n1_; clear n0_ n1_; (try clear hb); (try clear hb2); (try clear hk); (try clear hi); have hcz21_0 : w20.cell? ⟨gb433, 0, none⟩ = some (.int .i64 a0_0) := (blk_cell BK433.out 0).trans rfl; have hcz21_1 : w20.cell? ⟨gb433, 1, none⟩ = some (.int .i64 a0_1) := (blk_cell BK433.out 1).trans rfl; have hcz21_2 : w20.cell? ⟨gb433, 2, none⟩ = some (.slice A0_2 l0_2.length c0_2) := (blk_cell BK433.out 2).trans rfl; have hcz21_3 : w20.cell? ⟨gb433, 3, none⟩ = some (.string a0_3) := (blk_cell BK433.out 3).trans rfl; have hfz21_0 := blk_frozen BK433.out 0; have hfz21_1 := blk_frozen BK433.out 1; have hfz21_2 := blk_frozen BK433.out 2; have hfz21_3 := blk_frozen BK433.out 3))
            go_ret
            exact ⟨by first | rfl | (simp [errW_none, errW_some] <;> rfl) | (simp [*, errW_none, errW_some] <;> rfl), by repeat (first | (with_reducible first | exact HB.out | apply below_alloc | apply pw_below_drewN | apply below_drew1 | refine below_set ?_ GE433.out) | exact HB.out)⟩
      · rw [if_neg c6] at H
        have c6b0 : (a1 == 0) = false := beq_eq_false_iff_ne.mpr c6
        have c6b1 : (a1 != 0) = true := bne_iff_ne.mpr c6
        by_cases c22 : a1 > 0
        · rw [if_pos c22] at H
          have c22b0 : decide (0 < a1) = true := decide_eq_true c22
          clear c22
          replace H := Option.bind_eq_some_iff.mp H
          obtain ⟨t436, A230, H⟩ := H
          replace H : (some t436) = some r := H
          have A23 := Aside0.mk A230
          clear A230
          obtain rfl := Option.some.inj H
          go_enter Tryd.func57, Tryd.ntmps57
          go_wp2_with (first | ((with_reducible refine gate_dst (N := 2) rfl ?_); refine box_event ?hg (N := 2) ?hd (cs := #[.int .i64 a0_0, .int .i64 a0_1, .slice A0_2 l0_2.length c0_2, .string a0_3]) (t := 24) ?hr ?_; (case hd => rfl); (case hg => rfl); (case hr => first | (go_simp; done) | (go_simp; rfl)); intro gb433 hg w24 hbox hb; have n0_ := Aside0.mk (below_step (by repeat (first | (with_reducible first | exact HB.out | apply below_alloc | apply pw_below_drewN | apply below_drew1) | exact HB.out)) hb); have n1_ := Aside0.mk (hbox); have n2_ := Aside0.mk ((by rw [hg]; exact (below_size (by repeat (first | (with_reducible first | exact HB.out | apply below_alloc | apply pw_below_drewN | apply below_drew1) | exact HB.out))) : w.heap.size ≤ gb433)); have n3_ := Aside0.mk ((by rw [hg]; exact (below_size (by repeat (first | (with_reducible first | exact HB.out | apply below_alloc | apply pw_below_drewN | apply below_drew1) | exact HB.out))) : w.heap.size ≤ gb433)); clear HB; have HB := n0_; have BK433 := n1_; have GW433 := n2_; have GE433 := n3_; clear n0_ n1_ n2_ n3_; clear hb hbox hg; have hcz25_0 : w24.cell? ⟨gb433, 0, none⟩ = some (.int .i64 a0_0) := (blk_cell BK433.out 0).trans rfl; have hcz25_1 : w24.cell? ⟨gb433, 1, none⟩ = some (.int .i64 a0_1) := (blk_cell BK433.out 1).trans rfl; have hcz25_2 : w24.cell? ⟨gb433, 2, none⟩ = some (.slice A0_2 l0_2.length c0_2) := (blk_cell BK433.out 2).trans rfl; have hcz25_3 : w24.cell? ⟨gb433, 3, none⟩ = some (.string a0_3) := (blk_cell BK433.out 3).trans rfl; have hfz25_0 := blk_frozen BK433.out 0; have hfz25_1 := blk_frozen BK433.out 1; have hfz25_2 := blk_frozen BK433.out 2; have hfz25_3 := blk_frozen BK433.out 3) | (go_at_call 42; (with_reducible refine (sleuthref12_texts.calls k a0_0 a0_1 _ _ l0_2 a0_3 true _ ?side1 ?side2 A4.out).mono ?_); (case side1 => repeat (first | exact (Kd.C_below HR0_2.out HB.out) | (with_reducible refine Kd.C_alloc ?_ _) | (with_reducible refine Kd.C_drewN ?_ _) | (with_reducible refine Kd.C_drew ?_))); (case side2 => exact HC0_2.out); rintro e w26 ⟨rfl, hb⟩; have n0_ := Aside0.mk (blk_below (g := gb433) (o := .cells #[.int .i64 a0_0, .int .i64 a0_1, .slice A0_2 l0_2.length c0_2, .string a0_3] 24 (0, 0)) (by (with_reducible repeat (first | refine blk_drewN ?_ _ | refine blk_drew ?_ | refine blk_alloc ?_ _)); exact BK433.out) hb); have n1_ := Aside0.mk (below_step (by repeat (first | (with_reducible first | exact HB.out | apply below_alloc | apply pw_below_drewN | apply below_drew1 | refine below_set ?_ GE433.out) | exact HB.out)) hb); clear BK433; clear HB; have BK433 := n0_; have HB := n1_; clear n0_ n1_; (try clear hb); (try clear hb2); (try clear hk); (try clear hi); have hcz27_0 : w26.cell? ⟨gb433, 0, none⟩ = some (.int .i64 a0_0) := (blk_cell BK433.out 0).trans rfl; have hcz27_1 : w26.cell? ⟨gb433, 1, none⟩ = some (.int .i64 a0_1) := (blk_cell BK433.out 1).trans rfl; have hcz27_2 : w26.cell? ⟨gb433, 2, none⟩ = some (.slice A0_2 l0_2.length c0_2) := (blk_cell BK433.out 2).trans rfl; have hcz27_3 : w26.cell? ⟨gb433, 3, none⟩ = some (.string a0_3) := (blk_cell BK433.out 3).trans rfl; have hfz27_0 := blk_frozen BK433.out 0; have hfz27_1 := blk_frozen BK433.out 1; have hfz27_2 := blk_frozen BK433.out 2; have hfz27_3 := blk_frozen BK433.out 3) | (go_at_call 43; (with_reducible refine (sleuthref12_upTo.calls a0_1 0 (wrap64 (a1 - 1)) t436 _ A23.out).mono ?_); rintro e w' ⟨rfl, ⟨nd, rfl⟩⟩))
          go_ret
          exact ⟨by first | rfl | (simp [errW_none, errW_some] <;> rfl) | (simp [*, errW_none, errW_some] <;> rfl), by repeat (first | (with_reducible first | exact HB.out | apply below_alloc | apply pw_below_drewN | apply below_drew1 | refine below_set ?_ GE433.out) | exact HB.out)⟩
        · rw [if_neg c22] at H
          have c22b0 : decide (0 < a1) = false := decide_eq_false c22
          clear c22
          obtain rfl := Option.some.inj H
          go_enter Tryd.func57, Tryd.ntmps57
          go_wp2_with (first | ((with_reducible refine gate_dst (N := 2) rfl ?_); refine box_event ?hg (N := 2) ?hd (cs := #[.int .i64 a0_0, .int .i64 a0_1, .slice A0_2 l0_2.length c0_2, .string a0_3]) (t := 24) ?hr ?_; (case hd => rfl); (case hg => rfl); (case hr => first | (go_simp; done) | (go_simp; rfl)); intro gb433 hg w28 hbox hb; have n0_ := Aside0.mk (below_step (by repeat (first | (with_reducible first | exact HB.out | apply below_alloc | apply pw_below_drewN | apply below_drew1) | exact HB.out)) hb); have n1_ := Aside0.mk (hbox); have n2_ := Aside0.mk ((by rw [hg]; exact (below_size (by repeat (first | (with_reducible first | exact HB.out | apply below_alloc | apply pw_below_drewN | apply below_drew1) | exact HB.out))) : w.heap.size ≤ gb433)); have n3_ := Aside0.mk ((by rw [hg]; exact (below_size (by repeat (first | (with_reducible first | exact HB.out | apply below_alloc | apply pw_below_drewN | apply below_drew1) | exact HB.out))) : w.heap.size ≤ gb433)); clear HB; have HB := n0_; have BK433 := n1_; have GW433 := n2_; have GE433 := n3_; clear n0_ n1_ n2_ n3_; clear hb hbox hg; have hcz29_0 : w28.cell? ⟨gb433, 0, none⟩ = some (.int .i64 a0_0) := (blk_cell BK433.out 0).trans rfl; have hcz29_1 : w28.cell? ⟨gb433, 1, none⟩ = some (.int .i64 a0_1) := (blk_cell BK433.out 1).trans rfl; have hcz29_2 : w28.cell? ⟨gb433, 2, none⟩ = some (.slice A0_2 l0_2.length c0_2) := (blk_cell BK433.out 2).trans rfl; have hcz29_3 : w28.cell? ⟨gb433, 3, none⟩ = some (.string a0_3) := (blk_cell BK433.out 3).trans rfl; have hfz29_0 := blk_frozen BK433.out 0; have hfz29_1 := blk_frozen BK433.out 1; have hfz29_2 := blk_frozen BK433.out 2; have hfz29_3 := blk_frozen BK433.out 3) | (go_at_call 42; (with_reducible refine (sleuthref12_texts.calls k a0_0 a0_1 _ _ l0_2 a0_3 true _ ?side1 ?side2 A4.out).mono ?_); (case side1 => repeat (first | exact (Kd.C_below HR0_2.out HB.out) | (with_reducible refine Kd.C_alloc ?_ _) | (with_reducible refine Kd.C_drewN ?_ _) | (with_reducible refine Kd.C_drew ?_))); (case side2 => exact HC0_2.out); rintro e w30 ⟨rfl, hb⟩; have n0_ := Aside0.mk (blk_below (g := gb433) (o := .cells #[.int .i64 a0_0, .int .i64 a0_1, .slice A0_2 l0_2.length c0_2, .string a0_3] 24 (0, 0)) (by (with_reducible repeat (first | refine blk_drewN ?_ _ | refine blk_drew ?_ | refine blk_alloc ?_ _)); exact BK433.out) hb); have n1_ := Aside0.mk (below_step (by repeat (first | (with_reducible first | exact HB.out | apply below_alloc | apply pw_below_drewN | apply below_drew1 | refine below_set ?_ GE433.out) | exact HB.out)) hb); clear BK433; clear HB; have BK433 := n0_; have HB := n1_; clear n0_ n1_; (try clear hb); (try clear hb2); (try clear hk); (try clear hi)))
          go_ret
          exact ⟨by first | rfl | (simp [errW_none, errW_some] <;> rfl) | (simp [*, errW_none, errW_some] <;> rfl), by repeat (first | (with_reducible first | exact HB.out | apply below_alloc | apply pw_below_drewN | apply below_drew1 | refine below_set ?_ GE433.out) | exact HB.out)⟩
    · replace c5 := Bool.eq_false_iff.mpr c5
      subst c5
      have H1 : (some false) = some r := by rw [if_neg (show ¬ (false = true) by decide)] at H; exact H
      clear H
      have H := H1
      clear H1
      obtain rfl := Option.some.inj H
      go_enter Tryd.func57, Tryd.ntmps57
      go_wp2_with (first | ((with_reducible refine gate_dst (N := 2) rfl ?_); refine box_event ?hg (N := 2) ?hd (cs := #[.int .i64 a0_0, .int .i64 a0_1, .slice A0_2 l0_2.length c0_2, .string a0_3]) (t := 24) ?hr ?_; (case hd => rfl); (case hg => rfl); (case hr => first | (go_simp; done) | (go_simp; rfl)); intro gb433 hg w31 hbox hb; have n0_ := Aside0.mk (below_step (by repeat (first | (with_reducible first | exact HB.out | apply below_alloc | apply pw_below_drewN | apply below_drew1) | exact HB.out)) hb); have n1_ := Aside0.mk (hbox); have n2_ := Aside0.mk ((by rw [hg]; exact (below_size (by repeat (first | (with_reducible first | exact HB.out | apply below_alloc | apply pw_below_drewN | apply below_drew1) | exact HB.out))) : w.heap.size ≤ gb433)); have n3_ := Aside0.mk ((by rw [hg]; exact (below_size (by repeat (first | (with_reducible first | exact HB.out | apply below_alloc | apply pw_below_drewN | apply below_drew1) | exact HB.out))) : w.heap.size ≤ gb433)); clear HB; have HB := n0_; have BK433 := n1_; have GW433 := n2_; have GE433 := n3_; clear n0_ n1_ n2_ n3_; clear hb hbox hg; have hcz32_0 : w31.cell? ⟨gb433, 0, none⟩ = some (.int .i64 a0_0) := (blk_cell BK433.out 0).trans rfl; have hcz32_1 : w31.cell? ⟨gb433, 1, none⟩ = some (.int .i64 a0_1) := (blk_cell BK433.out 1).trans rfl; have hcz32_2 : w31.cell? ⟨gb433, 2, none⟩ = some (.slice A0_2 l0_2.length c0_2) := (blk_cell BK433.out 2).trans rfl; have hcz32_3 : w31.cell? ⟨gb433, 3, none⟩ = some (.string a0_3) := (blk_cell BK433.out 3).trans rfl; have hfz32_0 := blk_frozen BK433.out 0; have hfz32_1 := blk_frozen BK433.out 1; have hfz32_2 := blk_frozen BK433.out 2; have hfz32_3 := blk_frozen BK433.out 3) | (go_at_call 42; (with_reducible refine (sleuthref12_texts.calls k a0_0 a0_1 _ _ l0_2 a0_3 false _ ?side1 ?side2 A4.out).mono ?_); (case side1 => repeat (first | exact (Kd.C_below HR0_2.out HB.out) | (with_reducible refine Kd.C_alloc ?_ _) | (with_reducible refine Kd.C_drewN ?_ _) | (with_reducible refine Kd.C_drew ?_))); (case side2 => exact HC0_2.out); rintro e w33 ⟨rfl, hb⟩; have n0_ := Aside0.mk (blk_below (g := gb433) (o := .cells #[.int .i64 a0_0, .int .i64 a0_1, .slice A0_2 l0_2.length c0_2, .string a0_3] 24 (0, 0)) (by (with_reducible repeat (first | refine blk_drewN ?_ _ | refine blk_drew ?_ | refine blk_alloc ?_ _)); exact BK433.out) hb); have n1_ := Aside0.mk (below_step (by repeat (first | (with_reducible first | exact HB.out | apply below_alloc | apply pw_below_drewN | apply below_drew1 | refine below_set ?_ GE433.out) | exact HB.out)) hb); clear BK433; clear HB; have BK433 := n0_; have HB := n1_; clear n0_ n1_; (try clear hb); (try clear hb2); (try clear hk); (try clear hi)))
      go_ret
      exact ⟨by first | rfl | (simp [errW_none, errW_some] <;> rfl) | (simp [*, errW_none, errW_some] <;> rfl), by repeat (first | (with_reducible first | exact HB.out | apply below_alloc | apply pw_below_drewN | apply below_drew1 | refine below_set ?_ GE433.out) | exact HB.out)⟩
  · rw [if_neg c3] at H
    have c3b0 : decide (a1 < 512) = false := decide_eq_false c3
    clear c3
    obtain rfl := Option.some.inj H
    go_enter Tryd.func57, Tryd.ntmps57
    go_wp2_with (first | ((with_reducible refine gate_dst (N := 2) rfl ?_); refine box_event ?hg (N := 2) ?hd (cs := #[.int .i64 a0_0, .int .i64 a0_1, .slice A0_2 l0_2.length c0_2, .string a0_3]) (t := 24) ?hr ?_; (case hd => rfl); (case hg => rfl); (case hr => first | (go_simp; done) | (go_simp; rfl)); intro gb433 hg w34 hbox hb; have n0_ := Aside0.mk (below_step (by repeat (first | (with_reducible first | exact HB.out | apply below_alloc | apply pw_below_drewN | apply below_drew1) | exact HB.out)) hb); have n1_ := Aside0.mk (hbox); have n2_ := Aside0.mk ((by rw [hg]; exact (below_size (by repeat (first | (with_reducible first | exact HB.out | apply below_alloc | apply pw_below_drewN | apply below_drew1) | exact HB.out))) : w.heap.size ≤ gb433)); have n3_ := Aside0.mk ((by rw [hg]; exact (below_size (by repeat (first | (with_reducible first | exact HB.out | apply below_alloc | apply pw_below_drewN | apply below_drew1) | exact HB.out))) : w.heap.size ≤ gb433)); clear HB; have HB := n0_; have BK433 := n1_; have GW433 := n2_; have GE433 := n3_; clear n0_ n1_ n2_ n3_; clear hb hbox hg))
    go_ret
    exact ⟨by first | rfl | (simp [errW_none, errW_some] <;> rfl) | (simp [*, errW_none, errW_some] <;> rfl), by repeat (first | (with_reducible first | exact HB.out | apply below_alloc | apply pw_below_drewN | apply below_drew1 | refine below_set ?_ GE433.out) | exact HB.out)⟩

end Go.Proofs.YtkbaelhcijibiaaDoor.Px

/- Of each function of this text: a plain Lean function and a proof that the machine's call comes to its answers; printed by this session's program. -/
namespace Go.Proofs.YtkbaelhcijibiaaDoor.Px
open Go.RowKit Go.Proofs.YtkbaelhcijibiaaDoorW.PrintWords Go.Proofs.YtkbaelhcijibiaaDoorW.PrintLast Go.Proofs.YtkbaelhcijibiaaDoorW.PrintMore
attribute [local go_sem] max2_int min2_int max_two min_two max_three min_three max_four min_four   -- for this text's walks alone
set_option linter.unusedVariables false
set_option linter.unusedSimpArgs false

/-! ### sleuthref12_TrailMay: function 27 -/
def sleuthref12_TrailMay.l0 : Nat → List (S24) → Int → Option (Bool)
  | 0, _, _ => none
  | k + 1, x0, x3 => if x3 < (x0.length : Int) then (if 0 ≤ x3 then ((sleuthref12_stands.f k ((rd_T24 x0 x3).f0) ((rd_T24 x0 x3).f1) ((rd_T24 x0 x3).f2) ((rd_T24 x0 x3).f3) x3).bind fun t438 => (if t438 = true then (sleuthref12_TrailMay.l0 k x0 (wrap64 (x3 + 1))) else (some false))) else (none)) else (some (decide ((x0.length : Int) > 0)))
def sleuthref12_TrailMay.f (k : Nat) (l0 : List (S24)) : Option (Bool) := sleuthref12_TrailMay.l0 k l0 0
theorem sleuthref12_TrailMay.mono_l : ∀ k, (∀ y0 y1, LeO (sleuthref12_TrailMay.l0 k y0 y1) (sleuthref12_TrailMay.l0 (k + 1) y0 y1))
  | 0 => fun _ _ r h => by simp [sleuthref12_TrailMay.l0] at h
  | k + 1 => by
    have ih0 := sleuthref12_TrailMay.mono_l k
    · intro y0 y1
      unfold sleuthref12_TrailMay.l0
      repeat' first
      | (with_reducible exact ih0 _ _)
      | (with_reducible exact sleuthref12_stands.mono _ _ _ _ _ _)
      | (with_reducible exact LeO.refl _)
      | (with_reducible exact LeO.none _)
      | (with_reducible refine LeO.ite ?_ ?_)
      | (with_reducible refine LeO.bind ?_ (fun _ => ?_))
      | exact ih0 _ _
      | exact sleuthref12_stands.mono _ _ _ _ _ _
      | exact LeO.none _
      | refine LeO.ite ?_ ?_
      | refine LeO.bind ?_ (fun _ => ?_)
theorem sleuthref12_TrailMay.mono : ∀ a0 k, LeO (sleuthref12_TrailMay.f k a0) (sleuthref12_TrailMay.f (k + 1) a0) := by
  intro a0 k
  have ih0 := sleuthref12_TrailMay.mono_l k
  unfold sleuthref12_TrailMay.f
  repeat' first
      | (with_reducible exact ih0 _ _)
      | (with_reducible exact sleuthref12_stands.mono _ _ _ _ _ _)
      | (with_reducible exact LeO.refl _)
      | (with_reducible exact LeO.none _)
      | (with_reducible refine LeO.ite ?_ ?_)
      | (with_reducible refine LeO.bind ?_ (fun _ => ?_))
      | exact ih0 _ _
      | exact sleuthref12_stands.mono _ _ _ _ _ _
      | exact LeO.none _
      | refine LeO.ite ?_ ?_
      | refine LeO.bind ?_ (fun _ => ?_)
set_option maxHeartbeats 8000000 in
set_option maxRecDepth 100000 in
theorem sleuthref12_TrailMay.calls (k : Nat) (A0 : Option Addr) (c0 : Nat) (l0 : List (S24)) (r : Bool) (w : World) (hr0 : Kd.C k24 w A0 l0.length l0) (hc0 : l0.length ≤ c0) (h : sleuthref12_TrailMay.f k l0 = some r) :
    Calls Tryd.prog 27 #[.slice A0 l0.length c0] w fun e w' => e = .returned (.bool r) ∧ Below w.heap.size w w' := by
  have hu24 := Tryd.underlying24
  have HR0 := Aside0.mk hr0
  have HC0 := Aside0.mk hc0
  clear hr0 hc0
  have HB := Aside0.mk (Below.refl w.heap.size w)
  have H : (sleuthref12_TrailMay.l0 k l0 0) = some r := h
  clear h
  have H' := Aside0.mk H
  clear H
  go_enter Tryd.func27, Tryd.ntmps27
  go_wp2
  (try simp only [Act.put, List.setIfInBounds_toArray, List.set_cons_zero, List.set_cons_succ])
  go_loopg [3] k (fun kq v3 w' => ∃ (x3_1 : Int), v3 = .int .i64 x3_1 ∧ Aside0 (sleuthref12_TrailMay.l0 kq l0 x3_1 = some r) ∧ Aside0 (kq ≤ k) ∧ Aside0 (Below w.heap.size w w'))
  case atStart => exact ⟨(0), (by first | rfl | (simp; done) | (simp [*]; done)), H', ⟨Nat.le_refl _⟩, ⟨by repeat (first | (with_reducible first | exact HB.out | apply below_alloc | apply pw_below_drewN | apply below_drew1) | exact HB.out)⟩⟩
  case round =>
    clear H'
    obtain ⟨x3_1, rfl, HA, HK1, HB⟩ := hrel
    cases gk with
    | zero => exact absurd HA.out (by simp [sleuthref12_TrailMay.l0])
    | succ k1 =>
      have H := HA.out
      clear HA
      simp only [sleuthref12_TrailMay.l0] at H
      by_cases c2 : x3_1 < (l0.length : Int)
      · rw [if_pos c2] at H
        have c2b0 : decide (x3_1 < (l0.length : Int)) = true := decide_eq_true c2
        clear c2
        by_cases c3 : 0 ≤ x3_1
        · rw [if_pos c3] at H
          have c3b0 : decide (0 ≤ x3_1) = true := decide_eq_true c3
          clear c3
          replace H := Option.bind_eq_some_iff.mp H
          obtain ⟨t438, A40, H⟩ := H
          replace H : (if t438 = true then (sleuthref12_TrailMay.l0 k1 l0 (wrap64 (x3_1 + 1))) else (some false)) = some r := H
          have A4 := Aside0.mk A40
          clear A40
          by_cases c5 : t438 = true
          · subst c5
            have H1 : (sleuthref12_TrailMay.l0 k1 l0 (wrap64 (x3_1 + 1))) = some r := by rw [if_pos rfl] at H; exact H
            clear H
            have H := H1
            clear H1
            have H' := Aside0.mk H
            clear H
            have p437 : 0 ≤ (x3_1 : Int) := of_decide_eq_true (by first | (with_reducible assumption) | assumption)
            have q437 : x3_1 < (l0.length : Int) := of_decide_eq_true (by first | (with_reducible assumption) | assumption)
            obtain ⟨ad437, A437_2, c437_2, e437, hx437_0, hx437_1, hx437_2, hx437_3, hl437_2, hi437_2⟩ := at_T24 HR0.out x3_1 p437 q437
            cases e437
            replace hx437_0 := (HB.out.cell (World.block_lt_of_cell? w _ hx437_0)).trans hx437_0
            replace hx437_1 := (HB.out.cell (World.block_lt_of_cell? w _ hx437_1)).trans hx437_1
            replace hx437_2 := (HB.out.cell (World.block_lt_of_cell? w _ hx437_2)).trans hx437_2
            replace hx437_3 := (HB.out.cell (World.block_lt_of_cell? w _ hx437_3)).trans hx437_3
            have HR437_2 := Aside0.mk hi437_2
            have HC437_2 := Aside0.mk hl437_2
            clear hi437_2 hl437_2
            replace p437 := eq_true p437
            replace q437 := eq_true q437
            go_wp2_with (first | ((with_reducible refine gate_callee (f := 57) rfl ?_); refine goesL_ (some 15) rfl rfl Tryd.func57 (by kernel_rfl) rfl #[.agg #[.int .i64 ((rd_T24 l0 x3_1).f0), .int .i64 ((rd_T24 l0 x3_1).f1), .slice A437_2 ((rd_T24 l0 x3_1).f2).length c437_2, .string ((rd_T24 l0 x3_1).f3)], .int .i64 x3_1] rfl (by (try simp only [List.map_toArray, List.map_cons, List.map_nil]); first | done | rfl | (simp only [List.length_drop, List.length_take]; rfl)) ?_; (with_reducible refine (sleuthref12_stands.calls k1 ((rd_T24 l0 x3_1).f0) ((rd_T24 l0 x3_1).f1) _ _ ((rd_T24 l0 x3_1).f2) ((rd_T24 l0 x3_1).f3) x3_1 true _ ?side1 ?side2 A4.out).mono ?_); (case side1 => repeat (first | exact (Kd.C_below HR437_2.out HB.out) | (with_reducible refine Kd.C_alloc ?_ _) | (with_reducible refine Kd.C_drewN ?_ _) | (with_reducible refine Kd.C_drew ?_))); (case side2 => exact HC437_2.out); rintro e w6 ⟨rfl, hb⟩; refine ⟨_, rfl, ?_⟩; have n0_ := Aside0.mk (below_step (by repeat (first | (with_reducible first | exact HB.out | apply below_alloc | apply pw_below_drewN | apply below_drew1) | exact HB.out)) hb); clear HB; have HB := n0_; clear n0_; (try clear hb); (try clear hb2); (try clear hk); (try clear hi)))
            go_roundg k1
            case measure => have := HK1.out; omega
            case rel => exact ⟨(wrap64 (x3_1 + 1)), (by first | rfl | (simp; done) | (simp [*]; done)), H', ⟨by have := HK1.out; omega⟩, ⟨by repeat (first | (with_reducible first | exact HB.out | apply below_alloc | apply pw_below_drewN | apply below_drew1) | exact HB.out)⟩⟩
          · replace c5 := Bool.eq_false_iff.mpr c5
            subst c5
            have H1 : (some false) = some r := by rw [if_neg (show ¬ (false = true) by decide)] at H; exact H
            clear H
            have H := H1
            clear H1
            obtain rfl := Option.some.inj H
            have p437 : 0 ≤ (x3_1 : Int) := of_decide_eq_true (by first | (with_reducible assumption) | assumption)
            have q437 : x3_1 < (l0.length : Int) := of_decide_eq_true (by first | (with_reducible assumption) | assumption)
            obtain ⟨ad437, A437_2, c437_2, e437, hx437_0, hx437_1, hx437_2, hx437_3, hl437_2, hi437_2⟩ := at_T24 HR0.out x3_1 p437 q437
            cases e437
            replace hx437_0 := (HB.out.cell (World.block_lt_of_cell? w _ hx437_0)).trans hx437_0
            replace hx437_1 := (HB.out.cell (World.block_lt_of_cell? w _ hx437_1)).trans hx437_1
            replace hx437_2 := (HB.out.cell (World.block_lt_of_cell? w _ hx437_2)).trans hx437_2
            replace hx437_3 := (HB.out.cell (World.block_lt_of_cell? w _ hx437_3)).trans hx437_3
            have HR437_2 := Aside0.mk hi437_2
            have HC437_2 := Aside0.mk hl437_2
            clear hi437_2 hl437_2
            replace p437 := eq_true p437
            replace q437 := eq_true q437
            go_wp2_with (first | ((with_reducible refine gate_callee (f := 57) rfl ?_); refine goesL_ (some 15) rfl rfl Tryd.func57 (by kernel_rfl) rfl #[.agg #[.int .i64 ((rd_T24 l0 x3_1).f0), .int .i64 ((rd_T24 l0 x3_1).f1), .slice A437_2 ((rd_T24 l0 x3_1).f2).length c437_2, .string ((rd_T24 l0 x3_1).f3)], .int .i64 x3_1] rfl (by (try simp only [List.map_toArray, List.map_cons, List.map_nil]); first | done | rfl | (simp only [List.length_drop, List.length_take]; rfl)) ?_; (with_reducible refine (sleuthref12_stands.calls k1 ((rd_T24 l0 x3_1).f0) ((rd_T24 l0 x3_1).f1) _ _ ((rd_T24 l0 x3_1).f2) ((rd_T24 l0 x3_1).f3) x3_1 false _ ?side1 ?side2 A4.out).mono ?_); (case side1 => repeat (first | exact (Kd.C_below HR437_2.out HB.out) | (with_reducible refine Kd.C_alloc ?_ _) | (with_reducible refine Kd.C_drewN ?_ _) | (with_reducible refine Kd.C_drew ?_))); (case side2 => exact HC437_2.out); rintro e w7 ⟨rfl, hb⟩; refine ⟨_, rfl, ?_⟩; have n0_ := Aside0.mk (below_step (by repeat (first | (with_reducible first | exact HB.out | apply below_alloc | apply pw_below_drewN | apply below_drew1) | exact HB.out)) hb); clear HB; have HB := n0_; clear n0_; (try clear hb); (try clear hb2); (try clear hk); (try clear hi)))
            go_ret
            exact ⟨by first | rfl | (simp [errW_none, errW_some] <;> rfl) | (simp [*, errW_none, errW_some] <;> rfl), by repeat (first | (with_reducible first | exact HB.out | apply below_alloc | apply pw_below_drewN | apply below_drew1) | exact HB.out)⟩
        · rw [if_neg c3] at H
          exact absurd H (by simp)
      · rw [if_neg c2] at H
        have c2b0 : decide (x3_1 < (l0.length : Int)) = false := decide_eq_false c2
        (try simp only [hl437_2] at c2b0)
        clear c2
        obtain rfl := Option.some.inj H
        go_wp2
        go_ret
        exact ⟨by first | rfl | (simp [errW_none, errW_some] <;> rfl) | (simp [*, errW_none, errW_some] <;> rfl), by repeat (first | (with_reducible first | exact HB.out | apply below_alloc | apply pw_below_drewN | apply below_drew1) | exact HB.out)⟩

end Go.Proofs.YtkbaelhcijibiaaDoor.Px

/-
  Trails: the program's and the reference's look at one agree.
-/
namespace Go.Proofs.YtkbaelhcijibiaaDoor.Px
open Go.RowKit Go.Proofs.YtkbaelhcijibiaaDoorW.PrintWords Go.Proofs.YtkbaelhcijibiaaDoorW.PrintLast Go.Proofs.YtkbaelhcijibiaaDoorW.PrintMore
set_option linter.unusedVariables false
set_option linter.unusedSimpArgs false

/-- May a text be a term? -/
def mayB (s : ByteArray) : Bool := (term_May.f RR s).getD false
theorem mayB_is (s : ByteArray) (k : Nat) (hk : 4200 ≤ k) : term_May.f k s = some (mayB s) ∧ sleuthref1_TermMay.f k s = some (mayB s) := by
  obtain ⟨b, h1, h2⟩ := termMay_is RR k (by decide) hk s
  obtain ⟨b', h3, h4⟩ := termMay_is k k hk hk s
  have e : mayB s = b := by unfold mayB; rw [h1]; rfl
  rw [h2] at h4
  rw [e]
  exact ⟨by rw [h3, Option.some.inj h4], h2⟩
theorem rd_txt (l : List ByteArray) (i : Nat) (h : i < l.length) : rdOf ByteArray.empty l (i : Int) = l[i] := by
  simp [rdOf, List.getD_eq_getElem?_getD, List.getElem?_eq_getElem h]
theorem all_l0 (l : List ByteArray) (hm : l.length ≤ 100000) : ∀ (d k i : Nat), i + d = l.length → d + 4200 < k → term_All.l0 k l (l.length : Int) (i : Int) = some ((l.drop i).all mayB)
  | 0, k, i, hi, hk => by
    obtain ⟨k, rfl⟩ : ∃ j, k = j + 1 := ⟨k - 1, by omega⟩
    rw [term_All.l0, if_neg (by omega), List.drop_of_length_le (by omega)]
    rfl
  | d + 1, k, i, hi, hk => by
    obtain ⟨k, rfl⟩ : ∃ j, k = j + 1 := ⟨k - 1, by omega⟩
    have hlt : i < l.length := by omega
    have ih := all_l0 l hm d k (i + 1) (by omega) (by omega)
    rw [term_All.l0, if_pos (by omega), if_pos (by omega), if_pos (by omega), rd_txt l i hlt, (mayB_is _ k (by omega)).1, List.drop_eq_getElem_cons hlt, List.all_cons, show wrap64 ((i : Int) + 1) = ((i + 1 : Nat) : Int) by rw [wrap64_of (by omega) (by omega)]; omega, ih]
    simp only [Option.bind_some]
    cases mayB l[i] <;> simp
/-- May a node's call and result be? -/
def eqB (f0 : Int) (l : List ByteArray) (f3 : ByteArray) : Bool := decide (0 ≤ f0) && (decide (f0 ≤ 7) && (decide (l.length ≤ 3) && (l.all mayB && mayB f3)))
theorem equation_is (f0 f1 : Int) (l : List ByteArray) (f3 : ByteArray) : trail_Equation.f f0 f1 l f3 = some (eqB f0 l f3) := by
  unfold trail_Equation.f eqB
  by_cases h0 : 0 ≤ f0
  · by_cases h1 : f0 < 8
    · by_cases h2 : (l.length : Int) ≤ 3
      · rw [if_pos h0, if_pos h1, if_pos h2]
        have ha : term_All.f RR l = some (l.all mayB) := by
          have := all_l0 l (by omega) l.length RR 0 (by omega) (by unfold RR; omega)
          simpa [term_All.f] using this
        rw [ha, decide_eq_true h0, decide_eq_true (show f0 ≤ 7 by omega), decide_eq_true (show l.length ≤ 3 by omega)]
        simp only [Option.bind_some]
        cases l.all mayB with
        | true => rw [if_pos rfl, (mayB_is f3 RR (by decide)).1]; simp
        | false => simp
      · rw [if_pos h0, if_pos h1, if_neg h2, decide_eq_false (show ¬ l.length ≤ 3 by omega)]; simp
    · rw [if_pos h0, if_neg h1, decide_eq_false (show ¬ f0 ≤ 7 by omega)]; simp
  · rw [if_neg h0, decide_eq_false h0]; simp
theorem texts_l0 (f0 f1 : Int) (l : List ByteArray) (f3 : ByteArray) (hm : l.length ≤ 9223372036854775807) : ∀ (d k i : Nat), i + d = l.length → d + 4200 < k → sleuthref12_texts.l0 k (i : Int) f0 f1 l f3 = some ((l.drop i).all mayB && (decide (0 ≤ f0) && (decide (f0 ≤ 7) && (decide (l.length ≤ 3) && mayB f3))))
  | 0, k, i, hi, hk => by
    obtain ⟨k, rfl⟩ : ∃ j, k = j + 1 := ⟨k - 1, by omega⟩
    rw [sleuthref12_texts.l0, if_neg (by omega), List.drop_of_length_le (by omega)]
    unfold sleuthref12_upTo.f
    by_cases h0 : f0 ≥ 0
    · by_cases h1 : f0 ≤ 7
      · by_cases h2 : (l.length : Int) ≤ 3
        · rw [if_pos h0, decide_eq_true h1, decide_eq_true (show (0 : Int) ≤ f0 from h0), decide_eq_true (show l.length ≤ 3 by omega)]
          simp only [Option.bind_some, if_pos]
          rw [if_pos h2, (mayB_is f3 k (by omega)).2]
          simp
        · rw [if_pos h0, decide_eq_true h1, decide_eq_false (show ¬ l.length ≤ 3 by omega)]
          simp only [Option.bind_some, if_pos]
          rw [if_neg h2]
          simp
      · rw [if_pos h0, decide_eq_false h1]; simp
    · rw [if_neg h0, decide_eq_false (show ¬ (0 : Int) ≤ f0 from h0)]; simp
  | d + 1, k, i, hi, hk => by
    obtain ⟨k, rfl⟩ : ∃ j, k = j + 1 := ⟨k - 1, by omega⟩
    have hlt : i < l.length := by omega
    have ih := texts_l0 f0 f1 l f3 hm d k (i + 1) (by omega) (by omega)
    rw [sleuthref12_texts.l0, if_pos (by omega), if_pos (by omega), rd_txt l i hlt, (mayB_is _ k (by omega)).2, List.drop_eq_getElem_cons hlt, List.all_cons, show wrap64 ((i : Int) + 1) = ((i + 1 : Nat) : Int) by rw [wrap64_of (by omega) (by omega)]; omega, ih]
    simp only [Option.bind_some]
    cases mayB l[i] <;> simp
theorem texts_is (k : Nat) (f0 f1 : Int) (l : List ByteArray) (f3 : ByteArray) (hm : l.length ≤ 9223372036854775807) (hk : l.length + 4200 < k) : sleuthref12_texts.f k f0 f1 l f3 = some (eqB f0 l f3) := by
  unfold sleuthref12_texts.f
  refine (texts_l0 f0 f1 l f3 hm l.length k 0 (by omega) hk).trans ?_
  unfold eqB
  rw [List.drop_zero]
  cases l.all mayB <;> cases mayB f3 <;> simp
/-- May a node stand at that place? -/
def standsB (x : S24) (i : Nat) : Bool := decide (i < 512) && (eqB x.f0 x.f2 x.f3 && decide ((0 ≤ x.f1 ∧ x.f1 < (i : Int)) ∨ (i = 0 ∧ x.f1 = -1)))
theorem next_is (x : S24) (i : Nat) : trail_Next.f x.f0 x.f1 x.f2 x.f3 (i : Int) = some (standsB x i) := by
  unfold trail_Next.f standsB
  rw [equation_is]
  by_cases h0 : (i : Int) < 512
  · rw [if_pos h0, decide_eq_true (show i < 512 by omega)]
    by_cases h1 : (0 ≤ x.f1 ∧ x.f1 < (i : Int)) ∨ ((i : Int) = 0 ∧ x.f1 = -1)
    · rw [if_pos h1, decide_eq_true (show (0 ≤ x.f1 ∧ x.f1 < (i : Int)) ∨ (i = 0 ∧ x.f1 = -1) by omega)]; simp
    · rw [if_neg h1, decide_eq_false (show ¬ ((0 ≤ x.f1 ∧ x.f1 < (i : Int)) ∨ (i = 0 ∧ x.f1 = -1)) by omega)]; simp
  · rw [if_neg h0, decide_eq_false (show ¬ i < 512 by omega)]; simp
theorem stands_is (k : Nat) (x : S24) (i : Nat) (hm : x.f2.length ≤ 9223372036854775807) (hk : x.f2.length + 4200 < k) : sleuthref12_stands.f k x.f0 x.f1 x.f2 x.f3 (i : Int) = some (standsB x i) := by
  unfold sleuthref12_stands.f standsB
  rw [texts_is k _ _ _ _ hm hk]
  by_cases h0 : (i : Int) < 512
  · rw [if_pos h0, decide_eq_true (show i < 512 by omega)]
    simp only [Option.bind_some]
    cases eqB x.f0 x.f2 x.f3 with
    | false => simp
    | true =>
      rw [if_pos rfl]
      unfold sleuthref12_upTo.f
      by_cases hi : (i : Int) = 0
      · rw [if_pos hi]
        by_cases h1 : x.f1 = -1
        · rw [if_pos h1, decide_eq_true (show (0 ≤ x.f1 ∧ x.f1 < (i : Int)) ∨ (i = 0 ∧ x.f1 = -1) by omega)]; simp
        · rw [if_neg h1, if_neg (by omega), decide_eq_false (show ¬ ((0 ≤ x.f1 ∧ x.f1 < (i : Int)) ∨ (i = 0 ∧ x.f1 = -1)) by omega)]; simp
      · rw [if_neg hi, if_pos (by omega), show wrap64 ((i : Int) - 1) = (i : Int) - 1 by rw [wrap64_of (by omega) (by omega)]]
        by_cases h1 : x.f1 ≥ 0
        · rw [if_pos h1]
          by_cases h2 : x.f1 ≤ (i : Int) - 1
          · rw [decide_eq_true h2, decide_eq_true (show (0 ≤ x.f1 ∧ x.f1 < (i : Int)) ∨ (i = 0 ∧ x.f1 = -1) by omega)]; simp
          · rw [decide_eq_false h2, decide_eq_false (show ¬ ((0 ≤ x.f1 ∧ x.f1 < (i : Int)) ∨ (i = 0 ∧ x.f1 = -1)) by omega)]; simp
        · rw [if_neg h1, decide_eq_false (show ¬ ((0 ≤ x.f1 ∧ x.f1 < (i : Int)) ∨ (i = 0 ∧ x.f1 = -1)) by omega)]; simp
  · rw [if_neg h0, decide_eq_false (show ¬ i < 512 by omega)]; simp

/-- Does each node from a place on stand where it may, and is there one? -/
def trailFrom (ns : List S24) : Nat → Nat → Bool
  | 0, _ => decide (0 < ns.length)
  | d + 1, i => standsB (rd_T24 ns (i : Int)) i && trailFrom ns d (i + 1)
/-- May nodes be a trail? -/
def trailB (ns : List S24) : Bool := trailFrom ns ns.length 0
theorem stands_512 {x : S24} {i : Nat} (h : standsB x i = true) : i < 512 := by
  unfold standsB at h
  simp only [Bool.and_eq_true, decide_eq_true_eq] at h
  exact h.1
theorem may_from (ns : List S24) : ∀ (d i k : Nat), i + d = ns.length → 514 ≤ k + i → trail_May.l0 (k + 1) ns (ns.length : Int) (i : Int) = some (trailFrom ns d i)
  | 0, i, k, hi, hk => by
    rw [trail_May.l0, if_neg (by omega)]
    unfold trailFrom
    congr 1
    by_cases h : 0 < ns.length <;> simp [h]
  | d + 1, i, k, hi, hk => by
    rw [trail_May.l0, if_pos (by omega), if_pos (by omega), if_pos (by omega), next_is]
    simp only [Option.bind_some]
    unfold trailFrom
    cases hs : standsB (rd_T24 ns (i : Int)) i with
    | false => simp
    | true =>
      have h5 := stands_512 hs
      rw [if_pos rfl, Bool.true_and, show wrap64 ((i : Int) + 1) = ((i + 1 : Nat) : Int) by rw [wrap64_of (by omega) (by omega)]; omega]
      obtain ⟨k, rfl⟩ : ∃ j, k = j + 1 := ⟨k - 1, by omega⟩
      exact may_from ns d (i + 1) k (by omega) (by omega)
theorem may_is (ns : List S24) : trail_May.f RR ns = some (trailB ns) := may_from ns ns.length 0 4999 (by omega) (by omega)
theorem refmay_from (ns : List S24) (M : Nat) (hM : ∀ i, i < ns.length → (rd_T24 ns (i : Int)).f2.length ≤ M) (hM2 : M ≤ 9223372036854775807) : ∀ (d i k : Nat), i + d = ns.length → M + 4720 ≤ k + i → sleuthref12_TrailMay.l0 (k + 1) ns (i : Int) = some (trailFrom ns d i)
  | 0, i, k, hi, hk => by
    rw [sleuthref12_TrailMay.l0, if_neg (by omega)]
    unfold trailFrom
    congr 1
    by_cases h : 0 < ns.length <;> simp [h]
  | d + 1, i, k, hi, hk => by
    have hi2 : i < ns.length := by omega
    by_cases h512 : i < 512
    · rw [sleuthref12_TrailMay.l0, if_pos (by omega), if_pos (by omega), stands_is k _ i (by have := hM i hi2; omega) (by have := hM i hi2; omega)]
      simp only [Option.bind_some]
      unfold trailFrom
      cases hs : standsB (rd_T24 ns (i : Int)) i with
      | false => simp
      | true =>
        rw [if_pos rfl, Bool.true_and, show wrap64 ((i : Int) + 1) = ((i + 1 : Nat) : Int) by rw [wrap64_of (by omega) (by omega)]; omega]
        obtain ⟨k, rfl⟩ : ∃ j, k = j + 1 := ⟨k - 1, by omega⟩
        exact refmay_from ns M hM hM2 d (i + 1) k (by omega) (by omega)
    · rw [sleuthref12_TrailMay.l0, if_pos (by omega), if_pos (by omega)]
      unfold sleuthref12_stands.f
      rw [if_neg (by omega)]
      unfold trailFrom standsB
      rw [decide_eq_false h512]
      simp
theorem refmay_is (ns : List S24) (M k : Nat) (hM : ∀ i, i < ns.length → (rd_T24 ns (i : Int)).f2.length ≤ M) (hM2 : M ≤ 9223372036854775807) (hk : M + 4721 ≤ k) : sleuthref12_TrailMay.f k ns = some (trailB ns) := by
  obtain ⟨k, rfl⟩ : ∃ j, k = j + 1 := ⟨k - 1, by omega⟩
  exact refmay_from ns M hM hM2 ns.length 0 k (by omega) (by omega)
end Go.Proofs.YtkbaelhcijibiaaDoor.Px

/- Of each function of this text: a plain Lean function and a proof that the machine's call comes to its answers; printed by this session's program. -/
namespace Go.Proofs.YtkbaelhcijibiaaDoor.Px
open Go.RowKit Go.Proofs.YtkbaelhcijibiaaDoorW.PrintWords Go.Proofs.YtkbaelhcijibiaaDoorW.PrintLast Go.Proofs.YtkbaelhcijibiaaDoorW.PrintMore
attribute [local go_sem] max2_int min2_int max_two min_two max_three min_three max_four min_four   -- for this text's walks alone
set_option linter.unusedVariables false
set_option linter.unusedSimpArgs false

/-! ### sleuthlaw0_Num: function 19 -/
def sleuthlaw0_Num.f (a0 : Int) : Option (Int) := some a0
set_option maxHeartbeats 8000000 in
set_option maxRecDepth 100000 in
theorem sleuthlaw0_Num.calls (a0 : Int) (r : Int) (w : World) (h : sleuthlaw0_Num.f a0 = some r) :
    Calls Tryd.prog 19 #[.int .i64 a0] w fun e w' => e = .returned (.int .i64 r) ∧ Drawn0 w w' := by
  have H : (some a0) = some r := h
  clear h
  obtain rfl := Option.some.inj H
  go_enter Tryd.func19, Tryd.ntmps19
  go_wp2
  go_ret
  exact ⟨by first | rfl | (simp; done) | (simp [*]; done), by repeat (first | exact Drawn0.refl _ | apply Drawn0.step)⟩

end Go.Proofs.YtkbaelhcijibiaaDoor.Px

/- Of each function of this text: a plain Lean function and a proof that the machine's call comes to its answers; printed by this session's program. -/
namespace Go.Proofs.YtkbaelhcijibiaaDoor.Px
open Go.RowKit Go.Proofs.YtkbaelhcijibiaaDoorW.PrintWords Go.Proofs.YtkbaelhcijibiaaDoorW.PrintLast Go.Proofs.YtkbaelhcijibiaaDoorW.PrintMore
attribute [local go_sem] max2_int min2_int max_two min_two max_three min_three max_four min_four   -- for this text's walks alone
set_option linter.unusedVariables false
set_option linter.unusedSimpArgs false

/-! ### sleuthlaw13_some: function 28 -/
def sleuthlaw13_some.f  : Option ((List (S24))) := some (([(⟨0, (-1), ([] : List ByteArray), (⟨#[57]⟩ : ByteArray)⟩ : S24), (⟨1, 0, (([(⟨#[64, 55, 40, 95, 32, 52, 41]⟩ : ByteArray), (⟨#[53]⟩ : ByteArray)] : List ByteArray)), (⟨#[57]⟩ : ByteArray)⟩ : S24), (⟨2, 0, ([] : List ByteArray), (⟨#[33]⟩ : ByteArray)⟩ : S24), (⟨1, 1, (([(⟨#[49]⟩ : ByteArray), (⟨#[95]⟩ : ByteArray)] : List ByteArray)), (⟨#[95]⟩ : ByteArray)⟩ : S24), (⟨1, 2, (([(⟨#[49]⟩ : ByteArray), (⟨#[95]⟩ : ByteArray)] : List ByteArray)), (⟨#[95]⟩ : ByteArray)⟩ : S24)] : List (S24)))
set_option maxHeartbeats 8000000 in
set_option maxRecDepth 100000 in
theorem sleuthlaw13_some.calls  (r : List (S24)) (w : World) (h : sleuthlaw13_some.f  = some r) :
    Calls Tryd.prog 28 #[] w fun e w' => ∃ v0_ : Value, e = .returned (v0_) ∧ Kd.N k24 24 w' w.heap.size (fun k_ => (w.heap.size ≤ k_)) v0_ r ∧ Below w.heap.size w w' := by
  have hu24 := Tryd.underlying24
  have HB := Aside0.mk (Below.refl w.heap.size w)
  have H : (some (([(⟨0, (-1), ([] : List ByteArray), (⟨#[57]⟩ : ByteArray)⟩ : S24), (⟨1, 0, (([(⟨#[64, 55, 40, 95, 32, 52, 41]⟩ : ByteArray), (⟨#[53]⟩ : ByteArray)] : List ByteArray)), (⟨#[57]⟩ : ByteArray)⟩ : S24), (⟨2, 0, ([] : List ByteArray), (⟨#[33]⟩ : ByteArray)⟩ : S24), (⟨1, 1, (([(⟨#[49]⟩ : ByteArray), (⟨#[95]⟩ : ByteArray)] : List ByteArray)), (⟨#[95]⟩ : ByteArray)⟩ : S24), (⟨1, 2, (([(⟨#[49]⟩ : ByteArray), (⟨#[95]⟩ : ByteArray)] : List ByteArray)), (⟨#[95]⟩ : ByteArray)⟩ : S24)] : List (S24)))) = some r := h
  clear h
  obtain ⟨y384, hy384⟩ : ∃ y_ : List ByteArray, y_ = (([(⟨#[64, 55, 40, 95, 32, 52, 41]⟩ : ByteArray), (⟨#[53]⟩ : ByteArray)] : List ByteArray)) := ⟨_, rfl⟩
  replace H : (some (([(⟨0, (-1), ([] : List ByteArray), (⟨#[57]⟩ : ByteArray)⟩ : S24), (⟨1, 0, y384, (⟨#[57]⟩ : ByteArray)⟩ : S24), (⟨2, 0, ([] : List ByteArray), (⟨#[33]⟩ : ByteArray)⟩ : S24), (⟨1, 1, (([(⟨#[49]⟩ : ByteArray), (⟨#[95]⟩ : ByteArray)] : List ByteArray)), (⟨#[95]⟩ : ByteArray)⟩ : S24), (⟨1, 2, (([(⟨#[49]⟩ : ByteArray), (⟨#[95]⟩ : ByteArray)] : List ByteArray)), (⟨#[95]⟩ : ByteArray)⟩ : S24)] : List (S24)))) = some r := by first | (rw [hy384]; with_reducible exact H) | (have H2_ := (Option.bind_some _ _).symm.trans H; rw [hy384]; with_reducible exact H2_) | (have H2_ := (Option.bind_some _ _).symm.trans H; with_reducible exact H2_) | with_reducible exact H | (rw [hy384]; exact H) | exact H
  have Ny384 := Aside0.mk hy384
  clear hy384
  obtain ⟨y387, hy387⟩ : ∃ y_ : List ByteArray, y_ = (([(⟨#[49]⟩ : ByteArray), (⟨#[95]⟩ : ByteArray)] : List ByteArray)) := ⟨_, rfl⟩
  replace H : (some (([(⟨0, (-1), ([] : List ByteArray), (⟨#[57]⟩ : ByteArray)⟩ : S24), (⟨1, 0, y384, (⟨#[57]⟩ : ByteArray)⟩ : S24), (⟨2, 0, ([] : List ByteArray), (⟨#[33]⟩ : ByteArray)⟩ : S24), (⟨1, 1, y387, (⟨#[95]⟩ : ByteArray)⟩ : S24), (⟨1, 2, (([(⟨#[49]⟩ : ByteArray), (⟨#[95]⟩ : ByteArray)] : List ByteArray)), (⟨#[95]⟩ : ByteArray)⟩ : S24)] : List (S24)))) = some r := by first | (rw [hy387]; with_reducible exact H) | (have H2_ := (Option.bind_some _ _).symm.trans H; rw [hy387]; with_reducible exact H2_) | (have H2_ := (Option.bind_some _ _).symm.trans H; with_reducible exact H2_) | with_reducible exact H | (rw [hy387]; exact H) | exact H
  have Ny387 := Aside0.mk hy387
  clear hy387
  obtain ⟨y390, hy390⟩ : ∃ y_ : List ByteArray, y_ = (([(⟨#[49]⟩ : ByteArray), (⟨#[95]⟩ : ByteArray)] : List ByteArray)) := ⟨_, rfl⟩
  replace H : (some (([(⟨0, (-1), ([] : List ByteArray), (⟨#[57]⟩ : ByteArray)⟩ : S24), (⟨1, 0, y384, (⟨#[57]⟩ : ByteArray)⟩ : S24), (⟨2, 0, ([] : List ByteArray), (⟨#[33]⟩ : ByteArray)⟩ : S24), (⟨1, 1, y387, (⟨#[95]⟩ : ByteArray)⟩ : S24), (⟨1, 2, y390, (⟨#[95]⟩ : ByteArray)⟩ : S24)] : List (S24)))) = some r := by first | (rw [hy390]; with_reducible exact H) | (have H2_ := (Option.bind_some _ _).symm.trans H; rw [hy390]; with_reducible exact H2_) | (have H2_ := (Option.bind_some _ _).symm.trans H; with_reducible exact H2_) | with_reducible exact H | (rw [hy390]; exact H) | exact H
  have Ny390 := Aside0.mk hy390
  clear hy390
  obtain ⟨y393, hy393⟩ : ∃ y_ : List (S24), y_ = (([(⟨0, (-1), ([] : List ByteArray), (⟨#[57]⟩ : ByteArray)⟩ : S24), (⟨1, 0, y384, (⟨#[57]⟩ : ByteArray)⟩ : S24), (⟨2, 0, ([] : List ByteArray), (⟨#[33]⟩ : ByteArray)⟩ : S24), (⟨1, 1, y387, (⟨#[95]⟩ : ByteArray)⟩ : S24), (⟨1, 2, y390, (⟨#[95]⟩ : ByteArray)⟩ : S24)] : List (S24))) := ⟨_, rfl⟩
  replace H : (some y393) = some r := by first | (rw [hy393]; with_reducible exact H) | (have H2_ := (Option.bind_some _ _).symm.trans H; rw [hy393]; with_reducible exact H2_) | (have H2_ := (Option.bind_some _ _).symm.trans H; with_reducible exact H2_) | with_reducible exact H | (rw [hy393]; exact H) | exact H
  have Ny393 := Aside0.mk hy393
  clear hy393
  obtain rfl := Option.some.inj H
  go_enter Tryd.func28, Tryd.ntmps28
  go_wp2_with (first | ((with_reducible refine gate_dst (N := 2) rfl ?_); refine Kd.R_lit Kd.string _ 9 ?hg (N := 2) ?hd (xs := ([(⟨#[64, 55, 40, 95, 32, 52, 41]⟩ : ByteArray), (⟨#[53]⟩ : ByteArray)] : List ByteArray)) (inner := [.string (⟨#[64, 55, 40, 95, 32, 52, 41]⟩ : ByteArray), .string (⟨#[53]⟩ : ByteArray)]) (ok := fun _ => True) (okp := fun _ => True) ?hr ?hp (fun _ hk => hk) trivial (Below.refl _ _) (Nat.le_refl _) (by simp) ?_; (case hd => rfl); (case hg => rfl); (case hr => first | (go_simp; done) | (go_simp; rfl)); (case hp => exact (Reps.one (show Kd.M Kd.string _ _ _ (⟨#[64, 55, 40, 95, 32, 52, 41]⟩ : ByteArray) [.string (⟨#[64, 55, 40, 95, 32, 52, 41]⟩ : ByteArray)] from rfl) (Reps.one (show Kd.M Kd.string _ _ _ (⟨#[53]⟩ : ByteArray) [.string (⟨#[53]⟩ : ByteArray)] from rfl) (Reps.none _ _)))); intro v385 w1 ho2 hb hg_ hnew_; clear hg_ hnew_; (first | rw [← Ny384.out] at ho2 | (simp only [Int.reduceToNat] at ho2; rw [← Ny384.out] at ho2)); have n0_ := Aside0.mk (Kd.R_lower (Kd.R_newM (M := fun k_ => (w.heap.size ≤ k_)) ho2 (below_size (by repeat (first | (with_reducible first | exact HB.out | apply below_alloc | apply pw_below_drewN | apply below_drew1) | exact HB.out))) (fun k_ h_ => h_)) (below_size (by repeat (first | (with_reducible first | exact HB.out | apply below_alloc | apply pw_below_drewN | apply below_drew1) | exact HB.out)))); have n1_ := Aside0.mk (below_step (by repeat (first | (with_reducible first | exact HB.out | apply below_alloc | apply pw_below_drewN | apply below_drew1) | exact HB.out)) hb); clear HB; have HO386 := n0_; have HB := n1_; clear n0_ n1_; clear hb ho2; obtain ⟨Ao3, co3, eo3⟩ := Kd.R_slice HO386.out; subst eo3) | ((with_reducible refine gate_dst (N := 5) rfl ?_); refine Kd.R_lit Kd.string _ 9 ?hg (N := 5) ?hd (xs := ([(⟨#[49]⟩ : ByteArray), (⟨#[95]⟩ : ByteArray)] : List ByteArray)) (inner := [.string (⟨#[49]⟩ : ByteArray), .string (⟨#[95]⟩ : ByteArray)]) (ok := fun _ => True) (okp := fun _ => True) ?hr ?hp (fun _ hk => hk) trivial (Below.refl _ _) (Nat.le_refl _) (by simp) ?_; (case hd => rfl); (case hg => rfl); (case hr => first | (go_simp; done) | (go_simp; rfl)); (case hp => exact (Reps.one (show Kd.M Kd.string _ _ _ (⟨#[49]⟩ : ByteArray) [.string (⟨#[49]⟩ : ByteArray)] from rfl) (Reps.one (show Kd.M Kd.string _ _ _ (⟨#[95]⟩ : ByteArray) [.string (⟨#[95]⟩ : ByteArray)] from rfl) (Reps.none _ _)))); intro v388 w4 ho5 hb hg_ hnew_; clear hg_ hnew_; (first | rw [← Ny387.out] at ho5 | (simp only [Int.reduceToNat] at ho5; rw [← Ny387.out] at ho5)); have n0_ := Aside0.mk (Kd.R_elder' (by (with_reducible repeat (first | apply Kd.R_alloc | apply Kd.R_drewN | apply Kd.R_drew)); exact HO386.out) (Kd.R_base ho5) hb); have n1_ := Aside0.mk (Kd.R_lower (Kd.R_new' (Kd.R_newM (M := fun k_ => (w.heap.size ≤ k_)) ho5 (below_size (by repeat (first | (with_reducible first | exact HB.out | apply below_alloc | apply pw_below_drewN | apply below_drew1) | exact HB.out))) (fun k_ h_ => h_)) (Kd.R_lt (by (with_reducible repeat (first | apply Kd.R_alloc | apply Kd.R_drewN | apply Kd.R_drew)); exact HO386.out))) (below_size (by repeat (first | (with_reducible first | exact HB.out | apply below_alloc | apply pw_below_drewN | apply below_drew1) | exact HB.out)))); have n2_ := Aside0.mk (below_step (by repeat (first | (with_reducible first | exact HB.out | apply below_alloc | apply pw_below_drewN | apply below_drew1) | exact HB.out)) hb); clear HO386; clear HB; have HO386 := n0_; have HO389 := n1_; have HB := n2_; clear n0_ n1_ n2_; clear hb ho5; obtain ⟨Ao6, co6, eo6⟩ := Kd.R_slice HO389.out; subst eo6) | ((with_reducible refine gate_dst (N := 7) rfl ?_); refine Kd.R_lit Kd.string _ 9 ?hg (N := 7) ?hd (xs := ([(⟨#[49]⟩ : ByteArray), (⟨#[95]⟩ : ByteArray)] : List ByteArray)) (inner := [.string (⟨#[49]⟩ : ByteArray), .string (⟨#[95]⟩ : ByteArray)]) (ok := fun _ => True) (okp := fun _ => True) ?hr ?hp (fun _ hk => hk) trivial (Below.refl _ _) (Nat.le_refl _) (by simp) ?_; (case hd => rfl); (case hg => rfl); (case hr => first | (go_simp; done) | (go_simp; rfl)); (case hp => exact (Reps.one (show Kd.M Kd.string _ _ _ (⟨#[49]⟩ : ByteArray) [.string (⟨#[49]⟩ : ByteArray)] from rfl) (Reps.one (show Kd.M Kd.string _ _ _ (⟨#[95]⟩ : ByteArray) [.string (⟨#[95]⟩ : ByteArray)] from rfl) (Reps.none _ _)))); intro v391 w7 ho8 hb hg_ hnew_; clear hg_ hnew_; (first | rw [← Ny390.out] at ho8 | (simp only [Int.reduceToNat] at ho8; rw [← Ny390.out] at ho8)); have n0_ := Aside0.mk (Kd.R_elder' (by (with_reducible repeat (first | apply Kd.R_alloc | apply Kd.R_drewN | apply Kd.R_drew)); exact HO386.out) (Kd.R_base ho8) hb); have n1_ := Aside0.mk (Kd.R_elder' (by (with_reducible repeat (first | apply Kd.R_alloc | apply Kd.R_drewN | apply Kd.R_drew)); exact HO389.out) (Kd.R_base ho8) hb); have n2_ := Aside0.mk (Kd.R_lower (Kd.R_new' (Kd.R_new' (Kd.R_newM (M := fun k_ => (w.heap.size ≤ k_)) ho8 (below_size (by repeat (first | (with_reducible first | exact HB.out | apply below_alloc | apply pw_below_drewN | apply below_drew1) | exact HB.out))) (fun k_ h_ => h_)) (Kd.R_lt (by (with_reducible repeat (first | apply Kd.R_alloc | apply Kd.R_drewN | apply Kd.R_drew)); exact HO386.out))) (Kd.R_lt (by (with_reducible repeat (first | apply Kd.R_alloc | apply Kd.R_drewN | apply Kd.R_drew)); exact HO389.out))) (below_size (by repeat (first | (with_reducible first | exact HB.out | apply below_alloc | apply pw_below_drewN | apply below_drew1) | exact HB.out)))); have n3_ := Aside0.mk (below_step (by repeat (first | (with_reducible first | exact HB.out | apply below_alloc | apply pw_below_drewN | apply below_drew1) | exact HB.out)) hb); clear HO386; clear HO389; clear HB; have HO386 := n0_; have HO389 := n1_; have HO392 := n2_; have HB := n3_; clear n0_ n1_ n2_ n3_; clear hb ho8; obtain ⟨Ao9, co9, eo9⟩ := Kd.R_slice HO392.out; subst eo9) | ((with_reducible refine gate_dst (N := 9) rfl ?_); refine Kd.N_lit k24 _ 24 ?hg (N' := 9) ?hd (xs := ([(⟨0, (-1), ([] : List ByteArray), (⟨#[57]⟩ : ByteArray)⟩ : S24), (⟨1, 0, y384, (⟨#[57]⟩ : ByteArray)⟩ : S24), (⟨2, 0, ([] : List ByteArray), (⟨#[33]⟩ : ByteArray)⟩ : S24), (⟨1, 1, y387, (⟨#[95]⟩ : ByteArray)⟩ : S24), (⟨1, 2, y390, (⟨#[95]⟩ : ByteArray)⟩ : S24)] : List (S24))) (inner := [.int .i64 0, .int .i64 (-1), .slice none 0 0, .string (⟨#[57]⟩ : ByteArray), .int .i64 1, .int .i64 0, .slice Ao3 y384.length co3, .string (⟨#[57]⟩ : ByteArray), .int .i64 2, .int .i64 0, .slice none 0 0, .string (⟨#[33]⟩ : ByteArray), .int .i64 1, .int .i64 1, .slice Ao6 y387.length co6, .string (⟨#[95]⟩ : ByteArray), .int .i64 1, .int .i64 2, .slice Ao9 y390.length co9, .string (⟨#[95]⟩ : ByteArray)]) (ok := (fun k_ => (w.heap.size ≤ k_))) (okp := (fun k_ => (w.heap.size ≤ k_))) ?hr ?hp (fun _ hk => hk) ((show ∀ k_, w7.heap.size ≤ k_ → (fun k_ => (w.heap.size ≤ k_)) k_ from fun k_ hk => (Nat.le_trans (below_size (by repeat (first | (with_reducible first | exact HB.out | apply below_alloc | apply pw_below_drewN | apply below_drew1) | exact HB.out))) hk)) _ (Nat.le_refl _)) (Below.refl _ _) (Nat.le_refl _) (by simp) ?_; (case hd => rfl); (case hg => rfl); (case hr => first | (go_simp; done) | (go_simp; rfl)); (case hp => exact (Reps.c4 (show Kd.FK k24 _ _ (⟨0, (-1), ([] : List ByteArray), (⟨#[57]⟩ : ByteArray)⟩ : S24) [.int .i64 0, .int .i64 (-1), .slice none 0 0, .string (⟨#[57]⟩ : ByteArray)] from (k24_mkF _ _ (⟨0, (-1), ([] : List ByteArray), (⟨#[57]⟩ : ByteArray)⟩ : S24) (Nat.le_refl _) (Kd.F_nil _ _ _))) (Reps.c4 (show Kd.FK k24 _ _ (⟨1, 0, y384, (⟨#[57]⟩ : ByteArray)⟩ : S24) [.int .i64 1, .int .i64 0, .slice Ao3 y384.length co3, .string (⟨#[57]⟩ : ByteArray)] from (k24_mkF _ _ (⟨1, 0, y384, (⟨#[57]⟩ : ByteArray)⟩ : S24) (Kd.R_reads' (Kd.R_mono (ok' := (fun k_ => (w.heap.size ≤ k_))) (HO386.out) (fun k_ hk => hk.1.1.1))).2.1 (Kd.R_F (Kd.R_mono (ok' := (fun k_ => (w.heap.size ≤ k_))) (HO386.out) (fun k_ hk => hk.1.1.1))))) (Reps.c4 (show Kd.FK k24 _ _ (⟨2, 0, ([] : List ByteArray), (⟨#[33]⟩ : ByteArray)⟩ : S24) [.int .i64 2, .int .i64 0, .slice none 0 0, .string (⟨#[33]⟩ : ByteArray)] from (k24_mkF _ _ (⟨2, 0, ([] : List ByteArray), (⟨#[33]⟩ : ByteArray)⟩ : S24) (Nat.le_refl _) (Kd.F_nil _ _ _))) (Reps.c4 (show Kd.FK k24 _ _ (⟨1, 1, y387, (⟨#[95]⟩ : ByteArray)⟩ : S24) [.int .i64 1, .int .i64 1, .slice Ao6 y387.length co6, .string (⟨#[95]⟩ : ByteArray)] from (k24_mkF _ _ (⟨1, 1, y387, (⟨#[95]⟩ : ByteArray)⟩ : S24) (Kd.R_reads' (Kd.R_mono (ok' := (fun k_ => (w.heap.size ≤ k_))) (HO389.out) (fun k_ hk => hk.1.1.1))).2.1 (Kd.R_F (Kd.R_mono (ok' := (fun k_ => (w.heap.size ≤ k_))) (HO389.out) (fun k_ hk => hk.1.1.1))))) (Reps.c4 (show Kd.FK k24 _ _ (⟨1, 2, y390, (⟨#[95]⟩ : ByteArray)⟩ : S24) [.int .i64 1, .int .i64 2, .slice Ao9 y390.length co9, .string (⟨#[95]⟩ : ByteArray)] from (k24_mkF _ _ (⟨1, 2, y390, (⟨#[95]⟩ : ByteArray)⟩ : S24) (Kd.R_reads' (Kd.R_mono (ok' := (fun k_ => (w.heap.size ≤ k_))) (HO392.out) (fun k_ hk => hk.1.1.1))).2.1 (Kd.R_F (Kd.R_mono (ok' := (fun k_ => (w.heap.size ≤ k_))) (HO392.out) (fun k_ hk => hk.1.1.1))))) (Reps.none _ _))))))); intro v394 w10 ho11 hb hg_ hnew_; clear hg_ hnew_; (first | rw [← Ny393.out] at ho11 | (simp only [Int.reduceToNat] at ho11; rw [← Ny393.out] at ho11)); have n0_ := Aside0.mk (Kd.N_lower ho11 (below_size (by repeat (first | (with_reducible first | exact HB.out | apply below_alloc | apply pw_below_drewN | apply below_drew1) | exact HB.out)))); have n1_ := Aside0.mk (below_step (by repeat (first | (with_reducible first | exact HB.out | apply below_alloc | apply pw_below_drewN | apply below_drew1) | exact HB.out)) hb); clear HB; clear HO386; clear HO389; clear HO392; have HO395 := n0_; have HB := n1_; clear n0_ n1_; clear hb ho11))
  go_ret
  exact ⟨_, by first | rfl | (simp [errW_none, errW_some] <;> rfl) | (simp [*, errW_none, errW_some] <;> rfl), by (with_reducible repeat (first | apply Kd.N_alloc | apply Kd.N_drewN | apply Kd.N_drew)); exact HO395.out, by repeat (first | (with_reducible first | exact HB.out | apply below_alloc | apply pw_below_drewN | apply below_drew1) | exact HB.out)⟩

end Go.Proofs.YtkbaelhcijibiaaDoor.Px

/- Of each function of this text: a plain Lean function and a proof that the machine's call comes to its answers; printed by this session's program. -/
namespace Go.Proofs.YtkbaelhcijibiaaDoor.Px
open Go.RowKit Go.Proofs.YtkbaelhcijibiaaDoorW.PrintWords Go.Proofs.YtkbaelhcijibiaaDoorW.PrintLast Go.Proofs.YtkbaelhcijibiaaDoorW.PrintMore
attribute [local go_sem] max2_int min2_int max_two min_two max_three min_three max_four min_four   -- for this text's walks alone
set_option linter.unusedVariables false
set_option linter.unusedSimpArgs false

/-! ### sleuthlaw0_SameInts: function 51 -/
def sleuthlaw0_SameInts.l0 : Nat → List Int → List Int → Int → Option (Bool)
  | 0, _, _, _ => none
  | k + 1, x0, x1, x5 => if x5 < (x0.length : Int) then (if 0 ≤ x5 then (if x5 < (x1.length : Int) then (if (rd x0 x5) = (rd x1 x5) then (sleuthlaw0_SameInts.l0 k x0 x1 (wrap64 (x5 + 1))) else (some false)) else (none)) else (none)) else (some true)
def sleuthlaw0_SameInts.f (k : Nat) (l0 : List Int) (l1 : List Int) : Option (Bool) := if (l0.length : Int) = (l1.length : Int) then (sleuthlaw0_SameInts.l0 k l0 l1 0) else (some false)
theorem sleuthlaw0_SameInts.mono_l : ∀ k, (∀ y0 y1 y2, LeO (sleuthlaw0_SameInts.l0 k y0 y1 y2) (sleuthlaw0_SameInts.l0 (k + 1) y0 y1 y2))
  | 0 => fun _ _ _ r h => by simp [sleuthlaw0_SameInts.l0] at h
  | k + 1 => by
    have ih0 := sleuthlaw0_SameInts.mono_l k
    · intro y0 y1 y2
      unfold sleuthlaw0_SameInts.l0
      repeat' first
      | (with_reducible exact ih0 _ _ _)
      | (with_reducible exact LeO.refl _)
      | (with_reducible exact LeO.none _)
      | (with_reducible refine LeO.ite ?_ ?_)
      | (with_reducible refine LeO.bind ?_ (fun _ => ?_))
      | exact ih0 _ _ _
      | exact LeO.none _
      | refine LeO.ite ?_ ?_
      | refine LeO.bind ?_ (fun _ => ?_)
theorem sleuthlaw0_SameInts.mono : ∀ a0 a1 k, LeO (sleuthlaw0_SameInts.f k a0 a1) (sleuthlaw0_SameInts.f (k + 1) a0 a1) := by
  intro a0 a1 k
  have ih0 := sleuthlaw0_SameInts.mono_l k
  unfold sleuthlaw0_SameInts.f
  repeat' first
      | (with_reducible exact ih0 _ _ _)
      | (with_reducible exact LeO.refl _)
      | (with_reducible exact LeO.none _)
      | (with_reducible refine LeO.ite ?_ ?_)
      | (with_reducible refine LeO.bind ?_ (fun _ => ?_))
      | exact ih0 _ _ _
      | exact LeO.none _
      | refine LeO.ite ?_ ?_
      | refine LeO.bind ?_ (fun _ => ?_)
set_option maxHeartbeats 8000000 in
set_option maxRecDepth 100000 in
theorem sleuthlaw0_SameInts.calls (k : Nat) (A0 : Option Addr) (c0 : Nat) (l0 : List Int) (A1 : Option Addr) (c1 : Nat) (l1 : List Int) (r : Bool) (w : World) (hr0 : Kd.C (Kd.int .i64) w A0 l0.length l0) (hc0 : l0.length ≤ c0) (hr1 : Kd.C (Kd.int .i64) w A1 l1.length l1) (hc1 : l1.length ≤ c1) (h : sleuthlaw0_SameInts.f k l0 l1 = some r) :
    Calls Tryd.prog 51 #[.slice A0 l0.length c0, .slice A1 l1.length c1] w fun e w' => e = .returned (.bool r) ∧ Drawn0 w w' := by
  have HR0 := Aside0.mk hr0
  have HC0 := Aside0.mk hc0
  clear hr0 hc0
  have HR1 := Aside0.mk hr1
  have HC1 := Aside0.mk hc1
  clear hr1 hc1
  have H : (if (l0.length : Int) = (l1.length : Int) then (sleuthlaw0_SameInts.l0 k l0 l1 0) else (some false)) = some r := h
  clear h
  by_cases c3 : (l0.length : Int) = (l1.length : Int)
  · rw [if_pos c3] at H
    have c3b0 : ((l0.length : Int) == (l1.length : Int)) = true := beq_iff_eq.mpr c3
    have c3b1 : ((l0.length : Int) != (l1.length : Int)) = false := bne_eq_false_iff_eq.mpr c3
    have c3b2 : (l0.length == l1.length) = true := by first | simpa using c3 | (simp at c3 ⊢; omega)
    clear c3
    have H' := Aside0.mk H
    clear H
    go_enter Tryd.func51, Tryd.ntmps51
    go_wp2
    repeat (go_quiet (fail); try go_wp2)
    (try simp only [Act.put, List.setIfInBounds_toArray, List.set_cons_zero, List.set_cons_succ])
    go_loopg [5] k (fun kq v5 w' => ∃ (x5_1 : Int), v5 = .int .i64 x5_1 ∧ Aside0 (sleuthlaw0_SameInts.l0 kq l0 l1 x5_1 = some r) ∧ Aside0 (kq ≤ k) ∧ Drawn0 w w')
    case atStart => exact ⟨(0), (by first | rfl | (simp; done) | (simp [*]; done)), H', ⟨Nat.le_refl _⟩, by repeat (first | exact Drawn0.refl _ | apply Drawn0.step)⟩
    case round =>
      clear H'
      try clear c1
      try clear p2
      try clear c3
      try clear c3b0
      try clear c3b1
      try clear c3b2
      obtain ⟨x5_1, rfl, HA, HK1, ⟨m1, rfl⟩⟩ := hrel
      cases gk with
      | zero => exact absurd HA.out (by simp [sleuthlaw0_SameInts.l0])
      | succ k1 =>
        have H := HA.out
        clear HA
        simp only [sleuthlaw0_SameInts.l0] at H
        by_cases c4 : x5_1 < (l0.length : Int)
        · rw [if_pos c4] at H
          have c4b0 : decide (x5_1 < (l0.length : Int)) = true := decide_eq_true c4
          clear c4
          by_cases c5 : 0 ≤ x5_1
          · rw [if_pos c5] at H
            have c5b0 : decide (0 ≤ x5_1) = true := decide_eq_true c5
            clear c5
            by_cases c6 : x5_1 < (l1.length : Int)
            · rw [if_pos c6] at H
              have c6b0 : decide (x5_1 < (l1.length : Int)) = true := decide_eq_true c6
              clear c6
              by_cases c7 : (rd l0 x5_1) = (rd l1 x5_1)
              · rw [if_pos c7] at H
                have c7b0 : ((rd l0 x5_1) == (rd l1 x5_1)) = true := beq_iff_eq.mpr c7
                have c7b1 : ((rd l0 x5_1) != (rd l1 x5_1)) = false := bne_eq_false_iff_eq.mpr c7
                clear c7
                have H' := Aside0.mk H
                clear H
                have p396 : 0 ≤ (x5_1 : Int) := of_decide_eq_true (by first | (with_reducible assumption) | assumption)
                have q396 : x5_1 < (l0.length : Int) := of_decide_eq_true (by first | (with_reducible assumption) | assumption)
                obtain ⟨ad396, e396, hx396_0⟩ := Kd.at_int HR0.out x5_1 p396 q396
                cases e396
                replace p396 := eq_true p396
                replace q396 := eq_true q396
                have p397 : 0 ≤ (x5_1 : Int) := of_decide_eq_true (by first | (with_reducible assumption) | assumption)
                have q397 : x5_1 < (l1.length : Int) := of_decide_eq_true (by first | (with_reducible assumption) | assumption)
                obtain ⟨ad397, e397, hx397_0⟩ := Kd.at_int HR1.out x5_1 p397 q397
                cases e397
                replace p397 := eq_true p397
                replace q397 := eq_true q397
                go_wp2
                repeat (go_quiet (fail); try go_wp2)
                go_roundg k1
                case measure => have := HK1.out; omega
                case rel => exact ⟨(wrap64 (x5_1 + 1)), (by first | rfl | (simp; done) | (simp [*]; done)), H', ⟨by have := HK1.out; omega⟩, by repeat (first | exact Drawn0.refl _ | apply Drawn0.step)⟩
              · rw [if_neg c7] at H
                have c7b0 : ((rd l0 x5_1) == (rd l1 x5_1)) = false := beq_eq_false_iff_ne.mpr c7
                have c7b1 : ((rd l0 x5_1) != (rd l1 x5_1)) = true := bne_iff_ne.mpr c7
                obtain rfl := Option.some.inj H
                have p396 : 0 ≤ (x5_1 : Int) := of_decide_eq_true (by first | (with_reducible assumption) | assumption)
                have q396 : x5_1 < (l0.length : Int) := of_decide_eq_true (by first | (with_reducible assumption) | assumption)
                obtain ⟨ad396, e396, hx396_0⟩ := Kd.at_int HR0.out x5_1 p396 q396
                cases e396
                replace p396 := eq_true p396
                replace q396 := eq_true q396
                have p397 : 0 ≤ (x5_1 : Int) := of_decide_eq_true (by first | (with_reducible assumption) | assumption)
                have q397 : x5_1 < (l1.length : Int) := of_decide_eq_true (by first | (with_reducible assumption) | assumption)
                obtain ⟨ad397, e397, hx397_0⟩ := Kd.at_int HR1.out x5_1 p397 q397
                cases e397
                replace p397 := eq_true p397
                replace q397 := eq_true q397
                go_wp2
                repeat (go_quiet (fail); try go_wp2)
                go_ret
                exact ⟨by first | rfl | (simp; done) | (simp [*]; done), by repeat (first | exact Drawn0.refl _ | apply Drawn0.step)⟩
            · rw [if_neg c6] at H
              exact absurd H (by simp)
          · rw [if_neg c5] at H
            exact absurd H (by simp)
        · rw [if_neg c4] at H
          have c4b0 : decide (x5_1 < (l0.length : Int)) = false := decide_eq_false c4
          clear c4
          obtain rfl := Option.some.inj H
          go_wp2
          repeat (go_quiet (fail); try go_wp2)
          go_ret
          exact ⟨by first | rfl | (simp; done) | (simp [*]; done), by repeat (first | exact Drawn0.refl _ | apply Drawn0.step)⟩
  · rw [if_neg c3] at H
    have c3b0 : ((l0.length : Int) == (l1.length : Int)) = false := beq_eq_false_iff_ne.mpr c3
    have c3b1 : ((l0.length : Int) != (l1.length : Int)) = true := bne_iff_ne.mpr c3
    have c3b2 : (l0.length == l1.length) = false := by first | simpa using c3 | (simp at c3 ⊢; omega)
    obtain rfl := Option.some.inj H
    go_enter Tryd.func51, Tryd.ntmps51
    go_wp2
    repeat (go_quiet (fail); try go_wp2)
    go_ret
    exact ⟨by first | rfl | (simp; done) | (simp [*]; done), by repeat (first | exact Drawn0.refl _ | apply Drawn0.step)⟩

end Go.Proofs.YtkbaelhcijibiaaDoor.Px

/- Of each function of this text: a plain Lean function and a proof that the machine's call comes to its answers; printed by this session's program. -/
namespace Go.Proofs.YtkbaelhcijibiaaDoor.Px
open Go.RowKit Go.Proofs.YtkbaelhcijibiaaDoorW.PrintWords Go.Proofs.YtkbaelhcijibiaaDoorW.PrintLast Go.Proofs.YtkbaelhcijibiaaDoorW.PrintMore
attribute [local go_sem] max2_int min2_int max_two min_two max_three min_three max_four min_four   -- for this text's walks alone
set_option linter.unusedVariables false
set_option linter.unusedSimpArgs false

/-! ### sleuthlaw13_awake: function 24 -/
def sleuthlaw13_awake.f (k : Nat)  : Option (Bool) := (sleuthlaw13_some.f).bind fun t398 => ((tree_Kids.f t398 0).bind fun bt401 => ((sleuthlaw13_some.f).bind fun t405 => ((tree_Size.f t405 1).bind fun bt408 => ((sleuthlaw13_some.f).bind fun t410 => ((tree_Size.f t410 0).bind fun bt413 => ((sleuthlaw13_some.f).bind fun t415 => ((tree_Kids.f t415 5).bind fun bt418 => ((tree_Size.f ([] : List (S24)) 0).bind fun bt422 => ((sleuthlaw0_SameInts.f k bt401.1 (([1, 2] : List Int))).bind fun t427 => (if t427 = true then ((sleuthlaw0_Num.f bt401.2).bind fun t428 => (if t428 = 0 then (if bt408.1 = 2 then ((sleuthlaw0_Num.f bt408.2).bind fun t429 => (if t429 = 0 then (if bt413.1 = 5 then ((sleuthlaw0_Num.f bt413.2).bind fun t430 => (if t430 = 0 then ((sleuthlaw0_Num.f bt418.2).bind fun t431 => (if t431 = 1300 then ((sleuthlaw0_Num.f bt422.2).bind fun t432 => (some (t432 == 1300))) else (some false))) else (some false))) else (some false)) else (some false))) else (some false)) else (some false))) else (some false)))))))))))
theorem sleuthlaw13_awake.mono : ∀ k, LeO (sleuthlaw13_awake.f k ) (sleuthlaw13_awake.f (k + 1) ) := by
  intro  k
  unfold sleuthlaw13_awake.f
  repeat' first
      | (with_reducible exact sleuthlaw0_SameInts.mono _ _ _)
      | (with_reducible exact LeO.refl _)
      | (with_reducible exact LeO.none _)
      | (with_reducible refine LeO.ite ?_ ?_)
      | (with_reducible refine LeO.bind ?_ (fun _ => ?_))
      | exact sleuthlaw0_SameInts.mono _ _ _
      | exact LeO.none _
      | refine LeO.ite ?_ ?_
      | refine LeO.bind ?_ (fun _ => ?_)
set_option maxHeartbeats 8000000 in
set_option maxRecDepth 100000 in
theorem sleuthlaw13_awake.calls (k : Nat)  (w : World) (hL : Laid w) (h : sleuthlaw13_awake.f k  = some true) :
    Calls Tryd.prog 24 #[] w fun e w' => e = .returned (.bool true) ∧ Below w.heap.size w w' := by
  have HLaid := Aside0.mk hL
  clear hL
  have HB := Aside0.mk (Below.refl w.heap.size w)
  have H : ((sleuthlaw13_some.f).bind fun t398 => ((tree_Kids.f t398 0).bind fun bt401 => ((sleuthlaw13_some.f).bind fun t405 => ((tree_Size.f t405 1).bind fun bt408 => ((sleuthlaw13_some.f).bind fun t410 => ((tree_Size.f t410 0).bind fun bt413 => ((sleuthlaw13_some.f).bind fun t415 => ((tree_Kids.f t415 5).bind fun bt418 => ((tree_Size.f ([] : List (S24)) 0).bind fun bt422 => ((sleuthlaw0_SameInts.f k bt401.1 (([1, 2] : List Int))).bind fun t427 => (if t427 = true then ((sleuthlaw0_Num.f bt401.2).bind fun t428 => (if t428 = 0 then (if bt408.1 = 2 then ((sleuthlaw0_Num.f bt408.2).bind fun t429 => (if t429 = 0 then (if bt413.1 = 5 then ((sleuthlaw0_Num.f bt413.2).bind fun t430 => (if t430 = 0 then ((sleuthlaw0_Num.f bt418.2).bind fun t431 => (if t431 = 1300 then ((sleuthlaw0_Num.f bt422.2).bind fun t432 => (some (t432 == 1300))) else (some false))) else (some false))) else (some false)) else (some false))) else (some false)) else (some false))) else (some false)))))))))))) = some true := h
  clear h
  replace H := Option.bind_eq_some_iff.mp H
  obtain ⟨t398, A10, H⟩ := H
  replace H : ((tree_Kids.f t398 0).bind fun bt401 => ((sleuthlaw13_some.f).bind fun t405 => ((tree_Size.f t405 1).bind fun bt408 => ((sleuthlaw13_some.f).bind fun t410 => ((tree_Size.f t410 0).bind fun bt413 => ((sleuthlaw13_some.f).bind fun t415 => ((tree_Kids.f t415 5).bind fun bt418 => ((tree_Size.f ([] : List (S24)) 0).bind fun bt422 => ((sleuthlaw0_SameInts.f k bt401.1 (([1, 2] : List Int))).bind fun t427 => (if t427 = true then ((sleuthlaw0_Num.f bt401.2).bind fun t428 => (if t428 = 0 then (if bt408.1 = 2 then ((sleuthlaw0_Num.f bt408.2).bind fun t429 => (if t429 = 0 then (if bt413.1 = 5 then ((sleuthlaw0_Num.f bt413.2).bind fun t430 => (if t430 = 0 then ((sleuthlaw0_Num.f bt418.2).bind fun t431 => (if t431 = 1300 then ((sleuthlaw0_Num.f bt422.2).bind fun t432 => (some (t432 == 1300))) else (some false))) else (some false))) else (some false)) else (some false))) else (some false)) else (some false))) else (some false))))))))))) = some true := H
  have A1 := Aside0.mk A10
  clear A10
  replace H := Option.bind_eq_some_iff.mp H
  obtain ⟨⟨t401, t402⟩, A20, H⟩ := H
  replace H : ((sleuthlaw13_some.f).bind fun t405 => ((tree_Size.f t405 1).bind fun bt408 => ((sleuthlaw13_some.f).bind fun t410 => ((tree_Size.f t410 0).bind fun bt413 => ((sleuthlaw13_some.f).bind fun t415 => ((tree_Kids.f t415 5).bind fun bt418 => ((tree_Size.f ([] : List (S24)) 0).bind fun bt422 => ((sleuthlaw0_SameInts.f k t401 (([1, 2] : List Int))).bind fun t427 => (if t427 = true then ((sleuthlaw0_Num.f t402).bind fun t428 => (if t428 = 0 then (if bt408.1 = 2 then ((sleuthlaw0_Num.f bt408.2).bind fun t429 => (if t429 = 0 then (if bt413.1 = 5 then ((sleuthlaw0_Num.f bt413.2).bind fun t430 => (if t430 = 0 then ((sleuthlaw0_Num.f bt418.2).bind fun t431 => (if t431 = 1300 then ((sleuthlaw0_Num.f bt422.2).bind fun t432 => (some (t432 == 1300))) else (some false))) else (some false))) else (some false)) else (some false))) else (some false)) else (some false))) else (some false)))))))))) = some true := H
  have A2 := Aside0.mk A20
  clear A20
  replace H := Option.bind_eq_some_iff.mp H
  obtain ⟨t405, A30, H⟩ := H
  replace H : ((tree_Size.f t405 1).bind fun bt408 => ((sleuthlaw13_some.f).bind fun t410 => ((tree_Size.f t410 0).bind fun bt413 => ((sleuthlaw13_some.f).bind fun t415 => ((tree_Kids.f t415 5).bind fun bt418 => ((tree_Size.f ([] : List (S24)) 0).bind fun bt422 => ((sleuthlaw0_SameInts.f k t401 (([1, 2] : List Int))).bind fun t427 => (if t427 = true then ((sleuthlaw0_Num.f t402).bind fun t428 => (if t428 = 0 then (if bt408.1 = 2 then ((sleuthlaw0_Num.f bt408.2).bind fun t429 => (if t429 = 0 then (if bt413.1 = 5 then ((sleuthlaw0_Num.f bt413.2).bind fun t430 => (if t430 = 0 then ((sleuthlaw0_Num.f bt418.2).bind fun t431 => (if t431 = 1300 then ((sleuthlaw0_Num.f bt422.2).bind fun t432 => (some (t432 == 1300))) else (some false))) else (some false))) else (some false)) else (some false))) else (some false)) else (some false))) else (some false))))))))) = some true := H
  have A3 := Aside0.mk A30
  clear A30
  replace H := Option.bind_eq_some_iff.mp H
  obtain ⟨⟨t408, t409⟩, A40, H⟩ := H
  replace H : ((sleuthlaw13_some.f).bind fun t410 => ((tree_Size.f t410 0).bind fun bt413 => ((sleuthlaw13_some.f).bind fun t415 => ((tree_Kids.f t415 5).bind fun bt418 => ((tree_Size.f ([] : List (S24)) 0).bind fun bt422 => ((sleuthlaw0_SameInts.f k t401 (([1, 2] : List Int))).bind fun t427 => (if t427 = true then ((sleuthlaw0_Num.f t402).bind fun t428 => (if t428 = 0 then (if t408 = 2 then ((sleuthlaw0_Num.f t409).bind fun t429 => (if t429 = 0 then (if bt413.1 = 5 then ((sleuthlaw0_Num.f bt413.2).bind fun t430 => (if t430 = 0 then ((sleuthlaw0_Num.f bt418.2).bind fun t431 => (if t431 = 1300 then ((sleuthlaw0_Num.f bt422.2).bind fun t432 => (some (t432 == 1300))) else (some false))) else (some false))) else (some false)) else (some false))) else (some false)) else (some false))) else (some false)))))))) = some true := H
  have A4 := Aside0.mk A40
  clear A40
  replace H := Option.bind_eq_some_iff.mp H
  obtain ⟨t410, A50, H⟩ := H
  replace H : ((tree_Size.f t410 0).bind fun bt413 => ((sleuthlaw13_some.f).bind fun t415 => ((tree_Kids.f t415 5).bind fun bt418 => ((tree_Size.f ([] : List (S24)) 0).bind fun bt422 => ((sleuthlaw0_SameInts.f k t401 (([1, 2] : List Int))).bind fun t427 => (if t427 = true then ((sleuthlaw0_Num.f t402).bind fun t428 => (if t428 = 0 then (if t408 = 2 then ((sleuthlaw0_Num.f t409).bind fun t429 => (if t429 = 0 then (if bt413.1 = 5 then ((sleuthlaw0_Num.f bt413.2).bind fun t430 => (if t430 = 0 then ((sleuthlaw0_Num.f bt418.2).bind fun t431 => (if t431 = 1300 then ((sleuthlaw0_Num.f bt422.2).bind fun t432 => (some (t432 == 1300))) else (some false))) else (some false))) else (some false)) else (some false))) else (some false)) else (some false))) else (some false))))))) = some true := H
  have A5 := Aside0.mk A50
  clear A50
  replace H := Option.bind_eq_some_iff.mp H
  obtain ⟨⟨t413, t414⟩, A60, H⟩ := H
  replace H : ((sleuthlaw13_some.f).bind fun t415 => ((tree_Kids.f t415 5).bind fun bt418 => ((tree_Size.f ([] : List (S24)) 0).bind fun bt422 => ((sleuthlaw0_SameInts.f k t401 (([1, 2] : List Int))).bind fun t427 => (if t427 = true then ((sleuthlaw0_Num.f t402).bind fun t428 => (if t428 = 0 then (if t408 = 2 then ((sleuthlaw0_Num.f t409).bind fun t429 => (if t429 = 0 then (if t413 = 5 then ((sleuthlaw0_Num.f t414).bind fun t430 => (if t430 = 0 then ((sleuthlaw0_Num.f bt418.2).bind fun t431 => (if t431 = 1300 then ((sleuthlaw0_Num.f bt422.2).bind fun t432 => (some (t432 == 1300))) else (some false))) else (some false))) else (some false)) else (some false))) else (some false)) else (some false))) else (some false)))))) = some true := H
  have A6 := Aside0.mk A60
  clear A60
  replace H := Option.bind_eq_some_iff.mp H
  obtain ⟨t415, A70, H⟩ := H
  replace H : ((tree_Kids.f t415 5).bind fun bt418 => ((tree_Size.f ([] : List (S24)) 0).bind fun bt422 => ((sleuthlaw0_SameInts.f k t401 (([1, 2] : List Int))).bind fun t427 => (if t427 = true then ((sleuthlaw0_Num.f t402).bind fun t428 => (if t428 = 0 then (if t408 = 2 then ((sleuthlaw0_Num.f t409).bind fun t429 => (if t429 = 0 then (if t413 = 5 then ((sleuthlaw0_Num.f t414).bind fun t430 => (if t430 = 0 then ((sleuthlaw0_Num.f bt418.2).bind fun t431 => (if t431 = 1300 then ((sleuthlaw0_Num.f bt422.2).bind fun t432 => (some (t432 == 1300))) else (some false))) else (some false))) else (some false)) else (some false))) else (some false)) else (some false))) else (some false))))) = some true := H
  have A7 := Aside0.mk A70
  clear A70
  replace H := Option.bind_eq_some_iff.mp H
  obtain ⟨⟨t418, t419⟩, A80, H⟩ := H
  replace H : ((tree_Size.f ([] : List (S24)) 0).bind fun bt422 => ((sleuthlaw0_SameInts.f k t401 (([1, 2] : List Int))).bind fun t427 => (if t427 = true then ((sleuthlaw0_Num.f t402).bind fun t428 => (if t428 = 0 then (if t408 = 2 then ((sleuthlaw0_Num.f t409).bind fun t429 => (if t429 = 0 then (if t413 = 5 then ((sleuthlaw0_Num.f t414).bind fun t430 => (if t430 = 0 then ((sleuthlaw0_Num.f t419).bind fun t431 => (if t431 = 1300 then ((sleuthlaw0_Num.f bt422.2).bind fun t432 => (some (t432 == 1300))) else (some false))) else (some false))) else (some false)) else (some false))) else (some false)) else (some false))) else (some false)))) = some true := H
  have A8 := Aside0.mk A80
  clear A80
  replace H := Option.bind_eq_some_iff.mp H
  obtain ⟨⟨t422, t423⟩, A90, H⟩ := H
  replace H : ((sleuthlaw0_SameInts.f k t401 (([1, 2] : List Int))).bind fun t427 => (if t427 = true then ((sleuthlaw0_Num.f t402).bind fun t428 => (if t428 = 0 then (if t408 = 2 then ((sleuthlaw0_Num.f t409).bind fun t429 => (if t429 = 0 then (if t413 = 5 then ((sleuthlaw0_Num.f t414).bind fun t430 => (if t430 = 0 then ((sleuthlaw0_Num.f t419).bind fun t431 => (if t431 = 1300 then ((sleuthlaw0_Num.f t423).bind fun t432 => (some (t432 == 1300))) else (some false))) else (some false))) else (some false)) else (some false))) else (some false)) else (some false))) else (some false))) = some true := H
  have A9 := Aside0.mk A90
  clear A90
  obtain ⟨y424, hy424⟩ : ∃ y_ : List Int, y_ = (([1, 2] : List Int)) := ⟨_, rfl⟩
  replace H : ((sleuthlaw0_SameInts.f k t401 y424).bind fun t427 => (if t427 = true then ((sleuthlaw0_Num.f t402).bind fun t428 => (if t428 = 0 then (if t408 = 2 then ((sleuthlaw0_Num.f t409).bind fun t429 => (if t429 = 0 then (if t413 = 5 then ((sleuthlaw0_Num.f t414).bind fun t430 => (if t430 = 0 then ((sleuthlaw0_Num.f t419).bind fun t431 => (if t431 = 1300 then ((sleuthlaw0_Num.f t423).bind fun t432 => (some (t432 == 1300))) else (some false))) else (some false))) else (some false)) else (some false))) else (some false)) else (some false))) else (some false))) = some true := by first | (rw [hy424]; with_reducible exact H) | (have H2_ := (Option.bind_some _ _).symm.trans H; rw [hy424]; with_reducible exact H2_) | (have H2_ := (Option.bind_some _ _).symm.trans H; with_reducible exact H2_) | with_reducible exact H | (rw [hy424]; exact H) | exact H
  have Ny424 := Aside0.mk hy424
  clear hy424
  replace H := Option.bind_eq_some_iff.mp H
  obtain ⟨t427, A100, H⟩ := H
  replace H : (if t427 = true then ((sleuthlaw0_Num.f t402).bind fun t428 => (if t428 = 0 then (if t408 = 2 then ((sleuthlaw0_Num.f t409).bind fun t429 => (if t429 = 0 then (if t413 = 5 then ((sleuthlaw0_Num.f t414).bind fun t430 => (if t430 = 0 then ((sleuthlaw0_Num.f t419).bind fun t431 => (if t431 = 1300 then ((sleuthlaw0_Num.f t423).bind fun t432 => (some (t432 == 1300))) else (some false))) else (some false))) else (some false)) else (some false))) else (some false)) else (some false))) else (some false)) = some true := H
  have A10 := Aside0.mk A100
  clear A100
  by_cases c11 : t427 = true
  · subst c11
    have H1 : ((sleuthlaw0_Num.f t402).bind fun t428 => (if t428 = 0 then (if t408 = 2 then ((sleuthlaw0_Num.f t409).bind fun t429 => (if t429 = 0 then (if t413 = 5 then ((sleuthlaw0_Num.f t414).bind fun t430 => (if t430 = 0 then ((sleuthlaw0_Num.f t419).bind fun t431 => (if t431 = 1300 then ((sleuthlaw0_Num.f t423).bind fun t432 => (some (t432 == 1300))) else (some false))) else (some false))) else (some false)) else (some false))) else (some false)) else (some false))) = some true := by rw [if_pos rfl] at H; exact H
    clear H
    have H := H1
    clear H1
    replace H := Option.bind_eq_some_iff.mp H
    obtain ⟨t428, A120, H⟩ := H
    replace H : (if t428 = 0 then (if t408 = 2 then ((sleuthlaw0_Num.f t409).bind fun t429 => (if t429 = 0 then (if t413 = 5 then ((sleuthlaw0_Num.f t414).bind fun t430 => (if t430 = 0 then ((sleuthlaw0_Num.f t419).bind fun t431 => (if t431 = 1300 then ((sleuthlaw0_Num.f t423).bind fun t432 => (some (t432 == 1300))) else (some false))) else (some false))) else (some false)) else (some false))) else (some false)) else (some false)) = some true := H
    have A12 := Aside0.mk A120
    clear A120
    by_cases c13 : t428 = 0
    · rw [if_pos c13] at H
      have c13b0 : (t428 == 0) = true := beq_iff_eq.mpr c13
      have c13b1 : (t428 != 0) = false := bne_eq_false_iff_eq.mpr c13
      clear c13
      by_cases c14 : t408 = 2
      · rw [if_pos c14] at H
        have c14b0 : (t408 == 2) = true := beq_iff_eq.mpr c14
        have c14b1 : (t408 != 2) = false := bne_eq_false_iff_eq.mpr c14
        clear c14
        replace H := Option.bind_eq_some_iff.mp H
        obtain ⟨t429, A150, H⟩ := H
        replace H : (if t429 = 0 then (if t413 = 5 then ((sleuthlaw0_Num.f t414).bind fun t430 => (if t430 = 0 then ((sleuthlaw0_Num.f t419).bind fun t431 => (if t431 = 1300 then ((sleuthlaw0_Num.f t423).bind fun t432 => (some (t432 == 1300))) else (some false))) else (some false))) else (some false)) else (some false)) = some true := H
        have A15 := Aside0.mk A150
        clear A150
        by_cases c16 : t429 = 0
        · rw [if_pos c16] at H
          have c16b0 : (t429 == 0) = true := beq_iff_eq.mpr c16
          have c16b1 : (t429 != 0) = false := bne_eq_false_iff_eq.mpr c16
          clear c16
          by_cases c17 : t413 = 5
          · rw [if_pos c17] at H
            have c17b0 : (t413 == 5) = true := beq_iff_eq.mpr c17
            have c17b1 : (t413 != 5) = false := bne_eq_false_iff_eq.mpr c17
            clear c17
            replace H := Option.bind_eq_some_iff.mp H
            obtain ⟨t430, A180, H⟩ := H
            replace H : (if t430 = 0 then ((sleuthlaw0_Num.f t419).bind fun t431 => (if t431 = 1300 then ((sleuthlaw0_Num.f t423).bind fun t432 => (some (t432 == 1300))) else (some false))) else (some false)) = some true := H
            have A18 := Aside0.mk A180
            clear A180
            by_cases c19 : t430 = 0
            · rw [if_pos c19] at H
              have c19b0 : (t430 == 0) = true := beq_iff_eq.mpr c19
              have c19b1 : (t430 != 0) = false := bne_eq_false_iff_eq.mpr c19
              clear c19
              replace H := Option.bind_eq_some_iff.mp H
              obtain ⟨t431, A200, H⟩ := H
              replace H : (if t431 = 1300 then ((sleuthlaw0_Num.f t423).bind fun t432 => (some (t432 == 1300))) else (some false)) = some true := H
              have A20 := Aside0.mk A200
              clear A200
              by_cases c21 : t431 = 1300
              · rw [if_pos c21] at H
                have c21b0 : (t431 == 1300) = true := beq_iff_eq.mpr c21
                have c21b1 : (t431 != 1300) = false := bne_eq_false_iff_eq.mpr c21
                clear c21
                replace H := Option.bind_eq_some_iff.mp H
                obtain ⟨t432, A220, H⟩ := H
                replace H : (some (t432 == 1300)) = some true := H
                have A22 := Aside0.mk A220
                clear A220
                have HR_ := Option.some.inj H
                clear H
                go_enter Tryd.func24, Tryd.ntmps24
                go_wp2_with (first | ((with_reducible refine gate_callee (f := 28) rfl ?_); refine goesL_ (some 12) rfl rfl Tryd.func28 (by kernel_rfl) rfl #[] rfl (by (try simp only [List.map_toArray, List.map_cons, List.map_nil]); first | done | rfl | (simp only [List.length_drop, List.length_take]; rfl)) ?_; (with_reducible refine (sleuthlaw13_some.calls  t398 _ A1.out).mono ?_); rintro e w23 ⟨v399, rfl, ho0, hb⟩; refine ⟨_, rfl, ?_⟩; have n0_ := Aside0.mk (Kd.N_lower (Kd.N_mono (ok' := fun k_ => True) ho0 (fun k_ hk_ => trivial)) (below_size (by repeat (first | (with_reducible first | exact HB.out | apply below_alloc | apply pw_below_drewN | apply below_drew1) | exact HB.out)))); have n1_ := Aside0.mk (below_step (by repeat (first | (with_reducible first | exact HB.out | apply below_alloc | apply pw_below_drewN | apply below_drew1) | exact HB.out)) hb); clear HB; have HO400 := n0_; have HB := n1_; clear n0_ n1_; (try clear hb); (try clear hb2); (try clear hk); (try clear hi); (try clear ho0); obtain ⟨Ao24, co24, eo24⟩ := Kd.N_slice HO400.out; subst eo24) | ((with_reducible refine gate_callee (f := 26) rfl ?_); refine goesL_ (some 13) rfl rfl Tryd.func26 (by kernel_rfl) rfl #[.slice Ao24 t398.length co24, .int .i64 0] rfl (by (try simp only [List.map_toArray, List.map_cons, List.map_nil]); first | done | rfl | (simp only [List.length_drop, List.length_take]; rfl)) ?_; (with_reducible refine (tree_Kids.calls _ _ t398 0 t401 t402 _ ?side1 ?side2 ?side3 A2.out).mono ?_); (case side1 => repeat (first | exact (Kd.N_reads' HO400.out).2.2 | (with_reducible refine Kd.C_alloc ?_ _) | (with_reducible refine Kd.C_drewN ?_ _) | (with_reducible refine Kd.C_drew ?_))); (case side2 => exact (Kd.N_reads' HO400.out).2.1); (case side3 => exact Laid.below HLaid.out (by repeat (first | (with_reducible first | exact HB.out | apply below_alloc | apply pw_below_drewN | apply below_drew1) | exact HB.out))); rintro e w25 ⟨v403, rfl, ho0, hb⟩; refine ⟨_, rfl, ?_⟩; have n0_ := Aside0.mk (Kd.N_elder' (by (with_reducible repeat (first | apply Kd.N_alloc | apply Kd.N_drewN | apply Kd.N_drew)); exact HO400.out) (Kd.R_base ho0) hb); have n1_ := Aside0.mk (Kd.R_lower ho0 (below_size (by repeat (first | (with_reducible first | exact HB.out | apply below_alloc | apply pw_below_drewN | apply below_drew1) | exact HB.out)))); have n2_ := Aside0.mk (below_step (by repeat (first | (with_reducible first | exact HB.out | apply below_alloc | apply pw_below_drewN | apply below_drew1) | exact HB.out)) hb); clear HO400; clear HB; have HO400 := n0_; have HO404 := n1_; have HB := n2_; clear n0_ n1_ n2_; (try clear hb); (try clear hb2); (try clear hk); (try clear hi); (try clear ho0)) | ((with_reducible refine gate_callee (f := 28) rfl ?_); refine goesL_ (some 17) rfl rfl Tryd.func28 (by kernel_rfl) rfl #[] rfl (by (try simp only [List.map_toArray, List.map_cons, List.map_nil]); first | done | rfl | (simp only [List.length_drop, List.length_take]; rfl)) ?_; (with_reducible refine (sleuthlaw13_some.calls  t405 _ A3.out).mono ?_); rintro e w26 ⟨v406, rfl, ho0, hb⟩; refine ⟨_, rfl, ?_⟩; have n0_ := Aside0.mk (Kd.N_elder' (by (with_reducible repeat (first | apply Kd.N_alloc | apply Kd.N_drewN | apply Kd.N_drew)); exact HO400.out) (Kd.N_base ho0) hb); have n1_ := Aside0.mk (Kd.R_below (by (with_reducible repeat (first | apply Kd.R_alloc | apply Kd.R_drewN | apply Kd.R_drew)); exact HO404.out) hb); have n2_ := Aside0.mk (Kd.N_lower (Kd.N_mono (ok' := fun k_ => some k_ ≠ (.slice Ao24 t398.length co24 : Value).ownBlock ∧ some k_ ≠ (v403 : Value).ownBlock) ho0 (fun k_ hk_ => ⟨(Kd.fresh' (Kd.N_lt (by (with_reducible repeat (first | apply Kd.N_alloc | apply Kd.N_drewN | apply Kd.N_drew)); exact HO400.out)) k_ hk_), (Kd.fresh' (Kd.R_lt (by (with_reducible repeat (first | apply Kd.R_alloc | apply Kd.R_drewN | apply Kd.R_drew)); exact HO404.out)) k_ hk_)⟩)) (below_size (by repeat (first | (with_reducible first | exact HB.out | apply below_alloc | apply pw_below_drewN | apply below_drew1) | exact HB.out)))); have n3_ := Aside0.mk (below_step (by repeat (first | (with_reducible first | exact HB.out | apply below_alloc | apply pw_below_drewN | apply below_drew1) | exact HB.out)) hb); clear HO400; clear HO404; clear HB; have HO400 := n0_; have HO404 := n1_; have HO407 := n2_; have HB := n3_; clear n0_ n1_ n2_ n3_; (try clear hb); (try clear hb2); (try clear hk); (try clear hi); (try clear ho0); obtain ⟨Ao27, co27, eo27⟩ := Kd.N_slice HO407.out; subst eo27) | ((with_reducible refine gate_callee (f := 25) rfl ?_); refine goesL_ (some 18) rfl rfl Tryd.func25 (by kernel_rfl) rfl #[.slice Ao27 t405.length co27, .int .i64 1] rfl (by (try simp only [List.map_toArray, List.map_cons, List.map_nil]); first | done | rfl | (simp only [List.length_drop, List.length_take]; rfl)) ?_; (with_reducible refine (tree_Size.calls _ _ t405 1 t408 t409 _ ?side1 ?side2 ?side3 A4.out).mono ?_); (case side1 => repeat (first | exact (Kd.N_reads' HO407.out).2.2 | (with_reducible refine Kd.C_alloc ?_ _) | (with_reducible refine Kd.C_drewN ?_ _) | (with_reducible refine Kd.C_drew ?_))); (case side2 => exact (Kd.N_reads' HO407.out).2.1); (case side3 => exact Laid.below HLaid.out (by repeat (first | (with_reducible first | exact HB.out | apply below_alloc | apply pw_below_drewN | apply below_drew1) | exact HB.out))); rintro e w28 ⟨rfl, hb⟩; refine ⟨_, rfl, ?_⟩; have n0_ := Aside0.mk (Kd.N_below (by (with_reducible repeat (first | apply Kd.N_alloc | apply Kd.N_drewN | apply Kd.N_drew)); exact HO400.out) hb); have n1_ := Aside0.mk (Kd.R_below (by (with_reducible repeat (first | apply Kd.R_alloc | apply Kd.R_drewN | apply Kd.R_drew)); exact HO404.out) hb); have n2_ := Aside0.mk (Kd.N_below (by (with_reducible repeat (first | apply Kd.N_alloc | apply Kd.N_drewN | apply Kd.N_drew)); exact HO407.out) hb); have n3_ := Aside0.mk (below_step (by repeat (first | (with_reducible first | exact HB.out | apply below_alloc | apply pw_below_drewN | apply below_drew1) | exact HB.out)) hb); clear HO400; clear HO404; clear HO407; clear HB; have HO400 := n0_; have HO404 := n1_; have HO407 := n2_; have HB := n3_; clear n0_ n1_ n2_ n3_; (try clear hb); (try clear hb2); (try clear hk); (try clear hi)) | ((with_reducible refine gate_callee (f := 28) rfl ?_); refine goesL_ (some 22) rfl rfl Tryd.func28 (by kernel_rfl) rfl #[] rfl (by (try simp only [List.map_toArray, List.map_cons, List.map_nil]); first | done | rfl | (simp only [List.length_drop, List.length_take]; rfl)) ?_; (with_reducible refine (sleuthlaw13_some.calls  t410 _ A5.out).mono ?_); rintro e w29 ⟨v411, rfl, ho0, hb⟩; refine ⟨_, rfl, ?_⟩; have n0_ := Aside0.mk (Kd.N_elder' (by (with_reducible repeat (first | apply Kd.N_alloc | apply Kd.N_drewN | apply Kd.N_drew)); exact HO400.out) (Kd.N_base ho0) hb); have n1_ := Aside0.mk (Kd.R_below (by (with_reducible repeat (first | apply Kd.R_alloc | apply Kd.R_drewN | apply Kd.R_drew)); exact HO404.out) hb); have n2_ := Aside0.mk (Kd.N_elder' (by (with_reducible repeat (first | apply Kd.N_alloc | apply Kd.N_drewN | apply Kd.N_drew)); exact HO407.out) (Kd.N_base ho0) hb); have n3_ := Aside0.mk (Kd.N_lower (Kd.N_mono (ok' := fun k_ => some k_ ≠ (.slice Ao24 t398.length co24 : Value).ownBlock ∧ some k_ ≠ (v403 : Value).ownBlock ∧ some k_ ≠ (.slice Ao27 t405.length co27 : Value).ownBlock) ho0 (fun k_ hk_ => ⟨(Kd.fresh' (Kd.N_lt (by (with_reducible repeat (first | apply Kd.N_alloc | apply Kd.N_drewN | apply Kd.N_drew)); exact HO400.out)) k_ hk_), (Kd.fresh' (Kd.R_lt (by (with_reducible repeat (first | apply Kd.R_alloc | apply Kd.R_drewN | apply Kd.R_drew)); exact HO404.out)) k_ hk_), (Kd.fresh' (Kd.N_lt (by (with_reducible repeat (first | apply Kd.N_alloc | apply Kd.N_drewN | apply Kd.N_drew)); exact HO407.out)) k_ hk_)⟩)) (below_size (by repeat (first | (with_reducible first | exact HB.out | apply below_alloc | apply pw_below_drewN | apply below_drew1) | exact HB.out)))); have n4_ := Aside0.mk (below_step (by repeat (first | (with_reducible first | exact HB.out | apply below_alloc | apply pw_below_drewN | apply below_drew1) | exact HB.out)) hb); clear HO400; clear HO404; clear HO407; clear HB; have HO400 := n0_; have HO404 := n1_; have HO407 := n2_; have HO412 := n3_; have HB := n4_; clear n0_ n1_ n2_ n3_ n4_; (try clear hb); (try clear hb2); (try clear hk); (try clear hi); (try clear ho0); obtain ⟨Ao30, co30, eo30⟩ := Kd.N_slice HO412.out; subst eo30) | ((with_reducible refine gate_callee (f := 25) rfl ?_); refine goesL_ (some 23) rfl rfl Tryd.func25 (by kernel_rfl) rfl #[.slice Ao30 t410.length co30, .int .i64 0] rfl (by (try simp only [List.map_toArray, List.map_cons, List.map_nil]); first | done | rfl | (simp only [List.length_drop, List.length_take]; rfl)) ?_; (with_reducible refine (tree_Size.calls _ _ t410 0 t413 t414 _ ?side1 ?side2 ?side3 A6.out).mono ?_); (case side1 => repeat (first | exact (Kd.N_reads' HO412.out).2.2 | (with_reducible refine Kd.C_alloc ?_ _) | (with_reducible refine Kd.C_drewN ?_ _) | (with_reducible refine Kd.C_drew ?_))); (case side2 => exact (Kd.N_reads' HO412.out).2.1); (case side3 => exact Laid.below HLaid.out (by repeat (first | (with_reducible first | exact HB.out | apply below_alloc | apply pw_below_drewN | apply below_drew1) | exact HB.out))); rintro e w31 ⟨rfl, hb⟩; refine ⟨_, rfl, ?_⟩; have n0_ := Aside0.mk (Kd.N_below (by (with_reducible repeat (first | apply Kd.N_alloc | apply Kd.N_drewN | apply Kd.N_drew)); exact HO400.out) hb); have n1_ := Aside0.mk (Kd.R_below (by (with_reducible repeat (first | apply Kd.R_alloc | apply Kd.R_drewN | apply Kd.R_drew)); exact HO404.out) hb); have n2_ := Aside0.mk (Kd.N_below (by (with_reducible repeat (first | apply Kd.N_alloc | apply Kd.N_drewN | apply Kd.N_drew)); exact HO407.out) hb); have n3_ := Aside0.mk (Kd.N_below (by (with_reducible repeat (first | apply Kd.N_alloc | apply Kd.N_drewN | apply Kd.N_drew)); exact HO412.out) hb); have n4_ := Aside0.mk (below_step (by repeat (first | (with_reducible first | exact HB.out | apply below_alloc | apply pw_below_drewN | apply below_drew1) | exact HB.out)) hb); clear HO400; clear HO404; clear HO407; clear HO412; clear HB; have HO400 := n0_; have HO404 := n1_; have HO407 := n2_; have HO412 := n3_; have HB := n4_; clear n0_ n1_ n2_ n3_ n4_; (try clear hb); (try clear hb2); (try clear hk); (try clear hi)) | ((with_reducible refine gate_callee (f := 28) rfl ?_); refine goesL_ (some 27) rfl rfl Tryd.func28 (by kernel_rfl) rfl #[] rfl (by (try simp only [List.map_toArray, List.map_cons, List.map_nil]); first | done | rfl | (simp only [List.length_drop, List.length_take]; rfl)) ?_; (with_reducible refine (sleuthlaw13_some.calls  t415 _ A7.out).mono ?_); rintro e w32 ⟨v416, rfl, ho0, hb⟩; refine ⟨_, rfl, ?_⟩; have n0_ := Aside0.mk (Kd.N_elder' (by (with_reducible repeat (first | apply Kd.N_alloc | apply Kd.N_drewN | apply Kd.N_drew)); exact HO400.out) (Kd.N_base ho0) hb); have n1_ := Aside0.mk (Kd.R_below (by (with_reducible repeat (first | apply Kd.R_alloc | apply Kd.R_drewN | apply Kd.R_drew)); exact HO404.out) hb); have n2_ := Aside0.mk (Kd.N_elder' (by (with_reducible repeat (first | apply Kd.N_alloc | apply Kd.N_drewN | apply Kd.N_drew)); exact HO407.out) (Kd.N_base ho0) hb); have n3_ := Aside0.mk (Kd.N_elder' (by (with_reducible repeat (first | apply Kd.N_alloc | apply Kd.N_drewN | apply Kd.N_drew)); exact HO412.out) (Kd.N_base ho0) hb); have n4_ := Aside0.mk (Kd.N_lower (Kd.N_mono (ok' := fun k_ => some k_ ≠ (.slice Ao24 t398.length co24 : Value).ownBlock ∧ some k_ ≠ (v403 : Value).ownBlock ∧ some k_ ≠ (.slice Ao27 t405.length co27 : Value).ownBlock ∧ some k_ ≠ (.slice Ao30 t410.length co30 : Value).ownBlock) ho0 (fun k_ hk_ => ⟨(Kd.fresh' (Kd.N_lt (by (with_reducible repeat (first | apply Kd.N_alloc | apply Kd.N_drewN | apply Kd.N_drew)); exact HO400.out)) k_ hk_), (Kd.fresh' (Kd.R_lt (by (with_reducible repeat (first | apply Kd.R_alloc | apply Kd.R_drewN | apply Kd.R_drew)); exact HO404.out)) k_ hk_), (Kd.fresh' (Kd.N_lt (by (with_reducible repeat (first | apply Kd.N_alloc | apply Kd.N_drewN | apply Kd.N_drew)); exact HO407.out)) k_ hk_), (Kd.fresh' (Kd.N_lt (by (with_reducible repeat (first | apply Kd.N_alloc | apply Kd.N_drewN | apply Kd.N_drew)); exact HO412.out)) k_ hk_)⟩)) (below_size (by repeat (first | (with_reducible first | exact HB.out | apply below_alloc | apply pw_below_drewN | apply below_drew1) | exact HB.out)))); have n5_ := Aside0.mk (below_step (by repeat (first | (with_reducible first | exact HB.out | apply below_alloc | apply pw_below_drewN | apply below_drew1) | exact HB.out)) hb); clear HO400; clear HO404; clear HO407; clear HO412; clear HB; have HO400 := n0_; have HO404 := n1_; have HO407 := n2_; have HO412 := n3_; have HO417 := n4_; have HB := n5_; clear n0_ n1_ n2_ n3_ n4_ n5_; (try clear hb); (try clear hb2); (try clear hk); (try clear hi); (try clear ho0); obtain ⟨Ao33, co33, eo33⟩ := Kd.N_slice HO417.out; subst eo33) | ((with_reducible refine gate_callee (f := 26) rfl ?_); refine goesL_ (some 28) rfl rfl Tryd.func26 (by kernel_rfl) rfl #[.slice Ao33 t415.length co33, .int .i64 5] rfl (by (try simp only [List.map_toArray, List.map_cons, List.map_nil]); first | done | rfl | (simp only [List.length_drop, List.length_take]; rfl)) ?_; (with_reducible refine (tree_Kids.calls _ _ t415 5 t418 t419 _ ?side1 ?side2 ?side3 A8.out).mono ?_); (case side1 => repeat (first | exact (Kd.N_reads' HO417.out).2.2 | (with_reducible refine Kd.C_alloc ?_ _) | (with_reducible refine Kd.C_drewN ?_ _) | (with_reducible refine Kd.C_drew ?_))); (case side2 => exact (Kd.N_reads' HO417.out).2.1); (case side3 => exact Laid.below HLaid.out (by repeat (first | (with_reducible first | exact HB.out | apply below_alloc | apply pw_below_drewN | apply below_drew1) | exact HB.out))); rintro e w34 ⟨v420, rfl, ho0, hb⟩; refine ⟨_, rfl, ?_⟩; have n0_ := Aside0.mk (Kd.N_elder' (by (with_reducible repeat (first | apply Kd.N_alloc | apply Kd.N_drewN | apply Kd.N_drew)); exact HO400.out) (Kd.R_base ho0) hb); have n1_ := Aside0.mk (Kd.R_elder' (by (with_reducible repeat (first | apply Kd.R_alloc | apply Kd.R_drewN | apply Kd.R_drew)); exact HO404.out) (Kd.R_base ho0) hb); have n2_ := Aside0.mk (Kd.N_elder' (by (with_reducible repeat (first | apply Kd.N_alloc | apply Kd.N_drewN | apply Kd.N_drew)); exact HO407.out) (Kd.R_base ho0) hb); have n3_ := Aside0.mk (Kd.N_elder' (by (with_reducible repeat (first | apply Kd.N_alloc | apply Kd.N_drewN | apply Kd.N_drew)); exact HO412.out) (Kd.R_base ho0) hb); have n4_ := Aside0.mk (Kd.N_elder' (by (with_reducible repeat (first | apply Kd.N_alloc | apply Kd.N_drewN | apply Kd.N_drew)); exact HO417.out) (Kd.R_base ho0) hb); have n5_ := Aside0.mk (Kd.R_lower (Kd.R_new' ho0 (Kd.R_lt (by (with_reducible repeat (first | apply Kd.R_alloc | apply Kd.R_drewN | apply Kd.R_drew)); exact HO404.out))) (below_size (by repeat (first | (with_reducible first | exact HB.out | apply below_alloc | apply pw_below_drewN | apply below_drew1) | exact HB.out)))); have n6_ := Aside0.mk (below_step (by repeat (first | (with_reducible first | exact HB.out | apply below_alloc | apply pw_below_drewN | apply below_drew1) | exact HB.out)) hb); clear HO400; clear HO404; clear HO407; clear HO412; clear HO417; clear HB; have HO400 := n0_; have HO404 := n1_; have HO407 := n2_; have HO412 := n3_; have HO417 := n4_; have HO421 := n5_; have HB := n6_; clear n0_ n1_ n2_ n3_ n4_ n5_ n6_; (try clear hb); (try clear hb2); (try clear hk); (try clear hi); (try clear ho0)) | ((with_reducible refine gate_callee (f := 25) rfl ?_); refine goesL_ (some 32) rfl rfl Tryd.func25 (by kernel_rfl) rfl #[.slice none 0 0, .int .i64 0] rfl (by (try simp only [List.map_toArray, List.map_cons, List.map_nil]); first | done | rfl | (simp only [List.length_drop, List.length_take]; rfl)) ?_; (refine (tree_Size.calls _ _ ([] : List (S24)) 0 t422 t423 _ ?side1 ?side2 ?side3 A9.out).mono ?_); (case side1 => exact Kd.C_nil _ _); (case side2 => exact Nat.le_refl _); (case side3 => exact Laid.below HLaid.out (by repeat (first | (with_reducible first | exact HB.out | apply below_alloc | apply pw_below_drewN | apply below_drew1) | exact HB.out))); rintro e w35 ⟨rfl, hb⟩; refine ⟨_, rfl, ?_⟩; have n0_ := Aside0.mk (Kd.N_below (by (with_reducible repeat (first | apply Kd.N_alloc | apply Kd.N_drewN | apply Kd.N_drew)); exact HO400.out) hb); have n1_ := Aside0.mk (Kd.R_below (by (with_reducible repeat (first | apply Kd.R_alloc | apply Kd.R_drewN | apply Kd.R_drew)); exact HO404.out) hb); have n2_ := Aside0.mk (Kd.N_below (by (with_reducible repeat (first | apply Kd.N_alloc | apply Kd.N_drewN | apply Kd.N_drew)); exact HO407.out) hb); have n3_ := Aside0.mk (Kd.N_below (by (with_reducible repeat (first | apply Kd.N_alloc | apply Kd.N_drewN | apply Kd.N_drew)); exact HO412.out) hb); have n4_ := Aside0.mk (Kd.N_below (by (with_reducible repeat (first | apply Kd.N_alloc | apply Kd.N_drewN | apply Kd.N_drew)); exact HO417.out) hb); have n5_ := Aside0.mk (Kd.R_below (by (with_reducible repeat (first | apply Kd.R_alloc | apply Kd.R_drewN | apply Kd.R_drew)); exact HO421.out) hb); have n6_ := Aside0.mk (below_step (by repeat (first | (with_reducible first | exact HB.out | apply below_alloc | apply pw_below_drewN | apply below_drew1) | exact HB.out)) hb); clear HO400; clear HO404; clear HO407; clear HO412; clear HO417; clear HO421; clear HB; have HO400 := n0_; have HO404 := n1_; have HO407 := n2_; have HO412 := n3_; have HO417 := n4_; have HO421 := n5_; have HB := n6_; clear n0_ n1_ n2_ n3_ n4_ n5_ n6_; (try clear hb); (try clear hb2); (try clear hk); (try clear hi)) | ((with_reducible refine gate_dst (N := 36) rfl ?_); refine Kd.R_lit (Kd.int .i64) _ 3 ?hg (N := 36) ?hd (xs := ([1, 2] : List Int)) (inner := [.int .i64 1, .int .i64 2]) (ok := fun _ => True) (okp := fun _ => True) ?hr ?hp (fun _ hk => hk) trivial (Below.refl _ _) (Nat.le_refl _) (by simp) ?_; (case hd => rfl); (case hg => rfl); (case hr => first | (go_simp; done) | (go_simp; rfl)); (case hp => exact (Reps.one (show Kd.M (Kd.int .i64) _ _ _ 1 [.int .i64 1] from rfl) (Reps.one (show Kd.M (Kd.int .i64) _ _ _ 2 [.int .i64 2] from rfl) (Reps.none _ _)))); intro v425 w36 ho37 hb hg_ hnew_; clear hg_ hnew_; (first | rw [← Ny424.out] at ho37 | (simp only [Int.reduceToNat] at ho37; rw [← Ny424.out] at ho37)); have n0_ := Aside0.mk (Kd.N_elder' (by (with_reducible repeat (first | apply Kd.N_alloc | apply Kd.N_drewN | apply Kd.N_drew)); exact HO400.out) (Kd.R_base ho37) hb); have n1_ := Aside0.mk (Kd.R_elder' (by (with_reducible repeat (first | apply Kd.R_alloc | apply Kd.R_drewN | apply Kd.R_drew)); exact HO404.out) (Kd.R_base ho37) hb); have n2_ := Aside0.mk (Kd.N_elder' (by (with_reducible repeat (first | apply Kd.N_alloc | apply Kd.N_drewN | apply Kd.N_drew)); exact HO407.out) (Kd.R_base ho37) hb); have n3_ := Aside0.mk (Kd.N_elder' (by (with_reducible repeat (first | apply Kd.N_alloc | apply Kd.N_drewN | apply Kd.N_drew)); exact HO412.out) (Kd.R_base ho37) hb); have n4_ := Aside0.mk (Kd.N_elder' (by (with_reducible repeat (first | apply Kd.N_alloc | apply Kd.N_drewN | apply Kd.N_drew)); exact HO417.out) (Kd.R_base ho37) hb); have n5_ := Aside0.mk (Kd.R_elder' (by (with_reducible repeat (first | apply Kd.R_alloc | apply Kd.R_drewN | apply Kd.R_drew)); exact HO421.out) (Kd.R_base ho37) hb); have n6_ := Aside0.mk (Kd.R_lower (Kd.R_new' (Kd.R_new' ho37 (Kd.R_lt (by (with_reducible repeat (first | apply Kd.R_alloc | apply Kd.R_drewN | apply Kd.R_drew)); exact HO404.out))) (Kd.R_lt (by (with_reducible repeat (first | apply Kd.R_alloc | apply Kd.R_drewN | apply Kd.R_drew)); exact HO421.out))) (below_size (by repeat (first | (with_reducible first | exact HB.out | apply below_alloc | apply pw_below_drewN | apply below_drew1) | exact HB.out)))); have n7_ := Aside0.mk (below_step (by repeat (first | (with_reducible first | exact HB.out | apply below_alloc | apply pw_below_drewN | apply below_drew1) | exact HB.out)) hb); clear HO400; clear HO404; clear HO407; clear HO412; clear HO417; clear HO421; clear HB; have HO400 := n0_; have HO404 := n1_; have HO407 := n2_; have HO412 := n3_; have HO417 := n4_; have HO421 := n5_; have HO426 := n6_; have HB := n7_; clear n0_ n1_ n2_ n3_ n4_ n5_ n6_ n7_; clear hb ho37; obtain ⟨Ao38, co38, eo38⟩ := Kd.R_slice HO404.out; subst eo38; obtain ⟨Ao39, co39, eo39⟩ := Kd.R_slice HO426.out; subst eo39) | ((with_reducible refine gate_callee (f := 51) rfl ?_); refine goesL_ (some 37) rfl rfl Tryd.func51 (by kernel_rfl) rfl #[.slice Ao38 t401.length co38, .slice Ao39 y424.length co39] rfl (by (try simp only [List.map_toArray, List.map_cons, List.map_nil]); first | done | rfl | (simp only [List.length_drop, List.length_take]; rfl)) ?_; (with_reducible refine (sleuthlaw0_SameInts.calls k _ _ t401 _ _ y424 true _ ?side1 ?side2 ?side3 ?side4 A10.out).mono ?_); (case side1 => repeat (first | exact (Kd.R_reads' HO404.out).2.2 | (with_reducible refine Kd.C_alloc ?_ _) | (with_reducible refine Kd.C_drewN ?_ _) | (with_reducible refine Kd.C_drew ?_))); (case side2 => exact (Kd.R_reads' HO404.out).2.1); (case side3 => repeat (first | exact (Kd.R_reads' HO426.out).2.2 | (with_reducible refine Kd.C_alloc ?_ _) | (with_reducible refine Kd.C_drewN ?_ _) | (with_reducible refine Kd.C_drew ?_))); (case side4 => exact (Kd.R_reads' HO426.out).2.1); rintro e w' ⟨rfl, ⟨nd, rfl⟩⟩; refine ⟨_, rfl, ?_⟩) | (go_at_call 19; (with_reducible refine (sleuthlaw0_Num.calls t402 t428 _ A12.out).mono ?_); rintro e w' ⟨rfl, ⟨nd, rfl⟩⟩) | (go_at_call 19; (with_reducible refine (sleuthlaw0_Num.calls t409 t429 _ A15.out).mono ?_); rintro e w' ⟨rfl, ⟨nd, rfl⟩⟩) | (go_at_call 19; (with_reducible refine (sleuthlaw0_Num.calls t414 t430 _ A18.out).mono ?_); rintro e w' ⟨rfl, ⟨nd, rfl⟩⟩) | (go_at_call 19; (with_reducible refine (sleuthlaw0_Num.calls t419 t431 _ A20.out).mono ?_); rintro e w' ⟨rfl, ⟨nd, rfl⟩⟩) | (go_at_call 19; (with_reducible refine (sleuthlaw0_Num.calls t423 t432 _ A22.out).mono ?_); rintro e w' ⟨rfl, ⟨nd, rfl⟩⟩))
                go_ret
                exact ⟨by first | rfl | exact congrArg (fun b_ => Ending.returned (Value.bool b_)) HR_ | (simp [errW_none, errW_some] <;> rfl) | (simp [*, errW_none, errW_some] <;> rfl), by repeat (first | (with_reducible first | exact HB.out | apply below_alloc | apply pw_below_drewN | apply below_drew1) | exact HB.out)⟩
              · rw [if_neg c21] at H
                have c21b0 : (t431 == 1300) = false := beq_eq_false_iff_ne.mpr c21
                have c21b1 : (t431 != 1300) = true := bne_iff_ne.mpr c21
                exact absurd H (by simp)
            · rw [if_neg c19] at H
              have c19b0 : (t430 == 0) = false := beq_eq_false_iff_ne.mpr c19
              have c19b1 : (t430 != 0) = true := bne_iff_ne.mpr c19
              exact absurd H (by simp)
          · rw [if_neg c17] at H
            have c17b0 : (t413 == 5) = false := beq_eq_false_iff_ne.mpr c17
            have c17b1 : (t413 != 5) = true := bne_iff_ne.mpr c17
            exact absurd H (by simp)
        · rw [if_neg c16] at H
          have c16b0 : (t429 == 0) = false := beq_eq_false_iff_ne.mpr c16
          have c16b1 : (t429 != 0) = true := bne_iff_ne.mpr c16
          exact absurd H (by simp)
      · rw [if_neg c14] at H
        have c14b0 : (t408 == 2) = false := beq_eq_false_iff_ne.mpr c14
        have c14b1 : (t408 != 2) = true := bne_iff_ne.mpr c14
        exact absurd H (by simp)
    · rw [if_neg c13] at H
      have c13b0 : (t428 == 0) = false := beq_eq_false_iff_ne.mpr c13
      have c13b1 : (t428 != 0) = true := bne_iff_ne.mpr c13
      exact absurd H (by simp)
  · replace c11 := Bool.eq_false_iff.mpr c11
    subst c11
    have H1 : (some false) = some true := by rw [if_neg (show ¬ (false = true) by decide)] at H; exact H
    clear H
    have H := H1
    clear H1
    exact absurd H (by simp)

end Go.Proofs.YtkbaelhcijibiaaDoor.Px

/-
  TreeSums: what its calls answer, and the walk.
-/
namespace Go.Proofs.YtkbaelhcijibiaaDoor.Px
open Go.RowKit Go.Proofs.YtkbaelhcijibiaaDoorW.PrintWords Go.Proofs.YtkbaelhcijibiaaDoorW.PrintLast Go.Proofs.YtkbaelhcijibiaaDoorW.PrintMore
set_option linter.unusedVariables false
set_option linter.unusedSimpArgs false

theorem num_eq (x : Int) (w : World) : Calls Tryd.prog 19 #[.int .i64 x] w fun e w' => e = .returned (.int .i64 x) ∧ w' = w := by
  go_enter Tryd.func19, Tryd.ntmps19
  go_wp2
  go_ret
  exact ⟨rfl, rfl⟩
theorem there_is (ns : List S24) (a : Int) : tree_there.f ns a = some (trailB ns && (decide (0 ≤ a) && decide (a < (ns.length : Int)))) := by
  unfold tree_there.f
  rw [may_is]
  rfl
theorem size_good {ns : List S24} (h : trailB ns = true) (i : Nat) (hi : i < ns.length) : tree_Size.f ns (i : Int) = some (rd (szs ns) (i : Int), 0) := by
  unfold tree_Size.f
  rw [there_is, h, decide_eq_true (show (0 : Int) ≤ (i : Int) by omega), decide_eq_true (show (i : Int) < (ns.length : Int) by omega)]
  rfl
theorem kids_good {ns : List S24} (h : trailB ns = true) (i : Nat) (hi : i < ns.length) : tree_Kids.f ns (i : Int) = some (asInts (kidsTo ns (i : Int) (i + 1) ns.length), 0) := by
  unfold tree_Kids.f
  rw [there_is, h, decide_eq_true (show (0 : Int) ≤ (i : Int) by omega), decide_eq_true (show (i : Int) < (ns.length : Int) by omega), Int.toNat_natCast]
  rfl
theorem size_bad {ns : List S24} (h : trailB ns = false) (a : Int) : tree_Size.f ns a = some (0, 1300) := by
  unfold tree_Size.f
  rw [there_is, h]
  rfl
theorem kids_bad {ns : List S24} (h : trailB ns = false) (a : Int) : tree_Kids.f ns a = some ([], 1300) := by
  unfold tree_Kids.f
  rw [there_is, h]
  rfl
theorem trail_facts {ns : List S24} (h : trailB ns = true) : 0 < ns.length ∧ ns.length ≤ 512 ∧ (∀ i : Nat, 0 < i → i < ns.length → 0 ≤ (rd_T24 ns (i : Int)).f1 ∧ (rd_T24 ns (i : Int)).f1 < i) := by
  have hm : trail_May.f RR ns = some true := by rw [may_is, h]
  exact ⟨(may_true hm).1, (may_true hm).2.1, fun i h0 hi => next_at hm h0 hi⟩
theorem awake13_true : sleuthlaw13_awake.f RR = some true := by decide +kernel
theorem rd_asInts (l : List Nat) (j : Nat) (h : j < l.length) : rd (asInts l) (j : Int) = (l[j] : Int) := by
  unfold rd asInts
  rw [Int.toNat_natCast, List.getD_eq_getElem?_getD, List.getElem?_map, List.getElem?_eq_getElem h]
  rfl
theorem kidsTo_sorted (ns : List S24) (v : Int) (a b : Nat) : (kidsTo ns v a b).Pairwise (· < ·) := by
  unfold kidsTo
  exact List.Pairwise.filter _ (List.pairwise_lt_range' (s := a) (n := b - a))
theorem sumL_take_succ (f : Nat → Int) (l : List Nat) (j : Nat) (h : j < l.length) : sumL f (l.take (j + 1)) = sumL f (l.take j) + f l[j] := by
  rw [List.take_succ_eq_append_getElem h, sumL_append]
  simp [sumL]
theorem sumL_nonneg (f : Nat → Int) : ∀ l : List Nat, (∀ x ∈ l, 0 ≤ f x) → 0 ≤ sumL f l
  | [], _ => Int.le_refl _
  | x :: l, h => by
    have := sumL_nonneg f l (fun y hy => h y (by simp [hy]))
    have := h x (by simp)
    simp only [sumL]
    omega
theorem sumL_take_le (f : Nat → Int) (l : List Nat) (hp : ∀ x ∈ l, 0 ≤ f x) (j : Nat) : sumL f (l.take j) ≤ sumL f l := by
  have h := sumL_append f (l.take j) (l.drop j)
  rw [List.take_append_drop] at h
  have := sumL_nonneg f (l.drop j) (fun x hx => hp x (List.mem_of_mem_drop hx))
  omega
end Go.Proofs.YtkbaelhcijibiaaDoor.Px

/-
  TreeSums: the walk.
-/
namespace Go.Proofs.YtkbaelhcijibiaaDoor.Px
open Go.RowKit Go.Proofs.YtkbaelhcijibiaaDoorW.PrintWords Go.Proofs.YtkbaelhcijibiaaDoorW.PrintLast Go.Proofs.YtkbaelhcijibiaaDoorW.PrintMore
set_option linter.unusedVariables false
set_option linter.unusedSimpArgs false

/-- Sums of so many kids' sizes, and one. -/
def sumUp (ns : List S24) (K : List Nat) (j : Nat) : Int := 1 + sumL (fun y => rd (szs ns) (y : Int)) (K.take j)
set_option maxHeartbeats 4000000 in
set_option maxRecDepth 100000 in
theorem treeSums_bad (A : Option Addr) (c : Nat) (ns : List S24) (w : World) (hC : Kd.C k24 w A ns.length ns) (hc : ns.length ≤ c) (hL : Laid w) (hB : trailB ns = false) (M : Nat) (hM : ∀ i, i < ns.length → (rd_T24 ns (i : Int)).f2.length ≤ M) (hM2 : M ≤ 9223372036854775807) :
    Calls Tryd.prog 7 #[.slice A ns.length c] w fun e w' => e = .returned (.bool true) ∧ Below w.heap.size w w' := by
  have hmax : ns.length ≤ 9223372036854775807 := hC.2.1
  have HC := Lib.hid hC
  have HCC := Lib.hid hc
  have HL := Lib.hid hL
  have HR := Lib.hid (refmay_is ns M (M + 4721) hM hM2 (Nat.le_refl _))
  have HS := Lib.hid (size_bad hB)
  have HK := Lib.hid (kids_bad hB)
  have HBF := Lib.hid hB
  clear hC hc hL hM hB
  have HB := Lib.hid (Below.refl w.heap.size w)
  go_enter Tryd.func7, Tryd.ntmps7
  go_wp2_with (go_at_call 24; refine (sleuthlaw13_awake.calls RR _ (HL.out.below HB.out) awake13_true).mono ?_; rintro e w1 ⟨rfl, hb⟩; have n0 := Lib.hid (HB.out.trans (hb.mono HB.out.size)); clear HB hb; have HB := n0; clear n0)
  go_loopw [3] (fun i wr => i = .int .i64 0 ∧ Aside0 (Below w.heap.size w wr)) (fun i wr => 0)
  case atStart => exact ⟨rfl, ⟨HB.out⟩⟩
  case round =>
    obtain ⟨rfl, hB⟩ := hrel
    clear HB
    have HB := Lib.hid hB.out
    clear hB
    by_cases h0 : 0 < ns.length
    · go_wp2_with (first
        | (go_at_call 25; refine (tree_Size.calls A c ns 0 0 1300 _ (Kd.C_below HC.out HB.out) HCC.out (HL.out.below HB.out) (HS.out 0)).mono ?_; rintro e w2 ⟨rfl, hb⟩; have n0 := Lib.hid (HB.out.trans (hb.mono HB.out.size)); clear HB hb; have HB := n0; clear n0)
        | (go_at_call 26; refine (tree_Kids.calls A c ns 0 [] 1300 _ (Kd.C_below HC.out HB.out) HCC.out (HL.out.below HB.out) (HK.out 0)).mono ?_; rintro e w3 ⟨v, rfl, hr, hb⟩; have n0 := Lib.hid (HB.out.trans (hb.mono HB.out.size)); clear HB hb hr; have HB := n0; clear n0)
        | (go_at_call 19; refine (num_eq _ _).mono ?_; rintro e w4 ⟨rfl, rfl⟩)
        | (go_at_call 27; refine (sleuthref12_TrailMay.calls (M + 4721) A c ns (trailB ns) _ (Kd.C_below HC.out HB.out) HCC.out HR.out).mono ?_; rintro e w5 ⟨rfl, hb⟩; rw [HBF.out]; have n0 := Lib.hid (HB.out.trans (hb.mono HB.out.size)); clear HB hb; have HB := n0; clear n0))
      go_ret
      exact ⟨rfl, HB.out⟩
    · have h0' : ns.length = 0 := by omega
      go_wp2
      go_ret
      exact ⟨rfl, HB.out⟩

set_option maxHeartbeats 8000000 in
set_option maxRecDepth 100000 in
theorem treeSums_good (A : Option Addr) (c : Nat) (ns : List S24) (w : World) (hC : Kd.C k24 w A ns.length ns) (hc : ns.length ≤ c) (hL : Laid w) (hB : trailB ns = true) :
    Calls Tryd.prog 7 #[.slice A ns.length c] w fun e w' => e = .returned (.bool true) ∧ Below w.heap.size w w' := by
  have hf := trail_facts hB
  have hlaw := szs_law ns hf.2.1 hf.1 hf.2.2
  have hn1 := hf.1
  have hn2 := hf.2.1
  have HC := Lib.hid hC
  have HCC := Lib.hid hc
  have HL := Lib.hid hL
  have HS := Lib.hid (fun i hi => size_good hB i hi)
  have HK := Lib.hid (fun i hi => kids_good hB i hi)
  have HLAW := Lib.hid hlaw
  clear hC hc hL hB hf hlaw
  have HB := Lib.hid (Below.refl w.heap.size w)
  go_enter Tryd.func7, Tryd.ntmps7
  go_wp2_with (go_at_call 24; refine (sleuthlaw13_awake.calls RR _ (HL.out.below HB.out) awake13_true).mono ?_; rintro e w1 ⟨rfl, hb⟩; have n0 := Lib.hid (HB.out.trans (hb.mono HB.out.size)); clear HB hb; have HB := n0; clear n0)
  go_loopw [3] (fun i wr => ∃ k : Nat, k ≤ ns.length ∧ k ≤ 40 ∧ i = .int .i64 k ∧ Aside0 (Below w.heap.size w wr)) (fun i wr => 40 - (intOf i).toNat)
  case atStart => exact ⟨0, Nat.zero_le _, by omega, rfl, ⟨HB.out⟩⟩
  case round =>
    obtain ⟨i, hi, hi40, rfl, hB⟩ := hrel
    clear HB
    have HB := Lib.hid hB.out
    clear hB
    by_cases hlt : i < ns.length
    · by_cases hlt40 : i < 40
      · obtain ⟨K, hKe⟩ : ∃ K, K = kidsTo ns (i : Int) (i + 1) ns.length := ⟨_, rfl⟩
        obtain ⟨Z, hZe⟩ : ∃ Z, Z = rd (szs ns) (i : Int) := ⟨_, rfl⟩
        have hkl := kidsTo_length ns (i : Int) (i + 1) ns.length
        rw [← hKe] at hkl
        have hSi := HS.out i hlt
        rw [← hZe] at hSi
        have hKi := HK.out i hlt
        rw [← hKe] at hKi
        have HSI := Lib.hid hSi
        have HKI := Lib.hid hKi
        have hZs : Z = sumUp ns K K.length := by
          rw [hZe, HLAW.out.1 i hlt, ← hKe]
          unfold sumUp
          rw [List.take_length]
        have HZS := Lib.hid hZs
        have hZ0 : i = 0 → Z = ns.length := by
          rintro rfl
          rw [hZe]
          exact HLAW.out.2.1
        have HZ0 := Lib.hid hZ0
        have HKE := Lib.hid hKe
        clear hSi hKi hZs hZ0 hKe hZe
        have hal : (asInts K).length = K.length := asInts_length K
        have HAL := Lib.hid hal
        have hkl2 : (asInts K).length ≤ 512 := by omega
        clear hal
        go_upto_block 99 with (first
          | (go_at_call 25; (with_reducible refine (tree_Size.calls A c ns (i : Int) Z 0 _ (Kd.C_below HC.out HB.out) HCC.out (HL.out.below HB.out) HSI.out).mono ?_); rintro e w2 ⟨rfl, hb⟩; have n0 := Lib.hid (HB.out.trans (hb.mono HB.out.size)); clear HB hb; have HB := n0; clear n0)
          | (go_at_call 26; refine (tree_Kids.calls A c ns (i : Int) (asInts K) 0 _ (Kd.C_below HC.out HB.out) HCC.out (HL.out.below HB.out) HKI.out).mono ?_; rintro e w3 ⟨v, rfl, hr, hb⟩; obtain ⟨AK, cK, rfl, hlK, hCK⟩ := Kd.R_reads hr; have HCK := Lib.hid hCK; have n0 := Lib.hid (HB.out.trans (hb.mono HB.out.size)); clear HB hb hr hCK; have HB := n0; clear n0)
          | (go_at_call 19; refine (num_eq _ _).mono ?_; rintro e w4 ⟨rfl, rfl⟩))
        go_loopw [8, 9] (fun s m wr2 => ∃ (j : Nat) (z : Int), j ≤ K.length ∧ m = .int .i64 j ∧ s = .int .i64 z ∧ Aside0 (z = sumUp ns K j) ∧ (0 ≤ z ∧ z ≤ 600) ∧ Aside0 (Below w.heap.size w wr2) ∧ Aside0 (Kd.C (Kd.int .i64) wr2 AK (asInts K).length (asInts K))) (fun s m wr2 => K.length - (intOf m).toNat)
        case atStart => exact ⟨0, 1, Nat.zero_le _, rfl, rfl, ⟨by unfold sumUp; simp [sumL]⟩, by omega, ⟨HB.out⟩, ⟨HCK.out⟩⟩
        case round =>
          obtain ⟨j, z, hj, rfl, rfl, hz, hzb, hB2, hCK2⟩ := hrel
          clear HB HCK
          have HB := Lib.hid hB2.out
          have HCK := Lib.hid hCK2.out
          clear hB2 hCK2
          have hzb0 := hzb.1
          have hzb1 := hzb.2
          clear hzb
          by_cases hjl : j < K.length
          · obtain ⟨kj, hkje⟩ : ∃ kj, kj = K[j] := ⟨_, rfl⟩
            have hmem : kj ∈ K := by rw [hkje]; exact List.getElem_mem hjl
            have hkb : i + 1 ≤ kj ∧ kj < ns.length := by
              rw [HKE.out] at hmem
              have := kidsTo_bounds ns _ _ _ _ hmem
              omega
            obtain ⟨x, hxe⟩ : ∃ x, x = rd (szs ns) (kj : Int) := ⟨_, rfl⟩
            have hSk := HS.out kj hkb.2
            rw [← hxe] at hSk
            have HSK := Lib.hid hSk
            have hxb := HLAW.out.2.2 kj hkb.2
            rw [← hxe] at hxb
            have hzn : z + x = sumUp ns K (j + 1) := by
              rw [hz.out, hxe, hkje]
              unfold sumUp
              rw [sumL_take_succ _ _ _ hjl]
              omega
            have hznb : z + x ≤ 600 := by
              have h1 : sumUp ns K (j + 1) ≤ sumUp ns K K.length := by
                unfold sumUp
                rw [List.take_length]
                have := sumL_take_le (fun y => rd (szs ns) (y : Int)) K (fun y hy => by
                  rw [HKE.out] at hy
                  exact (HLAW.out.2.2 y (kidsTo_bounds ns _ _ _ _ hy).2.1).1) (j + 1)
                omega
              have h2 := HLAW.out.2.2 i hlt
              have h3 := HLAW.out.1 i hlt
              unfold sumUp at h1 hzn
              rw [List.take_length, HKE.out] at h1
              rw [← HKE.out] at h3 h1
              omega
            have HZN := Lib.hid hzn
            obtain ⟨ad, eA, hxj⟩ := Kd.at_int HCK.out (j : Int) (by omega) (by rw [HAL.out]; omega)
            cases eA
            rw [rd_asInts K j hjl, ← hkje, Int.toNat_natCast] at hxj
            have hkb0 := hkb.1
            have hkb1 := hkb.2
            have hxb0 := hxb.1
            have hxb1 := hxb.2
            have hjal : j < (asInts K).length := by rw [HAL.out]; exact hjl
            clear hSk hxb hkb hzn hxe hmem
            have dk : decide ((kj : Int) ≤ (i : Int)) = false := decide_eq_false (by omega)
            have dk' : decide (kj ≤ i) = false := decide_eq_false (by omega)
            have HKJ := Lib.hid hkje
            clear hkje hz
            by_cases hj0 : 0 < j
            · obtain ⟨kp, hkpe⟩ : ∃ kp, kp = K[j - 1]'(by omega) := ⟨_, rfl⟩
              have hlts : kp < kj := by
                have hs := kidsTo_sorted ns (i : Int) (i + 1) ns.length
                rw [← HKE.out] at hs
                rw [hkpe, HKJ.out]
                exact List.pairwise_iff_getElem.1 hs (j - 1) j (by omega) hjl (by omega)
              obtain ⟨ad', eA', hxp⟩ := Kd.at_int HCK.out ((j : Int) - 1) (by omega) (by rw [HAL.out]; omega)
              cases eA'
              rw [show ((j : Int) - 1) = ((j - 1 : Nat) : Int) by omega, rd_asInts K (j - 1) (by omega), ← hkpe, Int.toNat_natCast] at hxp
              clear hkpe
              have dj : decide ((0 : Int) < (j : Int)) = true := decide_eq_true (by omega)
              have dj' : decide (0 < j) = true := decide_eq_true (by omega)
              have dp : decide ((kj : Int) ≤ (kp : Int)) = false := decide_eq_false (by omega)
              have dp' : decide (kj ≤ kp) = false := decide_eq_false (by omega)
              go_upto_region 15 with (first
                | (go_at_call 25; (with_reducible refine (tree_Size.calls A c ns (kj : Int) x 0 _ (Kd.C_below HC.out HB.out) HCC.out (HL.out.below HB.out) HSK.out).mono ?_); rintro e w5 ⟨rfl, hb⟩; have n0 := Lib.hid (HB.out.trans (hb.mono HB.out.size)); have n1 := Lib.hid (Kd.C_below HCK.out hb); have hxj5 := keeps_cell hb hxj; have hxp5 := keeps_cell hb hxp; clear HB HCK hb hxj hxp; have HB := n0; have HCK := n1; clear n0 n1))
              go_quiet ((go_at_call 19; exact Calls.quiet_of_same (num_eq _ _)))
              go_wp2
              exact ⟨⟨j + 1, z + x, by omega, by simp, rfl, ⟨HZN.out⟩, by omega, ⟨pw_below_drewN HB.out nq⟩, ⟨Kd.C_drewN HCK.out nq⟩⟩, by simp [intOf]; omega⟩
            · have dj : decide ((0 : Int) < (j : Int)) = false := decide_eq_false (by omega)
              have dj' : decide (0 < j) = false := decide_eq_false (by omega)
              go_upto_region 15 with (first
                | (go_at_call 25; (with_reducible refine (tree_Size.calls A c ns (kj : Int) x 0 _ (Kd.C_below HC.out HB.out) HCC.out (HL.out.below HB.out) HSK.out).mono ?_); rintro e w5 ⟨rfl, hb⟩; have n0 := Lib.hid (HB.out.trans (hb.mono HB.out.size)); have n1 := Lib.hid (Kd.C_below HCK.out hb); have hxj5 := keeps_cell hb hxj; clear HB HCK hb hxj; have HB := n0; have HCK := n1; clear n0 n1))
              go_quiet ((go_at_call 19; exact Calls.quiet_of_same (num_eq _ _)))
              go_wp2
              exact ⟨⟨j + 1, z + x, by omega, by simp, rfl, ⟨HZN.out⟩, by omega, ⟨pw_below_drewN HB.out nq⟩, ⟨Kd.C_drewN HCK.out nq⟩⟩, by simp [intOf]; omega⟩
          · obtain rfl : j = K.length := by omega
            have hjal : ¬ K.length < (asInts K).length := by rw [HAL.out]; omega
            have hzZ : z = Z := by rw [hz.out, HZS.out]
            have hzz : (Z != z) = false := by rw [hzZ]; simp
            clear hzZ
            by_cases hi0 : i = 0
            · have hb0 : ((i : Int) == 0) = true := beq_iff_eq.mpr (by omega)
              have hbz : (Z != (ns.length : Int)) = false := by rw [HZ0.out hi0]; simp
              go_wp2
              exact ⟨⟨i + 1, by omega, by omega, by first | (simp; done) | (simp; omega), ⟨HB.out⟩⟩, by simp [intOf]; omega⟩
            · have hb0 : ((i : Int) == 0) = false := beq_eq_false_iff_ne.mpr (by omega)
              go_wp2
              exact ⟨⟨i + 1, by omega, by omega, by first | (simp; done) | (simp; omega), ⟨HB.out⟩⟩, by simp [intOf]; omega⟩
      · obtain rfl : i = 40 := by omega
        go_wp2
        go_ret
        exact ⟨rfl, HB.out⟩
    · obtain rfl : i = ns.length := by omega
      go_wp2
      go_ret
      exact ⟨rfl, HB.out⟩

theorem args_len {A : Option Addr} {ns : List S24} {w : World} (hC : Kd.C k24 w A ns.length ns) (i : Nat) (hi : i < ns.length) : (rd_T24 ns (i : Int)).f2.length ≤ 9223372036854775807 := by
  obtain ⟨ad, A2, c2, _, _, _, _, _, _, hi2⟩ := at_T24 hC (i : Int) (by omega) (by omega)
  exact hi2.2.1
/-- TreeSums answers true, whatever nodes it is handed. -/
theorem treeSums_at (A : Option Addr) (c : Nat) (ns : List S24) (w : World) (hC : Kd.C k24 w A ns.length ns) (hc : ns.length ≤ c) (hL : Laid w) :
    Calls Tryd.prog 7 #[.slice A ns.length c] w fun e w' => e = .returned (.bool true) ∧ Below w.heap.size w w' := by
  cases hB : trailB ns with
  | true => exact treeSums_good A c ns w hC hc hL hB
  | false =>
    obtain ⟨M, hM⟩ : ∃ M, M = 9223372036854775807 := ⟨_, rfl⟩
    exact treeSums_bad A c ns w hC hc hL hB M (fun i hi => by rw [hM]; exact args_len hC i hi) (Nat.le_of_eq hM)
end Go.Proofs.YtkbaelhcijibiaaDoor.Px

/-
  A node more behind a trail: whose sizes it turns.
-/
namespace Go.Proofs.YtkbaelhcijibiaaDoor.Px
open Go.RowKit Go.Proofs.YtkbaelhcijibiaaDoorW.PrintWords Go.Proofs.YtkbaelhcijibiaaDoorW.PrintLast Go.Proofs.YtkbaelhcijibiaaDoorW.PrintMore
set_option linter.unusedVariables false
set_option linter.unusedSimpArgs false

def oi (b : Bool) : Int := if b = true then 1 else 0
theorem sumL_add (f g : Nat → Int) : ∀ l : List Nat, sumL (fun x => f x + g x) l = sumL f l + sumL g l
  | [] => by simp [sumL]
  | x :: l => by simp only [sumL, sumL_add f g l]; omega
theorem sum_one (ns : List S24) (v : Int) (a q : Nat) : ∀ b : Nat, a ≤ b → sumL (fun y => oi (decide (y = q))) (kidsTo ns v a b) = if a ≤ q ∧ q < b ∧ (rd_T24 ns (q : Int)).f1 = v then 1 else 0 := by
  intro b
  induction b with
  | zero => intro h; rw [kidsTo_self ns v a 0 (by omega), if_neg (by omega)]; rfl
  | succ b ih =>
    intro h
    by_cases hab : a ≤ b
    · rw [kidsTo_succ ns v a b hab, sumL_append, ih hab]
      by_cases hp : (rd_T24 ns (b : Int)).f1 = v
      · rw [if_pos hp]
        simp only [sumL, oi]
        by_cases hq : b = q
        · subst hq
          rw [if_neg (by omega), if_pos (by simp), if_pos ⟨hab, by omega, hp⟩]; rfl
        · rw [if_neg (show ¬ decide (b = q) = true by simpa using hq)]
          by_cases h2 : a ≤ q ∧ q < b ∧ (rd_T24 ns (q : Int)).f1 = v
          · rw [if_pos h2, if_pos ⟨h2.1, by omega, h2.2.2⟩]; rfl
          · rw [if_neg h2, if_neg (fun h3 => h2 ⟨h3.1, by omega, h3.2.2⟩)]; rfl
      · rw [if_neg hp]
        simp only [sumL]
        by_cases hq : b = q
        · subst hq
          rw [if_neg (by omega), if_neg (fun h3 => hp h3.2.2)]; rfl
        · by_cases h2 : a ≤ q ∧ q < b ∧ (rd_T24 ns (q : Int)).f1 = v
          · rw [if_pos h2, if_pos ⟨h2.1, by omega, h2.2.2⟩]; rfl
          · rw [if_neg h2, if_neg (fun h3 => h2 ⟨h3.1, by omega, h3.2.2⟩)]; rfl
    · rw [kidsTo_self ns v a (b + 1) (by omega), if_neg (by omega)]; rfl
/-- Is a node on the way from another one up? -/
def onP (ns : List S24) (k : Nat) : Nat → Nat → Bool
  | 0, _ => false
  | d + 1, q => decide (k = q) || (if 0 ≤ (rd_T24 ns (q : Int)).f1 then onP ns k d ((rd_T24 ns (q : Int)).f1).toNat else false)
section
variable {ns : List S24} (hpar : ∀ i : Nat, 0 < i → i < ns.length → 0 ≤ (rd_T24 ns (i : Int)).f1 ∧ (rd_T24 ns (i : Int)).f1 < i) (h0 : (rd_T24 ns ((0 : Nat) : Int)).f1 = -1)
include hpar h0
theorem onP_le (k : Nat) : ∀ d q, q < ns.length → onP ns k d q = true → k ≤ q
  | 0, q, _, h => by cases h
  | d + 1, q, hq, h => by
    unfold onP at h
    rw [Bool.or_eq_true] at h
    rcases h with h | h
    · have : k = q := by simpa using h
      omega
    · split at h
      · rename_i h1
        by_cases hq0 : q = 0
        · subst hq0; omega
        · have h2 := hpar q (by omega) hq
          have := onP_le k d _ (by omega) h
          omega
      · cases h
theorem cnt_path (x : Nat) (hxl : x < ns.length) : ∀ d q, q < d → q < ns.length → sumL (fun y => oi (onP ns y d q)) (kidsTo ns (x : Int) (x + 1) ns.length) = oi (onP ns x d q) - oi (decide (x = q))
  | 0, q, h, _ => by omega
  | d + 1, q, hd, hq => by
    have hsplit : ∀ y : Nat, oi (onP ns y (d + 1) q) = oi (decide (y = q)) + (if 0 ≤ (rd_T24 ns (q : Int)).f1 then oi (onP ns y d ((rd_T24 ns (q : Int)).f1).toNat) else 0) := by
      intro y
      rw [onP]
      by_cases hp : 0 ≤ (rd_T24 ns (q : Int)).f1
      · rw [if_pos hp, if_pos hp]
        by_cases hy : y = q
        · have hq0 : ¬ q = 0 := by rintro rfl; omega
          have h2 := hpar q (by omega) hq
          have hn : onP ns y d ((rd_T24 ns (q : Int)).f1).toNat = false := by
            rw [Bool.eq_false_iff]
            intro e
            have := onP_le hpar h0 y d _ (by omega) e
            omega
          rw [hn, decide_eq_true hy]
          rfl
        · rw [decide_eq_false hy, Bool.false_or]
          simp only [oi, Bool.false_eq_true, if_false]
          omega
      · rw [if_neg hp, if_neg hp, Bool.or_false]
        omega
    rw [sumL_congr (f := fun y => oi (onP ns y (d + 1) q)) _ (fun y _ => hsplit y), sumL_add, sum_one ns _ _ _ _ (by omega), hsplit x]
    by_cases hp : 0 ≤ (rd_T24 ns (q : Int)).f1
    · have hq0 : ¬ q = 0 := by rintro rfl; omega
      have h2 := hpar q (by omega) hq
      simp only [if_pos hp]
      rw [cnt_path x hxl d _ (by omega) (by omega)]
      by_cases hx : (rd_T24 ns (q : Int)).f1 = (x : Int)
      · rw [if_pos ⟨by omega, hq, hx⟩, decide_eq_true (show x = ((rd_T24 ns (q : Int)).f1).toNat by omega)]
        simp only [oi, if_pos]
        omega
      · rw [if_neg (fun h3 => hx h3.2.2), decide_eq_false (show ¬ x = ((rd_T24 ns (q : Int)).f1).toNat by omega)]
        simp only [oi, Bool.false_eq_true, if_false]
        omega
    · simp only [if_neg hp]
      rw [if_neg (by omega)]
      have : ∀ l : List Nat, sumL (fun _ => (0 : Int)) l = 0 := by
        intro l
        induction l with
        | nil => rfl
        | cons a l ih => simp only [sumL, ih]; rfl
      rw [this]
      omega
end
/-- The trail with a node more. -/
def more (ns : List S24) (p : Nat) : List S24 := ns ++ [⟨0, (p : Int), [], ⟨#[95]⟩⟩]
theorem rd_more (ns : List S24) (p i : Nat) (h : i < ns.length) : rd_T24 (more ns p) (i : Int) = rd_T24 ns (i : Int) := by
  unfold more rd_T24
  rw [Int.toNat_natCast, List.getD_eq_getElem?_getD, List.getD_eq_getElem?_getD, List.getElem?_append_left h]
theorem rd_last (ns : List S24) (p : Nat) : rd_T24 (more ns p) (ns.length : Int) = ⟨0, (p : Int), [], ⟨#[95]⟩⟩ := by
  unfold more rd_T24
  rw [Int.toNat_natCast, List.getD_eq_getElem?_getD, List.getElem?_append_right (Nat.le_refl _)]
  simp
theorem may_hole : mayB ⟨#[95]⟩ = true := by decide +kernel
theorem trailFrom_more (ns : List S24) (p : Nat) (hp : p < ns.length) (hn : ns.length < 512) : ∀ d i, i + d = ns.length → trailFrom ns d i = true → trailFrom (more ns p) (d + 1) i = true
  | 0, i, hi, h => by
    obtain rfl : i = ns.length := by omega
    unfold trailFrom
    rw [rd_last]
    have h1 : standsB ⟨0, (p : Int), [], ⟨#[95]⟩⟩ ns.length = true := by
      unfold standsB eqB
      simp only [may_hole]
      rw [decide_eq_true hn, decide_eq_true (show ((0 ≤ (p : Int) ∧ (p : Int) < (ns.length : Int)) ∨ (ns.length = 0 ∧ (p : Int) = -1)) by omega)]
      rfl
    rw [h1]
    unfold trailFrom
    simp [more]
  | d + 1, i, hi, h => by
    unfold trailFrom at h ⊢
    rw [Bool.and_eq_true] at h
    rw [rd_more ns p i (by omega), h.1, Bool.true_and]
    exact trailFrom_more ns p hp hn d (i + 1) (by omega) h.2
theorem trail_more {ns : List S24} (h : trailB ns = true) (p : Nat) (hp : p < ns.length) (hn : ns.length < 512) : trailB (more ns p) = true := by
  unfold trailB
  have hl : (more ns p).length = ns.length + 1 := by simp [more]
  rw [hl]
  exact trailFrom_more ns p hp hn ns.length 0 (by omega) h
theorem kids_more (ns : List S24) (p x : Nat) (hx : x < ns.length) : kidsTo (more ns p) (x : Int) (x + 1) (ns.length + 1) = kidsTo ns (x : Int) (x + 1) ns.length ++ (if x = p then [ns.length] else []) := by
  rw [kidsTo_succ _ _ _ _ (by omega), rd_last]
  congr 1
  · unfold kidsTo
    apply List.filter_congr
    intro y hy
    rw [List.mem_range'_1] at hy
    rw [rd_more ns p y (by omega)]
  · by_cases e : x = p
    · subst e; simp
    · have : ¬ ((p : Int) = (x : Int)) := by omega
      simp [e, this]
/-- Its size counts for what it hangs on. -/
theorem sizes_more {ns : List S24} (h : trailB ns = true) (p : Nat) (hp : p < ns.length) (hn : ns.length < 512) (h0 : (rd_T24 ns ((0 : Nat) : Int)).f1 = -1) : ∀ (d x : Nat), ns.length - x ≤ d → x < ns.length →
    rd (szs (more ns p)) (x : Int) = rd (szs ns) (x : Int) + oi (onP ns x (p + 1) p)
  | 0, x, hd, hx => by omega
  | d + 1, x, hd, hx => by
    have hf := trail_facts h
    have hg := trail_facts (trail_more h p hp hn)
    have hl : (more ns p).length = ns.length + 1 := by simp [more]
    have l1 := szs_law ns hf.2.1 hf.1 hf.2.2
    have l2 := szs_law (more ns p) hg.2.1 hg.1 hg.2.2
    have e2 := l2.1 x (by omega)
    rw [hl, kids_more ns p x hx, sumL_append] at e2
    have hin : sumL (fun y => rd (szs (more ns p)) (y : Int)) (kidsTo ns (x : Int) (x + 1) ns.length) = sumL (fun y => rd (szs ns) (y : Int) + oi (onP ns y (p + 1) p)) (kidsTo ns (x : Int) (x + 1) ns.length) := by
      refine sumL_congr _ (fun y hy => ?_)
      have hb := kidsTo_bounds ns _ _ _ _ hy
      exact sizes_more h p hp hn h0 d y (by omega) (by omega)
    rw [hin, sumL_add, cnt_path hf.2.2 h0 x hx (p + 1) p (by omega) hp] at e2
    rw [e2, l1.1 x hx]
    by_cases e : x = p
    · rw [if_pos e, decide_eq_true e]
      have hlast := l2.1 ns.length (by omega)
      rw [hl, kidsTo_self _ _ _ _ (Nat.le_refl _)] at hlast
      simp only [sumL] at hlast ⊢
      rw [hlast]
      simp only [oi, if_pos]
      omega
    · rw [if_neg e, decide_eq_false e]
      simp only [sumL, oi, Bool.false_eq_true, if_false]
      omega
end Go.Proofs.YtkbaelhcijibiaaDoor.Px

/-
  TreeCut: the walk.
-/
namespace Go.Proofs.YtkbaelhcijibiaaDoor.Px
open Go.RowKit Go.Proofs.YtkbaelhcijibiaaDoorW.PrintWords Go.Proofs.YtkbaelhcijibiaaDoorW.PrintLast Go.Proofs.YtkbaelhcijibiaaDoorW.PrintMore
set_option linter.unusedVariables false
set_option linter.unusedSimpArgs false

/-- A row that is read, flat: its cells, one element's behind the other's. -/
theorem flat_to {α : Type} (d : Kd α) {w : World} {A : Option Addr} {n : Nat} {xs : List α} (h : d.C w A n xs) (hn : 0 < n) : ∃ ad, A = some ad ∧ ∀ k, k ≤ n → ∃ news : List Value, news.length = k * d.sz ∧ Reps (d.K w) d.sz (xs.take k) news ∧ (∀ u ∈ news, u.oneCell' = true) ∧ (∀ (j : Nat) u, news[j]? = some u → w.cell? (ad.add j) = some u) := by
  obtain ⟨hl, hm, hc⟩ := h
  obtain ⟨ad, e, hc⟩ := hc hn
  refine ⟨ad, e, fun k => ?_⟩
  induction k with
  | zero => exact fun _ => ⟨[], by simp, by simpa using Reps.none _ _, by simp, by simp⟩
  | succ k ih =>
    intro hk
    obtain ⟨news, h1, h2, h3, h4⟩ := ih (by omega)
    have hkl : k < xs.length := by omega
    obtain ⟨c, g1, g2, g3⟩ := hc k _ (List.getElem?_eq_getElem hkl)
    refine ⟨news ++ c, ?_, ?_, ?_, ?_⟩
    · rw [List.length_append, h1, g1, Nat.add_mul, Nat.one_mul]
    · rw [List.take_succ_eq_append_getElem hkl]
      exact h2.snoc g2 g1
    · intro u hu
      rcases List.mem_append.1 hu with hu | hu
      · exact h3 u hu
      · exact d.K_one g2 u hu
    · intro j u hu
      rcases Nat.lt_or_ge j news.length with hj | hj
      · rw [List.getElem?_append_left hj] at hu
        exact h4 j u hu
      · rw [List.getElem?_append_right hj] at hu
        have := g3 _ u hu
        rw [← h1, Nat.add_sub_of_le hj] at this
        exact this
theorem flat_all {α : Type} (d : Kd α) {w : World} {A : Option Addr} {n : Nat} {xs : List α} (h : d.C w A n xs) (hn : 0 < n) : ∃ ad, A = some ad ∧ ∃ news : List Value, news.length = n * d.sz ∧ Reps (d.K w) d.sz xs news ∧ (∀ u ∈ news, u.oneCell' = true) ∧ (∀ (j : Nat) u, news[j]? = some u → w.cell? (ad.add j) = some u) := by
  obtain ⟨ad, e, hk⟩ := flat_to d h hn
  obtain ⟨news, h1, h2, h3, h4⟩ := hk n (Nat.le_refl _)
  rw [← h.1, List.take_length] at h2
  exact ⟨ad, e, news, h1, h2, h3, h4⟩
theorem root_neg {ns : List S24} (h : trailB ns = true) : (rd_T24 ns ((0 : Nat) : Int)).f1 = -1 := by
  have hl := (trail_facts h).1
  unfold trailB at h
  obtain ⟨m, hm⟩ : ∃ m, ns.length = m + 1 := ⟨ns.length - 1, by omega⟩
  rw [hm] at h
  unfold trailFrom at h
  simp only [Bool.and_eq_true] at h
  have h1 := h.1
  unfold standsB at h1
  simp only [Bool.and_eq_true, decide_eq_true_eq] at h1
  omega
end Go.Proofs.YtkbaelhcijibiaaDoor.Px

namespace Go.Proofs.YtkbaelhcijibiaaDoor.Px
open Go.RowKit Go.Proofs.YtkbaelhcijibiaaDoorW.PrintWords Go.Proofs.YtkbaelhcijibiaaDoorW.PrintLast Go.Proofs.YtkbaelhcijibiaaDoorW.PrintMore
set_option linter.unusedVariables false
set_option linter.unusedSimpArgs false
set_option maxHeartbeats 4000000 in
set_option maxRecDepth 100000 in
theorem treeCut_early (A : Option Addr) (c : Nat) (ns : List S24) (x y : Int) (w : World) (hC : Kd.C k24 w A ns.length ns) (hc : ns.length ≤ c) (hL : Laid w) (hB : trailB ns = false ∨ ns.length = 512) (M : Nat) (hM : ∀ i, i < ns.length → (rd_T24 ns (i : Int)).f2.length ≤ M) (hM2 : M ≤ 9223372036854775807) :
    Calls Tryd.prog 8 #[.slice A ns.length c, .int .i64 x, .int .i64 y] w fun e w' => e = .returned (.bool true) ∧ Below w.heap.size w w' := by
  have hmax : ns.length ≤ 9223372036854775807 := hC.2.1
  have HC := Lib.hid hC
  have HCC := Lib.hid hc
  have HL := Lib.hid hL
  have HR := Lib.hid (refmay_is ns M (M + 4721) hM hM2 (Nat.le_refl _))
  obtain ⟨tb, htb⟩ : ∃ tb, tb = trailB ns := ⟨_, rfl⟩
  rw [← htb] at hB HR
  clear hC hc hL hM htb
  have HB := Lib.hid (Below.refl w.heap.size w)
  clear hmax
  go_enter Tryd.func8, Tryd.ntmps8
  cases tb with
  | false =>
    clear hB
    go_wp2_with (first
      | (go_at_call 24; refine (sleuthlaw13_awake.calls RR _ (HL.out.below HB.out) awake13_true).mono ?_; rintro e w1 ⟨rfl, hb⟩; have n0 := Lib.hid (HB.out.trans (hb.mono HB.out.size)); clear HB hb; have HB := n0; clear n0)
      | (go_at_call 27; (with_reducible refine (sleuthref12_TrailMay.calls (M + 4721) A c ns false _ (Kd.C_below HC.out HB.out) HCC.out HR.out).mono ?_); rintro e w5 ⟨rfl, hb⟩; have n0 := Lib.hid (HB.out.trans (hb.mono HB.out.size)); clear HB hb; have HB := n0; clear n0))
    go_ret
    exact ⟨rfl, HB.out⟩
  | true =>
    have hn : ns.length = 512 := by
      rcases hB with h | h
      · cases h
      · exact h
    clear hB
    have b5 : ((ns.length : Int) == 512) = true := beq_iff_eq.mpr (by omega)
    clear hn
    go_wp2_with (first
      | (go_at_call 24; refine (sleuthlaw13_awake.calls RR _ (HL.out.below HB.out) awake13_true).mono ?_; rintro e w1 ⟨rfl, hb⟩; have n0 := Lib.hid (HB.out.trans (hb.mono HB.out.size)); clear HB hb; have HB := n0; clear n0)
      | (go_at_call 27; (with_reducible refine (sleuthref12_TrailMay.calls (M + 4721) A c ns true _ (Kd.C_below HC.out HB.out) HCC.out HR.out).mono ?_); rintro e w5 ⟨rfl, hb⟩; have n0 := Lib.hid (HB.out.trans (hb.mono HB.out.size)); clear HB hb; have HB := n0; clear n0))
    go_ret
    exact ⟨rfl, HB.out⟩

def upP (ns : List S24) (k d : Nat) (q : Int) : Bool := if 0 ≤ q then onP ns k d q.toNat else false
theorem upP_step (ns : List S24) (k d q : Nat) : upP ns k (d + 1) (q : Int) = (decide (k = q) || upP ns k d (rd_T24 ns (q : Int)).f1) := by
  unfold upP
  rw [if_pos (by omega), Int.toNat_natCast, onP]
theorem some13_len (w : World) : Calls Tryd.prog 28 #[] w fun e w' => ∃ A c, e = .returned (.slice A 5 c) ∧ Below w.heap.size w w' := by
  refine (sleuthlaw13_some.calls _ w rfl).mono ?_
  rintro e w' ⟨v, rfl, hN, hb⟩
  obtain ⟨A, c, rfl⟩ := Kd.N_slice hN
  exact ⟨A, c, rfl, hb⟩
theorem hole_K (w : World) (p : Nat) : k24.K w ⟨0, (p : Int), [], ⟨#[95]⟩⟩ [.int .i64 0, .int .i64 p, .slice none 0 0, .string ⟨#[95]⟩] :=
  k24_mk w ⟨0, (p : Int), [], ⟨#[95]⟩⟩ (A2 := none) (c2 := 0) (Nat.le_refl _) ⟨rfl, Nat.zero_le _, fun h => absurd h (Nat.lt_irrefl 0)⟩
theorem pick (x : Int) (n : Nat) (h0 : 0 < n) (hn : n < 512) : ∃ k : Nat, wrap64 ((IntKind.u64.wrap x).tmod (n : Int)) = (k : Int) ∧ k < n := by
  have h1 : 0 ≤ IntKind.u64.wrap x := by
    rw [IntKind.wrap_u64]
    omega
  have h2 : (IntKind.u64.wrap x).tmod (n : Int) = (IntKind.u64.wrap x) % (n : Int) := Int.tmod_eq_emod_of_nonneg h1
  have h3 := Int.emod_nonneg (IntKind.u64.wrap x) (b := (n : Int)) (by omega)
  have h4 := Int.emod_lt_of_pos (IntKind.u64.wrap x) (b := (n : Int)) (by omega)
  refine ⟨((IntKind.u64.wrap x) % (n : Int)).toNat, ?_, by omega⟩
  rw [h2, Int.toNat_of_nonneg h3]
  generalize (IntKind.u64.wrap x) % (n : Int) = r at h3 h4
  unfold wrap64
  omega
set_option maxHeartbeats 4000000 in
set_option maxRecDepth 100000 in
theorem treeCut_main (A : Option Addr) (c : Nat) (ns : List S24) (x y : Int) (w : World) (hC : Kd.C k24 w A ns.length ns) (hc : ns.length ≤ c) (hL : Laid w) (hB : trailB ns = true) (hn : ns.length < 512) (M : Nat) (hM : ∀ i, i < ns.length → (rd_T24 ns (i : Int)).f2.length ≤ M) (hM2 : M ≤ 9223372036854775807) :
    Calls Tryd.prog 8 #[.slice A ns.length c, .int .i64 x, .int .i64 y] w fun e w' => e = .returned (.bool true) ∧ Below w.heap.size w w' := by
  have HC := Lib.hid hC
  have HCC := Lib.hid hc
  have HL := Lib.hid hL
  have HR := Lib.hid (refmay_is ns M (M + 4721) hM hM2 (Nat.le_refl _))
  rw [hB] at HR
  have HBT := Lib.hid hB
  have HN := Lib.hid hn
  have h0 := (trail_facts hB).1
  have H0 := Lib.hid h0
  have b5 : ((ns.length : Int) == 512) = false := beq_eq_false_iff_ne.mpr (by omega)
  have b6 : ((ns.length : Int) == 0) = false := beq_eq_false_iff_ne.mpr (by omega)
  clear hC hc hL hM hB
  have HB := Lib.hid (Below.refl w.heap.size w)
  obtain ⟨k, hk, hkl⟩ : ∃ k : Nat, wrap64 ((IntKind.u64.wrap x).tmod ↑ns.length) = (k : Int) ∧ k < ns.length := pick x ns.length h0 (by have := HN.out; omega)
  obtain ⟨p, hp, hpl⟩ : ∃ k : Nat, wrap64 ((IntKind.u64.wrap y).tmod ↑ns.length) = (k : Int) ∧ k < ns.length := pick y ns.length h0 (by have := HN.out; omega)
  obtain ⟨i24, hi24, hzz⟩ := Option.map_eq_some_iff.1 info24
  simp only [Prod.mk.injEq] at hzz
  obtain ⟨hz24, hs24, hb24⟩ := hzz
  obtain ⟨z24, hz24e⟩ : ∃ z : Value, z = (.agg #[(.int .i64 0), (.int .i64 0), (.slice none 0 0), (.string ⟨#[]⟩)] : Value) := ⟨_, rfl⟩
  have hzs24 : z24.cells.size = 4 := by rw [hz24e]; rfl
  rw [← hz24e] at hz24
  go_enter Tryd.func8, Tryd.ntmps8
  go_upto_region 5 with (first
      | (go_at_call 24; refine (sleuthlaw13_awake.calls RR _ (HL.out.below HB.out) awake13_true).mono ?_; rintro e w1 ⟨rfl, hb⟩; have n0 := Lib.hid (HB.out.trans (hb.mono HB.out.size)); clear HB hb; have HB := n0; clear n0)
      | (go_at_call 27; (with_reducible refine (sleuthref12_TrailMay.calls (M + 4721) A c ns true _ (Kd.C_below HC.out HB.out) HCC.out HR.out).mono ?_); rintro e w5 ⟨rfl, hb⟩; have n0 := Lib.hid (HB.out.trans (hb.mono HB.out.size)); clear HB hb; have HB := n0; clear n0))
  go_quiet (fail)
  have n0 := Lib.hid (pw_below_drewN HB.out nq)
  clear HB
  rw [hk, hp]
  generalize w5.drewN nq = w6 at n0 ⊢
  have HB := n0
  clear n0
  obtain ⟨ad, hA, news, hnl, hrep, hone, hcell⟩ := flat_all k24 HC.out h0
  subst hA
  have HREP := Lib.hid hrep
  have HONE := Lib.hid hone
  have HCELL := Lib.hid hcell
  have hnl4 : news.length = ns.length * 4 := hnl
  have HNL := Lib.hid hnl4
  clear hrep hone hcell hnl hnl4
  have hS6 := HB.out.size
  go_upto_region 7 with (at_builtin; go_loud (refine wpList_append_own _ rfl _ _ 25 rfl w.heap.size 24 i24 z24 4 56 Tryd.underlying25 hi24 hz24 hs24 hb24 hzs24 (by decide) _ 0 [] rfl (World.ownsRow_lit (size := 4) w6 #[] 0 hS6 (by decide) rfl) ad ns.length c news rfl HNL.out (fun j u hu => pw_cell_below (below_alloc HB.out _) (HCELL.out j u hu)) HONE.out (by have := HN.out; simp only [maxLen]; omega) (by have := HN.out; omega) (by simp; omega) ?_; intro v1 w7 hown1 hg1 _))
  rw [Nat.zero_add, List.nil_append] at hown1
  have n0 := Lib.hid ((HB.out.alloc hS6 _).grown hg1 (by simp; omega) (fun q hq => own_base (World.ownsRow_lit (base := w.heap.size) (e := 24) (size := 4) w6 #[] 0 hS6 (by decide) rfl) q hq) : Below w.heap.size w w7)
  clear HB hg1
  have HB := n0
  clear n0
  have HOWN := Lib.hid hown1
  clear hown1
  go_upto_region 8 with (at_builtin; go_loud (refine print_append_cells w.heap.size rfl _ _ 25 24 _ 4 56 rfl Tryd.underlying25 info24 rfl (by decide) (by decide) v1 ns.length news [.int .i64 0, .int .i64 p, .slice none 0 0, .string ⟨#[95]⟩] rfl rfl rfl (k24.K_one (hole_K w7 p)) HOWN.out HB.out HB.out.size (by have := HN.out; omega) ?_; intro v2 w8 hown2 hb2 hg2 _))
  have HREP2 : Hid (OwnRow (k24.K w8) 24 4 w8 w.heap.size v2 (more ns p)) := Lib.hid ⟨_, by rw [more, List.length_append, List.length_singleton]; exact hown2, (HREP.out.imp_ (fun _ _ hq => k24.K_below hb2 hq)).snoc (hole_K w8 p) rfl⟩
  obtain ⟨A2, c2, rfl, hc2, hC2⟩ := HREP2.out.reads
  have hml : (more ns p).length = ns.length + 1 := by simp [more]
  obtain ⟨ml, hmle⟩ : ∃ ml, ml = (more ns p).length := ⟨_, rfl⟩
  have hC2' : Kd.C k24 w8 A2 (more ns p).length (more ns p) := hC2
  have HC2 := Lib.hid hC2'
  have HCC2 := Lib.hid hc2
  have n0 := Lib.hid hb2
  clear HB hb2 hg2 hown2 HREP2 hC2 hC2' hc2 HREP HONE HCELL HOWN HNL
  have HB := n0
  clear n0
  have hkm : k < (more ns p).length := by rw [hml]; omega
  obtain ⟨Z, hZ⟩ : ∃ Z, Z = rd (szs ns) (k : Int) := ⟨_, rfl⟩
  obtain ⟨Z2, hZ2⟩ : ∃ Z2, Z2 = rd (szs (more ns p)) (k : Int) := ⟨_, rfl⟩
  have hs1 := size_good HBT.out k hkl
  have hs2 := size_good (trail_more HBT.out p hpl HN.out) k hkm
  have hsum := sizes_more HBT.out p hpl HN.out (root_neg HBT.out) ns.length k (by omega) hkl
  have hf := trail_facts HBT.out
  have hzb := (szs_law ns hf.2.1 hf.1 hf.2.2).2.2 k hkl
  rw [← hZ] at hs1 hsum hzb
  rw [← hZ2] at hs2 hsum
  obtain ⟨G, hG⟩ : ∃ G, G = onP ns k (p + 1) p := ⟨_, rfl⟩
  rw [← hG] at hsum
  have HS1 := Lib.hid hs1
  have HS2 := Lib.hid hs2
  have HSUM := Lib.hid hsum
  have HG := Lib.hid hG
  have HF := Lib.hid hf
  have hzb0 := hzb.1
  have hzb1 := hzb.2
  clear hs1 hs2 hsum hG hf hzb hZ hZ2 hml hmle hkm
  go_upto_block 99 with (first
    | (go_at_call 25; (with_reducible refine (tree_Size.calls (some ad) c ns (k : Int) Z 0 _ (Kd.C_below HC.out HB.out) HCC.out (HL.out.below HB.out) HS1.out).mono ?_); rintro e w2 ⟨rfl, hb⟩; have n0 := Lib.hid (HB.out.trans (hb.mono HB.out.size)); have n1 := Lib.hid (Kd.C_below HC2.out hb); clear HB HC2 hb; have HB := n0; have HC2 := n1; clear n0 n1)
    | (go_at_call 25; (with_reducible refine (tree_Size.calls A2 c2 (more ns p) (k : Int) Z2 0 _ HC2.out HCC2.out (HL.out.below HB.out) HS2.out).mono ?_); rintro e w3 ⟨rfl, hb⟩; have n0 := Lib.hid (HB.out.trans (hb.mono HB.out.size)); clear HB HC2 hb; have HB := n0; clear n0))
  go_loopw [14, 15] (fun bl iv wr => ∃ (bb : Bool) (q : Int) (d : Nat), bl = .bool bb ∧ iv = .int .i64 q ∧ -1 ≤ q ∧ q < ns.length ∧ q < d ∧ Aside0 ((bb || upP ns k d q) = G) ∧ Aside0 (Below w.heap.size w wr)) (fun bl iv wr => (intOf iv + 1).toNat)
  case atStart => exact ⟨false, (p : Int), p + 1, rfl, rfl, by omega, by omega, by omega, ⟨by rw [Bool.false_or, upP, if_pos (by omega), Int.toNat_natCast]; exact HG.out.symm⟩, ⟨HB.out⟩⟩
  case round =>
    obtain ⟨bb, q, d, rfl, rfl, hq1, hq2, hqd, hG2, hB2⟩ := hrel
    clear HB
    have HB := Lib.hid hB2.out
    have HG2 := Lib.hid hG2.out
    clear hB2 hG2
    by_cases h0q : 0 ≤ q
    · obtain ⟨qn, rfl⟩ : ∃ m : Nat, q = m := ⟨q.toNat, by omega⟩
      obtain ⟨d', rfl⟩ : ∃ m : Nat, d = m + 1 := ⟨d - 1, by omega⟩
      obtain ⟨ad', A', c', eA, _, hx1, _, _, _, _⟩ := at_T24 HC.out (qn : Int) (by omega) (by omega)
      cases eA
      replace hx1 := (HB.out.cell (World.block_lt_of_cell? w _ hx1)).trans hx1
      rw [Int.toNat_natCast] at hx1
      have hstep := upP_step ns k d' qn
      have hvb : -1 ≤ (rd_T24 ns (qn : Int)).f1 ∧ (rd_T24 ns (qn : Int)).f1 < qn := by
        by_cases hz : qn = 0
        · subst hz
          have := root_neg HBT.out
          omega
        · have := HF.out.2.2 qn (by omega) (by omega)
          omega
      obtain ⟨v, hv⟩ : ∃ v, v = (rd_T24 ns (qn : Int)).f1 := ⟨_, rfl⟩
      rw [← hv] at hx1 hstep hvb
      have HST := Lib.hid hstep
      have hvb0 := hvb.1
      have hvb1 := hvb.2
      clear hstep hv hvb h0q
      have dq : decide ((0 : Int) ≤ (qn : Int)) = true := decide_eq_true (by omega)
      cases bb with
      | true =>
        go_wp2
        exact ⟨⟨true, v, d', rfl, rfl, hvb0, by omega, by omega, ⟨by rw [Bool.true_or]; exact (Bool.true_or _).symm.trans HG2.out⟩, ⟨HB.out⟩⟩, by simp [intOf]; omega⟩
      | false =>
        by_cases e : qn = k
        · have b1 : ((qn : Int) == (k : Int)) = true := beq_iff_eq.mpr (by omega)
          have b2 : (qn == k) = true := beq_iff_eq.mpr e
          have hg : true = G := by rw [← HG2.out, HST.out, decide_eq_true e.symm]; rfl
          have HGG := Lib.hid hg
          clear hg e
          go_wp2
          exact ⟨⟨true, v, d', by simp [b1, b2], rfl, hvb0, by omega, by omega, ⟨by rw [Bool.true_or]; exact HGG.out⟩, ⟨HB.out⟩⟩, by simp [intOf]; omega⟩
        · have b1 : ((qn : Int) == (k : Int)) = false := beq_eq_false_iff_ne.mpr (by omega)
          have b2 : (qn == k) = false := beq_eq_false_iff_ne.mpr e
          have hg : (false || upP ns k d' v) = G := by rw [← HG2.out, HST.out, decide_eq_false (fun h => e h.symm)]; rfl
          have HGG := Lib.hid hg
          clear hg e
          go_wp2
          exact ⟨⟨false, v, d', by simp [b1, b2], rfl, hvb0, by omega, by omega, ⟨HGG.out⟩, ⟨HB.out⟩⟩, by simp [intOf]; omega⟩
    · obtain rfl : q = -1 := by omega
      have hbG : bb = G := by
        rw [← HG2.out, upP, if_neg (by omega), Bool.or_false]
      have hsum := HSUM.out
      rw [← hbG] at hsum
      clear hbG HS2 HSUM HG HG2
      cases bb with
      | true =>
        obtain rfl : Z2 = Z + 1 := hsum
        go_wp2_with (first
          | (go_at_call 19; refine (num_eq _ _).mono ?_; rintro e w9 ⟨rfl, rfl⟩)
          | (go_at_call 28; refine (some13_len _).mono ?_; rintro e w9 ⟨A9, c9, rfl, hb⟩; have n0 := Lib.hid (HB.out.trans (hb.mono HB.out.size)); clear HB hb; have HB := n0; clear n0))
        go_ret
        exact ⟨by simp, HB.out⟩
      | false =>
        obtain rfl : Z2 = Z := by rw [hsum]; exact Int.add_zero _
        clear hsum
        go_wp2_with (first
          | (go_at_call 19; refine (num_eq _ _).mono ?_; rintro e w9 ⟨rfl, rfl⟩)
          | (go_at_call 28; refine (some13_len _).mono ?_; rintro e w9 ⟨A9, c9, rfl, hb⟩; have n0 := Lib.hid (HB.out.trans (hb.mono HB.out.size)); clear HB hb; have HB := n0; clear n0))
        go_ret
        exact ⟨by simp, HB.out⟩
/-- TreeCut answers true, whatever it is handed. -/
theorem treeCut_at (A : Option Addr) (c : Nat) (ns : List S24) (x y : Int) (w : World) (hC : Kd.C k24 w A ns.length ns) (hc : ns.length ≤ c) (hL : Laid w) :
    Calls Tryd.prog 8 #[.slice A ns.length c, .int .i64 x, .int .i64 y] w fun e w' => e = .returned (.bool true) ∧ Below w.heap.size w w' := by
  obtain ⟨M, hM⟩ : ∃ M, M = 9223372036854775807 := ⟨_, rfl⟩
  have hb : ∀ i, i < ns.length → (rd_T24 ns (i : Int)).f2.length ≤ M := fun i hi => by rw [hM]; exact args_len hC i hi
  cases hB : trailB ns with
  | true =>
    by_cases hn : ns.length = 512
    · exact treeCut_early A c ns x y w hC hc hL (.inr hn) M hb (Nat.le_of_eq hM)
    · have := (trail_facts hB).2.1
      exact treeCut_main A c ns x y w hC hc hL hB (by omega) M hb (Nat.le_of_eq hM)
  | false => exact treeCut_early A c ns x y w hC hc hL (.inl hB) M hb (Nat.le_of_eq hM)
end Go.Proofs.YtkbaelhcijibiaaDoor.Px
