/- Texts of this claim, one behind the other: PxxrecordGet, Plain3, Pxxsleuthlaw0SameTexts, Pxxsleuthlaw0SameNode, Pxxsleuthlaw0Num, Given6, Known15, Forms0, Forms1, Forms2, PureRecordForms. -/
import Derived.Test.YtkbaelhcijibiaaDoorRf1
import Derived.Test.YtkbaelhcijibiaaDoorRf2
import Derived.Deep.RegionWith
import Derived.Lib.Hide
import Derived.Deep.CutBlock
import Derived.Deep.DeepCutAuto
import Derived.OpenShut

/- Of each function of this text: a plain Lean function and a proof that the machine's call comes to its answers; printed by this session's program. -/
namespace Go.Proofs.YtkbaelhcijibiaaDoor.Px
open Go.RowKit Go.Proofs.YtkbaelhcijibiaaDoorW.PrintWords Go.Proofs.YtkbaelhcijibiaaDoorW.PrintLast Go.Proofs.YtkbaelhcijibiaaDoorW.PrintMore
attribute [local go_sem] max2_int min2_int max_two min_two max_three min_three max_four min_four   -- for this text's walks alone
set_option linter.unusedVariables false
set_option linter.unusedSimpArgs false

/-! ### record_Get: function 17 -/
def record_Get.l0 : Nat → ByteArray → Int → Int → ByteArray → Int → Int → List ByteArray → ByteArray → Option (Int × Int × List ByteArray × ByteArray × Int)
  | 0, _, _, _, _, _, _, _, _ => none
  | k + 1, x0, x19, x20, x294000, x299000, x299001, x299002, x299003 => if x20 < x19 then ((record_taker_text.f x294000).bind fun bt301 => (if x299002.length < 8796093022208 then (record_Get.l0 k x0 x19 (wrap64 (x20 + 1)) bt301.2 x299000 x299001 (x299002 ++ [bt301.1]) x299003) else (none))) else ((record_taker_text.f x294000).bind fun bt306 => ((record_Put.f k x299000 x299001 x299002 bt306.1).bind fun bt308 => (if bt308.2 = 0 then (if bt308.1.toList = x0.toList then (some (x299000, x299001, x299002, bt306.1, 0)) else (some (0, 0, ([] : List ByteArray), (⟨#[]⟩ : ByteArray), 1500))) else (some (0, 0, ([] : List ByteArray), (⟨#[]⟩ : ByteArray), 1500)))))
def record_Get.f (k : Nat) (a0 : ByteArray) : Option (Int × Int × List ByteArray × ByteArray × Int) := (record_taker_number.f a0 1).bind fun bt294 => ((record_taker_number.f bt294.2 2).bind fun bt296 => ((record_taker_number.f bt296.2 1).bind fun bt299 => (record_Get.l0 k a0 (mn bt299.1 3) 0 bt299.2 bt294.1 (wrap64 (bt296.1 - 1)) ([] : List ByteArray) (⟨#[]⟩ : ByteArray))))
theorem record_Get.mono_l : ∀ k, (∀ y0 y1 y2 y3 y4 y5 y6 y7, LeO (record_Get.l0 k y0 y1 y2 y3 y4 y5 y6 y7) (record_Get.l0 (k + 1) y0 y1 y2 y3 y4 y5 y6 y7))
  | 0 => fun _ _ _ _ _ _ _ _ r h => by simp [record_Get.l0] at h
  | k + 1 => by
    have ih0 := record_Get.mono_l k
    · intro y0 y1 y2 y3 y4 y5 y6 y7
      unfold record_Get.l0
      repeat' first
      | (with_reducible exact ih0 _ _ _ _ _ _ _ _)
      | (with_reducible exact record_Put.mono _ _ _ _ _)
      | (with_reducible exact LeO.refl _)
      | (with_reducible exact LeO.none _)
      | (with_reducible refine LeO.ite ?_ ?_)
      | (with_reducible refine LeO.bind ?_ (fun _ => ?_))
      | exact ih0 _ _ _ _ _ _ _ _
      | exact record_Put.mono _ _ _ _ _
      | exact LeO.none _
      | refine LeO.ite ?_ ?_
      | refine LeO.bind ?_ (fun _ => ?_)
theorem record_Get.mono : ∀ a0 k, LeO (record_Get.f k a0) (record_Get.f (k + 1) a0) := by
  intro a0 k
  have ih0 := record_Get.mono_l k
  unfold record_Get.f
  repeat' first
      | (with_reducible exact ih0 _ _ _ _ _ _ _ _)
      | (with_reducible exact record_Put.mono _ _ _ _ _)
      | (with_reducible exact LeO.refl _)
      | (with_reducible exact LeO.none _)
      | (with_reducible refine LeO.ite ?_ ?_)
      | (with_reducible refine LeO.bind ?_ (fun _ => ?_))
      | exact ih0 _ _ _ _ _ _ _ _
      | exact record_Put.mono _ _ _ _ _
      | exact LeO.none _
      | refine LeO.ite ?_ ?_
      | refine LeO.bind ?_ (fun _ => ?_)
def record_Get.T5 : Bool × List (List Nat × List Nat) := (true, [([], []), ([0], [0]), ([], []), ([2], [2]), ([3], [3]), ([1, 4, 3], [1, 4]), ([0, 1, 2, 3, 4, 5], []), ([6, 5, 5, 0, 1, 2, 3, 4, 5], [5, 6])])
def record_Get.B5 : List Nat := [0, 1, 0, 4, 12, 31, 63, 127]
theorem record_Get.tab5 : rtab .any (opsOf Tryd.f17 5) = record_Get.T5 := by kernel_rfl
theorem record_Get.bits5 : waitsOk record_Get.T5.2 record_Get.B5 = true := by kernel_rfl
set_option maxHeartbeats 8000000 in
set_option maxRecDepth 100000 in
theorem record_Get.calls (k : Nat) (a0 : ByteArray) (r1 : Int) (r2 : Int) (r3 : List ByteArray) (r4 : ByteArray) (r5 : Int) (w : World) (hL : Laid w) (h : record_Get.f k a0 = some (r1, r2, r3, r4, r5)) :
    Calls Tryd.prog 17 #[.string a0] w fun e w' => ∃ v2_ : Value, e = .returned (.tuple #[.agg #[.int .i64 r1, .int .i64 r2, v2_, .string r4], .int .i64 r5]) ∧ Kd.R Kd.string 9 w' w.heap.size (fun _ => True) v2_ r3 ∧ Below w.heap.size w w' := by
  have hu24 := Tryd.underlying24
  have hu74 := Tryd.underlying74
  have HLaid := Aside0.mk hL
  clear hL
  have HB := Aside0.mk (Below.refl w.heap.size w)
  have H : ((record_taker_number.f a0 1).bind fun bt294 => ((record_taker_number.f bt294.2 2).bind fun bt296 => ((record_taker_number.f bt296.2 1).bind fun bt299 => (record_Get.l0 k a0 (mn bt299.1 3) 0 bt299.2 bt294.1 (wrap64 (bt296.1 - 1)) ([] : List ByteArray) (⟨#[]⟩ : ByteArray))))) = some (r1, r2, r3, r4, r5) := h
  clear h
  replace H := Option.bind_eq_some_iff.mp H
  obtain ⟨⟨t294, t295⟩, A20, H⟩ := H
  replace H : ((record_taker_number.f t295 2).bind fun bt296 => ((record_taker_number.f bt296.2 1).bind fun bt299 => (record_Get.l0 k a0 (mn bt299.1 3) 0 bt299.2 t294 (wrap64 (bt296.1 - 1)) ([] : List ByteArray) (⟨#[]⟩ : ByteArray)))) = some (r1, r2, r3, r4, r5) := H
  have A2 := Aside0.mk A20
  clear A20
  replace H := Option.bind_eq_some_iff.mp H
  obtain ⟨⟨t296, t297⟩, A30, H⟩ := H
  replace H : ((record_taker_number.f t297 1).bind fun bt299 => (record_Get.l0 k a0 (mn bt299.1 3) 0 bt299.2 t294 (wrap64 (t296 - 1)) ([] : List ByteArray) (⟨#[]⟩ : ByteArray))) = some (r1, r2, r3, r4, r5) := H
  have A3 := Aside0.mk A30
  clear A30
  replace H := Option.bind_eq_some_iff.mp H
  obtain ⟨⟨t299, t300⟩, A40, H⟩ := H
  replace H : (record_Get.l0 k a0 (mn t299 3) 0 t300 t294 (wrap64 (t296 - 1)) ([] : List ByteArray) (⟨#[]⟩ : ByteArray)) = some (r1, r2, r3, r4, r5) := H
  have A4 := Aside0.mk A40
  clear A40
  obtain ⟨ji5, hji5⟩ : ∃ j_ : Int, (mn t299 3) = j_ := ⟨_, rfl⟩
  replace H : (record_Get.l0 k a0 ji5 0 t300 t294 (wrap64 (t296 - 1)) ([] : List ByteArray) (⟨#[]⟩ : ByteArray)) = some (r1, r2, r3, r4, r5) := by first | (rw [hji5] at H; exact H) | (simp only [hji5] at H ⊢; exact H)
  (try rw [hji5] at A2)
  (try rw [hji5] at A3)
  (try rw [hji5] at A4)
  (try (have hji5h : ji5 ≤ 3 := by (rw [← hji5]; unfold mn; (repeat' split) <;> omega)))
  (try (have hji5g : ji5 ≤ 64 := by omega))
  have hji5_ : (if 3 < t299 then 3 else t299) = ji5 := hji5
  have H' := Aside0.mk H
  clear H
  go_enter Tryd.func17, Tryd.ntmps17
  go_wp2_with (first | ((with_reducible refine gate_dst (N := 2) rfl ?_); refine box_event ?hg (N := 2) ?hd (cs := #[.int .i64 0, .int .i64 0, .slice none 0 0, .string (⟨#[]⟩ : ByteArray)]) (t := 24) ?hr ?_; (case hd => rfl); (case hg => rfl); (case hr => first | (go_simp; done) | (go_simp; rfl)); intro gb292 hg w6 hbox hb; have n0_ := Aside0.mk (below_step (by repeat (first | (with_reducible first | exact HB.out | apply below_alloc | apply pw_below_drewN | apply below_drew1) | exact HB.out)) hb); have n1_ := Aside0.mk (hbox); have n2_ := Aside0.mk ((by rw [hg]; exact (below_size (by repeat (first | (with_reducible first | exact HB.out | apply below_alloc | apply pw_below_drewN | apply below_drew1) | exact HB.out))) : w.heap.size ≤ gb292)); have n3_ := Aside0.mk ((by rw [hg]; exact (below_size (by repeat (first | (with_reducible first | exact HB.out | apply below_alloc | apply pw_below_drewN | apply below_drew1) | exact HB.out))) : w.heap.size ≤ gb292)); clear HB; have HB := n0_; have BK292 := n1_; have GW292 := n2_; have GE292 := n3_; clear n0_ n1_ n2_ n3_; clear hb hbox hg) | ((with_reducible refine gate_dst (N := 10) rfl ?_); refine box_event ?hg (N := 10) ?hd (cs := #[.string a0]) (t := 74) ?hr ?_; (case hd => rfl); (case hg => rfl); (case hr => first | (go_simp; done) | (go_simp; rfl)); intro gb293 hg w7 hbox hb; have n0_ := Aside0.mk (blk_below (g := gb292) (o := .cells #[.int .i64 0, .int .i64 0, .slice none 0 0, .string (⟨#[]⟩ : ByteArray)] 24 (0, 0)) (by (with_reducible repeat (first | refine blk_drewN ?_ _ | refine blk_drew ?_ | refine blk_alloc ?_ _)); exact BK292.out) hb); have n1_ := Aside0.mk (below_step (by repeat (first | (with_reducible first | exact HB.out | apply below_alloc | apply pw_below_drewN | apply below_drew1 | refine below_set ?_ GE292.out) | exact HB.out)) hb); have n2_ := Aside0.mk ((by rw [hg]; exact (below_size (by repeat (first | (with_reducible first | exact HB.out | apply below_alloc | apply pw_below_drewN | apply below_drew1 | refine below_set ?_ GE292.out) | exact HB.out))) : w.heap.size ≤ gb293)); have n3_ := Aside0.mk ((by rw [hg]; exact (below_size (by repeat (first | (with_reducible first | exact HB.out | apply below_alloc | apply pw_below_drewN | apply below_drew1 | refine below_set ?_ GE292.out) | exact HB.out))) : w.heap.size ≤ gb293)); have n4_ := Aside0.mk ((by rw [hg]; exact Nat.ne_of_lt (blk_lt (g := gb292) (o := .cells #[.int .i64 0, .int .i64 0, .slice none 0 0, .string (⟨#[]⟩ : ByteArray)] 24 (0, 0)) (by (with_reducible repeat (first | refine blk_drewN ?_ _ | refine blk_drew ?_ | refine blk_alloc ?_ _)); exact BK292.out)) : gb292 ≠ gb293)); have n5_ := Aside0.mk ((by rw [hg]; exact Nat.ne_of_gt (blk_lt (g := gb292) (o := .cells #[.int .i64 0, .int .i64 0, .slice none 0 0, .string (⟨#[]⟩ : ByteArray)] 24 (0, 0)) (by (with_reducible repeat (first | refine blk_drewN ?_ _ | refine blk_drew ?_ | refine blk_alloc ?_ _)); exact BK292.out)) : gb293 ≠ gb292)); have n6_ := Aside0.mk ((⟨hbox, (by rw [hg]; exact (below_size (by repeat (first | (with_reducible first | exact HB.out | apply below_alloc | apply pw_below_drewN | apply below_drew1 | refine below_set ?_ GE292.out) | exact HB.out))) : w.heap.size ≤ gb293)⟩ : IsS74 w w7 gb293 a0)); clear BK292; clear HB; have BK292 := n0_; have HB := n1_; have GW293 := n2_; have GE293 := n3_; have NB292_293 := n4_; have NB293_292 := n5_; have HI293 := n6_; clear n0_ n1_ n2_ n3_ n4_ n5_ n6_; clear hb hbox hg) | ((with_reducible refine gate_callee (f := 46) rfl ?_); refine goesL_ (some 12) rfl rfl Tryd.func46 (by kernel_rfl) rfl #[.pointer (some ⟨gb293, 0, none⟩), .int .i64 1] rfl (by (try simp only [List.map_toArray, List.map_cons, List.map_nil]); first | done | rfl | (simp only [List.length_drop, List.length_take]; rfl)) ?_; (with_reducible refine (record_taker_number.calls gb293 a0 1 t294 t295 w _ ?side1 ?side2 A2.out).mono ?_); (case side1 => repeat (first | (with_reducible first | exact HI293.out | apply IsS74.alloc | apply IsS74.drewN | apply IsS74.drew | apply IsS74.set_0 | refine IsS74.far ?_ NB293_292.out _) | exact HI293.out)); (case side2 => repeat (first | (with_reducible first | exact HB.out | apply below_alloc | apply pw_below_drewN | apply below_drew1 | refine below_set ?_ (IsS74.ge HI293.out) | refine below_set ?_ GE292.out) | exact HB.out)); rintro e w8 ⟨rfl, hi, hb, hk⟩; refine ⟨_, rfl, ?_⟩; have n0_ := Aside0.mk (KeepBut.blk hk (g' := gb292) (o := .cells #[.int .i64 0, .int .i64 0, .slice none 0 0, .string (⟨#[]⟩ : ByteArray)] 24 (0, 0)) (by (with_reducible repeat (first | refine blk_drewN ?_ _ | refine blk_drew ?_ | refine blk_alloc ?_ _)); exact BK292.out) NB292_293.out (by simp)); have n1_ := Aside0.mk (hb); have n2_ := Aside0.mk (hi); clear BK292; clear HB; clear HI293; have BK292 := n0_; have HB := n1_; have HI293 := n2_; clear n0_ n1_ n2_; (try clear hb); (try clear hb2); (try clear hk); (try clear hi)) | ((with_reducible refine gate_callee (f := 46) rfl ?_); refine goesL_ (some 14) rfl rfl Tryd.func46 (by kernel_rfl) rfl #[.pointer (some ⟨gb293, 0, none⟩), .int .i64 2] rfl (by (try simp only [List.map_toArray, List.map_cons, List.map_nil]); first | done | rfl | (simp only [List.length_drop, List.length_take]; rfl)) ?_; (with_reducible refine (record_taker_number.calls gb293 t295 2 t296 t297 w _ ?side1 ?side2 A3.out).mono ?_); (case side1 => repeat (first | (with_reducible first | exact HI293.out | apply IsS74.alloc | apply IsS74.drewN | apply IsS74.drew | apply IsS74.set_0 | refine IsS74.far ?_ NB293_292.out _) | exact HI293.out)); (case side2 => repeat (first | (with_reducible first | exact HB.out | apply below_alloc | apply pw_below_drewN | apply below_drew1 | refine below_set ?_ (IsS74.ge HI293.out) | refine below_set ?_ GE292.out) | exact HB.out)); rintro e w9 ⟨rfl, hi, hb, hk⟩; refine ⟨_, rfl, ?_⟩; have n0_ := Aside0.mk (KeepBut.blk hk (g' := gb292) (o := .cells #[.int .i64 0, .int .i64 0, .slice none 0 0, .string (⟨#[]⟩ : ByteArray)] 24 (0, 0)) (by (with_reducible repeat (first | refine blk_drewN ?_ _ | refine blk_drew ?_ | refine blk_alloc ?_ _)); exact BK292.out) NB292_293.out (by simp)); have n1_ := Aside0.mk (hb); have n2_ := Aside0.mk (hi); clear BK292; clear HB; clear HI293; have BK292 := n0_; have HB := n1_; have HI293 := n2_; clear n0_ n1_ n2_; (try clear hb); (try clear hb2); (try clear hk); (try clear hi)) | ((with_reducible refine gate_dst (N := 5) rfl ?_); refine box_event ?hg (N := 5) ?hd (cs := #[.int .i64 0, .int .i64 0, .slice none 0 0, .string (⟨#[]⟩ : ByteArray)]) (t := 24) ?hr ?_; (case hd => rfl); (case hg => rfl); (case hr => first | (go_simp; done) | (go_simp; rfl)); intro gb298 hg w10 hbox hb; have n0_ := Aside0.mk (blk_below (g := gb292) (o := .cells #[.int .i64 0, .int .i64 0, .slice none 0 0, .string (⟨#[]⟩ : ByteArray)] 24 (0, 0)) (by (with_reducible repeat (first | refine blk_drewN ?_ _ | refine blk_drew ?_ | refine blk_alloc ?_ _)); exact BK292.out) hb); have n1_ := Aside0.mk (IsS74.below (by repeat (first | (with_reducible first | exact HI293.out | apply IsS74.alloc | apply IsS74.drewN | apply IsS74.drew | apply IsS74.set_0 | refine IsS74.far ?_ NB293_292.out _) | exact HI293.out)) hb); have n2_ := Aside0.mk (below_step (by repeat (first | (with_reducible first | exact HB.out | apply below_alloc | apply pw_below_drewN | apply below_drew1 | refine below_set ?_ (IsS74.ge HI293.out) | refine below_set ?_ GE292.out) | exact HB.out)) hb); have n3_ := Aside0.mk (hbox); have n4_ := Aside0.mk ((by rw [hg]; exact (below_size (by repeat (first | (with_reducible first | exact HB.out | apply below_alloc | apply pw_below_drewN | apply below_drew1 | refine below_set ?_ (IsS74.ge HI293.out) | refine below_set ?_ GE292.out) | exact HB.out))) : w.heap.size ≤ gb298)); have n5_ := Aside0.mk ((by rw [hg]; exact (below_size (by repeat (first | (with_reducible first | exact HB.out | apply below_alloc | apply pw_below_drewN | apply below_drew1 | refine below_set ?_ (IsS74.ge HI293.out) | refine below_set ?_ GE292.out) | exact HB.out))) : w.heap.size ≤ gb298)); have n6_ := Aside0.mk ((by rw [hg]; exact Nat.ne_of_lt (blk_lt (g := gb292) (o := .cells #[.int .i64 0, .int .i64 0, .slice none 0 0, .string (⟨#[]⟩ : ByteArray)] 24 (0, 0)) (by (with_reducible repeat (first | refine blk_drewN ?_ _ | refine blk_drew ?_ | refine blk_alloc ?_ _)); exact BK292.out)) : gb292 ≠ gb298)); have n7_ := Aside0.mk ((by rw [hg]; exact Nat.ne_of_gt (blk_lt (g := gb292) (o := .cells #[.int .i64 0, .int .i64 0, .slice none 0 0, .string (⟨#[]⟩ : ByteArray)] 24 (0, 0)) (by (with_reducible repeat (first | refine blk_drewN ?_ _ | refine blk_drew ?_ | refine blk_alloc ?_ _)); exact BK292.out)) : gb298 ≠ gb292)); have n8_ := Aside0.mk ((by rw [hg]; exact Nat.ne_of_lt (IsS74.lt (show IsS74 w _ gb293 t297 from by repeat (first | (with_reducible first | exact HI293.out | apply IsS74.alloc | apply IsS74.drewN | apply IsS74.drew | apply IsS74.set_0 | refine IsS74.far ?_ NB293_292.out _) | exact HI293.out))) : gb293 ≠ gb298)); have n9_ := Aside0.mk ((by rw [hg]; exact Nat.ne_of_gt (IsS74.lt (show IsS74 w _ gb293 t297 from by repeat (first | (with_reducible first | exact HI293.out | apply IsS74.alloc | apply IsS74.drewN | apply IsS74.drew | apply IsS74.set_0 | refine IsS74.far ?_ NB293_292.out _) | exact HI293.out))) : gb298 ≠ gb293)); clear BK292; clear HI293; clear HB; have BK292 := n0_; have HI293 := n1_; have HB := n2_; have BK298 := n3_; have GW298 := n4_; have GE298 := n5_; have NB292_298 := n6_; have NB298_292 := n7_; have NB293_298 := n8_; have NB298_293 := n9_; clear n0_ n1_ n2_ n3_ n4_ n5_ n6_ n7_ n8_ n9_; clear hb hbox hg; have hnb11 := NB298_292.out; have hnc11 := NB292_298.out; have hnb12 := NB298_293.out; have hnc12 := NB293_298.out; have hcz13_0 : w10.cell? ⟨gb298, 0, none⟩ = some (.int .i64 0) := (blk_cell BK298.out 0).trans rfl; have hcz13_1 : w10.cell? ⟨gb298, 1, none⟩ = some (.int .i64 0) := (blk_cell BK298.out 1).trans rfl; have hcz13_2 : w10.cell? ⟨gb298, 2, none⟩ = some (.slice none 0 0) := (blk_cell BK298.out 2).trans rfl; have hcz13_3 : w10.cell? ⟨gb298, 3, none⟩ = some (.string (⟨#[]⟩ : ByteArray)) := (blk_cell BK298.out 3).trans rfl; have hfz13_0 := blk_frozen BK298.out 0; have hfz13_1 := blk_frozen BK298.out 1; have hfz13_2 := blk_frozen BK298.out 2; have hfz13_3 := blk_frozen BK298.out 3) | ((with_reducible refine gate_callee (f := 46) rfl ?_); refine goesL_ (some 18) rfl rfl Tryd.func46 (by kernel_rfl) rfl #[.pointer (some ⟨gb293, 0, none⟩), .int .i64 1] rfl (by (try simp only [List.map_toArray, List.map_cons, List.map_nil]); first | done | rfl | (simp only [List.length_drop, List.length_take]; rfl)) ?_; (with_reducible refine (record_taker_number.calls gb293 t297 1 t299 t300 w _ ?side1 ?side2 A4.out).mono ?_); (case side1 => repeat (first | (with_reducible first | exact HI293.out | apply IsS74.alloc | apply IsS74.drewN | apply IsS74.drew | apply IsS74.set_0 | refine IsS74.far ?_ NB293_292.out _ | refine IsS74.far ?_ NB293_298.out _) | exact HI293.out)); (case side2 => repeat (first | (with_reducible first | exact HB.out | apply below_alloc | apply pw_below_drewN | apply below_drew1 | refine below_set ?_ (IsS74.ge HI293.out) | refine below_set ?_ GE292.out | refine below_set ?_ GE298.out) | exact HB.out)); rintro e w14 ⟨rfl, hi, hb, hk⟩; refine ⟨_, rfl, ?_⟩; have n0_ := Aside0.mk (KeepBut.blk hk (g' := gb292) (o := .cells #[.int .i64 0, .int .i64 0, .slice none 0 0, .string (⟨#[]⟩ : ByteArray)] 24 (0, 0)) (by (with_reducible repeat (first | refine blk_drewN ?_ _ | refine blk_drew ?_ | refine blk_alloc ?_ _)); refine blk_far ?_ NB292_298.out _; (with_reducible repeat (first | refine blk_drewN ?_ _ | refine blk_drew ?_ | refine blk_alloc ?_ _)); refine blk_far ?_ NB292_298.out _; (with_reducible repeat (first | refine blk_drewN ?_ _ | refine blk_drew ?_ | refine blk_alloc ?_ _)); refine blk_far ?_ NB292_298.out _; (with_reducible repeat (first | refine blk_drewN ?_ _ | refine blk_drew ?_ | refine blk_alloc ?_ _)); refine blk_far ?_ NB292_298.out _; (with_reducible repeat (first | refine blk_drewN ?_ _ | refine blk_drew ?_ | refine blk_alloc ?_ _)); exact BK292.out) NB292_293.out (by simp)); have n1_ := Aside0.mk (KeepBut.blk hk (g' := gb298) (o := .cells #[.int .i64 t294, .int .i64 (wrap64 (t296 - 1)), .slice none 0 0, .string (⟨#[]⟩ : ByteArray)] 24 (0, 0)) (by (with_reducible repeat (first | refine blk_drewN ?_ _ | refine blk_drew ?_ | refine blk_alloc ?_ _)); refine blk_put (cs := #[.int .i64 t294, .int .i64 (wrap64 (t296 - 1)), .slice none 0 0, .string (⟨#[]⟩ : ByteArray)]) ?_ 3 _ rfl; (with_reducible repeat (first | refine blk_drewN ?_ _ | refine blk_drew ?_ | refine blk_alloc ?_ _)); refine blk_put (cs := #[.int .i64 t294, .int .i64 (wrap64 (t296 - 1)), .slice none 0 0, .string (⟨#[]⟩ : ByteArray)]) ?_ 2 _ rfl; (with_reducible repeat (first | refine blk_drewN ?_ _ | refine blk_drew ?_ | refine blk_alloc ?_ _)); refine blk_put (cs := #[.int .i64 t294, .int .i64 0, .slice none 0 0, .string (⟨#[]⟩ : ByteArray)]) ?_ 1 _ rfl; (with_reducible repeat (first | refine blk_drewN ?_ _ | refine blk_drew ?_ | refine blk_alloc ?_ _)); refine blk_put (cs := #[.int .i64 0, .int .i64 0, .slice none 0 0, .string (⟨#[]⟩ : ByteArray)]) ?_ 0 _ rfl; (with_reducible repeat (first | refine blk_drewN ?_ _ | refine blk_drew ?_ | refine blk_alloc ?_ _)); exact BK298.out) NB298_293.out (by simp)); have n2_ := Aside0.mk (hb); have n3_ := Aside0.mk (hi); clear BK292; clear BK298; clear HB; clear HI293; have BK292 := n0_; have BK298 := n1_; have HB := n2_; have HI293 := n3_; clear n0_ n1_ n2_ n3_; (try clear hb); (try clear hb2); (try clear hk); (try clear hi)))
  (try simp only [Act.put, List.setIfInBounds_toArray, List.set_cons_zero, List.set_cons_succ])
  go_loopg [20] k (fun kq v20 w' => ∃ (x20_1 : Int) (x294000_1 : ByteArray) (x299002_1 : List ByteArray) (u299002 : Value), v20 = .int .i64 x20_1 ∧ Aside0 (record_Get.l0 kq a0 ji5 x20_1 x294000_1 t294 (wrap64 (t296 - 1)) x299002_1 (⟨#[]⟩ : ByteArray) = some (r1, r2, r3, r4, r5)) ∧ Aside0 (kq ≤ k) ∧ Aside0 (Kd.R Kd.string 9 w' w.heap.size (fun _ => True) u299002 x299002_1) ∧ Aside0 (w'.heap[gb292]? = some (.cells #[.int .i64 0, .int .i64 0, (.slice none 0 0), .string (⟨#[]⟩ : ByteArray)] 24 (0, 0))) ∧ Aside0 (w'.heap[gb298]? = some (.cells #[.int .i64 t294, .int .i64 (wrap64 (t296 - 1)), u299002, .string (⟨#[]⟩ : ByteArray)] 24 (0, 0))) ∧ Aside0 (IsS74 w w' gb293 x294000_1) ∧ Aside0 (Below w.heap.size w w'))
  case atStart => exact ⟨(0), (t300), (([] : List ByteArray)), (.slice none 0 0), (by first | rfl | (simp; done) | (simp [*]; done)), H', ⟨Nat.le_refl _⟩, ⟨by first | exact Kd.R_nil _ _ _ _ _ | exact Kd.N_nil _ _ _ _ _ | exact Kd.V_nil _ _ _ _ _ | exact Kd.Q_nil _ _ _ _ _ | exact Kd.S_nil _ _ _ _ _⟩, ⟨by (with_reducible repeat (first | refine blk_drewN ?_ _ | refine blk_drew ?_ | refine blk_alloc ?_ _)); exact BK292.out⟩, ⟨by (with_reducible repeat (first | refine blk_drewN ?_ _ | refine blk_drew ?_ | refine blk_alloc ?_ _)); exact BK298.out⟩, ⟨by repeat (first | (with_reducible first | exact HI293.out | apply IsS74.alloc | apply IsS74.drewN | apply IsS74.drew | apply IsS74.set_0 | refine IsS74.far ?_ NB293_292.out _ | refine IsS74.far ?_ NB293_298.out _) | exact HI293.out)⟩, ⟨by repeat (first | (with_reducible first | exact HB.out | apply below_alloc | apply pw_below_drewN | apply below_drew1 | refine below_set ?_ (IsS74.ge HI293.out) | refine below_set ?_ GE292.out | refine below_set ?_ GE298.out) | exact HB.out)⟩⟩
  case round =>
    clear H'
    try clear c1
    try clear p2
    try clear c4
    try clear p6
    try clear c11
    try clear c12
    try clear hcz13_0
    try clear hcz13_1
    try clear hcz13_2
    try clear hcz13_3
    try clear hfz13_0
    try clear hfz13_1
    try clear hfz13_2
    try clear hfz13_3
    obtain ⟨x20_1, x294000_1, x299002_1, u299002, rfl, HA, HK1, HO_299002, BK292, BK298, HI293, HB⟩ := hrel
    cases gk with
    | zero => exact absurd HA.out (by simp [record_Get.l0])
    | succ k1 =>
      have H := HA.out
      clear HA
      simp only [record_Get.l0] at H
      by_cases c15 : x20_1 < ji5
      · rw [if_pos c15] at H
        have c15b0 : decide (x20_1 < ji5) = true := decide_eq_true c15
        clear c15
        replace H := Option.bind_eq_some_iff.mp H
        obtain ⟨⟨t301, t302⟩, A160, H⟩ := H
        replace H : (if x299002_1.length < 8796093022208 then (record_Get.l0 k1 a0 ji5 (wrap64 (x20_1 + 1)) t302 t294 (wrap64 (t296 - 1)) (x299002_1 ++ [t301]) (⟨#[]⟩ : ByteArray)) else (none)) = some (r1, r2, r3, r4, r5) := H
        have A16 := Aside0.mk A160
        clear A160
        by_cases c17 : x299002_1.length < 8796093022208
        · rw [if_pos c17] at H
          have LMc17 := Aside0.mk c17
          clear c17
          obtain ⟨y303, hy303⟩ : ∃ y_ : List ByteArray, y_ = (x299002_1 ++ [t301]) := ⟨_, rfl⟩
          replace H : (record_Get.l0 k1 a0 ji5 (wrap64 (x20_1 + 1)) t302 t294 (wrap64 (t296 - 1)) y303 (⟨#[]⟩ : ByteArray)) = some (r1, r2, r3, r4, r5) := by first | (rw [hy303]; with_reducible exact H) | (have H2_ := (Option.bind_some _ _).symm.trans H; rw [hy303]; with_reducible exact H2_) | (have H2_ := (Option.bind_some _ _).symm.trans H; with_reducible exact H2_) | with_reducible exact H | (rw [hy303]; exact H) | exact H
          have Ny303 := Aside0.mk hy303
          clear hy303
          have H' := Aside0.mk H
          clear H
          try go_wp2
          have n0_ := Aside0.mk (Kd.R_drew HO_299002.out)
          have n1_ := Aside0.mk (blk_drew BK292.out)
          have n2_ := Aside0.mk (blk_drew BK298.out)
          have n3_ := Aside0.mk (IsS74.drew HI293.out)
          have n4_ := Aside0.mk (below_drew1 HB.out)
          clear HO_299002
          clear BK292
          clear BK298
          clear HI293
          clear HB
          have HO_299002 := n0_
          have BK292 := n1_
          have BK298 := n2_
          have HI293 := n3_
          have HB := n4_
          clear n0_ n1_ n2_ n3_ n4_
          refine start_ (n := 8) (S := fun w' => w'.cell? ⟨gb298, 0, none⟩ = some (.int .i64 t294) ∧ w'.cell? ⟨gb298, 1, none⟩ = some (.int .i64 (wrap64 (t296 - 1))) ∧ w'.cell? ⟨gb298, 2, none⟩ = some (u299002) ∧ w'.cell? ⟨gb298, 3, none⟩ = some (.string (⟨#[]⟩ : ByteArray))) (ds := [7]) #[false, false, false, false, false, false, false, false] (by kernel_rfl) rfl rfl ⟨(blk_cell BK298.out 0).trans rfl, (blk_cell BK298.out 1).trans rfl, (blk_cell BK298.out 2).trans rfl, (blk_cell BK298.out 3).trans rfl⟩ (fun hHeld => ?_); refine with_tabW record_Get.tab5 record_Get.bits5 (fun HT_ HW_ => ?_)
          generalize wr.drew = w18 at HO_299002 BK292 BK298 HI293 HB hHeld ⊢
          refine pure_ (i := 0) (N := some 22) (v := ?_) (a' := ?_) #[true, false, false, false, false, false, false, false] rfl rfl (any_of HT_.out (by kernel_rfl)) (fun _ _ _ h => h) (Or.inl ⟨by rfl, ?_⟩) ?_ ?_
          rotate_left
          · intro w'
            go_simp
            with_reducible rfl
          rotate_left
          · simp only [Act.put, List.setIfInBounds_toArray, List.set_cons_zero, List.set_cons_succ, i64_w, i32_w]
            rfl
          refine pure_ (i := 2) (N := some 24) (v := ?_) (a' := ?_) #[true, false, true, false, false, false, false, false] rfl rfl (any_of HT_.out (by kernel_rfl)) (fun _ _ _ h => h) (Or.inl ⟨by rfl, ?_⟩) ?_ ?_
          rotate_left
          · intro w'
            go_simp
            with_reducible rfl
          rotate_left
          · simp only [Act.put, List.setIfInBounds_toArray, List.set_cons_zero, List.set_cons_succ, i64_w, i32_w]
            rfl
          refine take_ (i := 1) (N := some 23) (v := ?_) (a' := ?_) #[true, true, true, false, false, false, false, false] rfl rfl (take_ofW HT_.out HW_.out (by kernel_rfl)) (fun _ _ _ h => h) (Or.inl ⟨by rfl, ?_⟩) hHeld ?_ ?_
          rotate_left
          · rintro w' ⟨s0, s1, s2, s3⟩
            go_simp
            with_reducible rfl
          rotate_left
          · simp only [Act.put, List.setIfInBounds_toArray, List.set_cons_zero, List.set_cons_succ, i64_w, i32_w]
            rfl
          refine one_ (i := 3) (N := some 25) #[true, true, true, true, false, false, false, false] rfl rfl (one_of HT_.out (by kernel_rfl)) (by decide) (fun K hK => ?_)
          refine goes_ Tryd.func47 (by kernel_rfl) rfl #[.pointer (some ⟨gb293, 0, none⟩)] (by rfl) rfl rfl (by (try simp only [List.map_toArray, List.map_cons, List.map_nil]); first | done | rfl | (simp only [List.length_drop, List.length_take]; rfl)) ?_
          with_reducible refine (record_taker_text.calls gb293 x294000_1 t301 t302 w _ ?side1 ?side2 A16.out).mono ?_
          (case side1 => repeat (first | (with_reducible first | exact HI293.out | apply IsS74.alloc | apply IsS74.drewN | apply IsS74.drew | apply IsS74.set_0 | refine IsS74.far ?_ NB293_292.out _ | refine IsS74.far ?_ NB293_298.out _) | exact HI293.out))
          (case side2 => repeat (first | (with_reducible first | exact HB.out | apply below_alloc | apply pw_below_drewN | apply below_drew1 | refine below_set ?_ (IsS74.ge HI293.out) | refine below_set ?_ GE292.out | refine below_set ?_ GE298.out) | exact HB.out))
          rintro e w19 ⟨rfl, hi, hb, hk⟩
          refine ⟨_, rfl, ?_⟩
          have n0_ := Aside0.mk (Kd.R_mono (Kd.R_keep (IsS74.apart (show IsS74 w _ gb293 x294000_1 from by repeat (first | (with_reducible first | exact HI293.out | apply IsS74.alloc | apply IsS74.drewN | apply IsS74.drew | apply IsS74.set_0 | refine IsS74.far ?_ NB293_292.out _ | refine IsS74.far ?_ NB293_298.out _) | exact HI293.out)) (by (with_reducible repeat (first | apply Kd.R_alloc | apply Kd.R_drewN | apply Kd.R_drew)); exact HO_299002.out) (by decide)) hk (fun _ h => h.2)) (fun _ h => h.1))
          have n1_ := Aside0.mk (KeepBut.blk hk (g' := gb292) (o := .cells #[.int .i64 0, .int .i64 0, .slice none 0 0, .string (⟨#[]⟩ : ByteArray)] 24 (0, 0)) (by (with_reducible repeat (first | refine blk_drewN ?_ _ | refine blk_drew ?_ | refine blk_alloc ?_ _)); exact BK292.out) NB292_293.out (by simp))
          have n2_ := Aside0.mk (KeepBut.blk hk (g' := gb298) (o := .cells #[.int .i64 t294, .int .i64 (wrap64 (t296 - 1)), u299002, .string (⟨#[]⟩ : ByteArray)] 24 (0, 0)) (by (with_reducible repeat (first | refine blk_drewN ?_ _ | refine blk_drew ?_ | refine blk_alloc ?_ _)); exact BK298.out) NB298_293.out (by simp))
          have n3_ := Aside0.mk (hb)
          have n4_ := Aside0.mk (hi)
          clear HO_299002
          clear BK292
          clear BK298
          clear HB
          clear HI293
          have HO_299002 := n0_
          have BK292 := n1_
          have BK298 := n2_
          have HB := n3_
          have HI293 := n4_
          clear n0_ n1_ n2_ n3_ n4_
          (try clear hb)
          (try clear hb2)
          (try clear hk)
          (try clear hi)
          refine hK.out _ _ ⟨(blk_cell BK298.out 0).trans rfl, (blk_cell BK298.out 1).trans rfl, (blk_cell BK298.out 2).trans rfl, (blk_cell BK298.out 3).trans rfl⟩ (fun hHeld => ?_)
          clear hK K
          refine norm_ (a' := ?_) ?_ ?_
          rotate_left
          · show Act.put _ (some 25) _ = _
            simp only [Act.put, List.setIfInBounds_toArray, List.set_cons_zero, List.set_cons_succ, i64_w, i32_w]
            rfl
          refine one_ (i := 4) (N := some 26) #[true, true, true, true, true, false, false, false] rfl rfl (one_of HT_.out (by kernel_rfl)) (by decide) (fun K hK => ?_)
          refine value_ (w1 := ?_) (v := ?_) (by rfl) rfl ?_ ?_
          rotate_left 2
          · go_simp
            constructor
            · rfl
            · rfl
          refine hK.out _ _ ⟨(blk_cell (blk_alloc BK298.out _) 0).trans rfl, (blk_cell (blk_alloc BK298.out _) 1).trans rfl, (blk_cell (blk_alloc BK298.out _) 2).trans rfl, (blk_cell (blk_alloc BK298.out _) 3).trans rfl⟩ (fun hHeld => ?_)
          clear hK K
          refine norm_ (a' := ?_) ?_ ?_
          rotate_left
          · show Act.put _ (some 26) _ = _
            simp only [Act.put, List.setIfInBounds_toArray, List.set_cons_zero, List.set_cons_succ, i64_w, i32_w]
            rfl
          refine one_ (i := 5) (N := some 27) #[true, true, true, true, true, true, false, false] rfl rfl (one_of HT_.out (by kernel_rfl)) (by decide) (fun K hK => ?_)
          refine Kd.R_append_step Kd.string (w0 := w) w.heap.size (by rfl) (.tmp 23) (.tmp 26) 22 9 (.string ⟨#[]⟩) 16 rfl Tryd.underlying22 info9 rfl (by decide) (by omega) u299002 x299002_1 t301 [.string t301] (fun _ => True) (fun _ => False) rfl rfl ?aP (fun _ hk => hk.elim) ?aF ?aO ?aB ?aS ?aL ?_
          (case aP => exact rfl)
          (case aB => exact (by repeat (first | (with_reducible first | exact HB.out | apply below_alloc | apply pw_below_drewN | apply below_drew1 | refine below_set ?_ (IsS74.ge HI293.out) | refine below_set ?_ GE292.out | refine below_set ?_ GE298.out) | exact HB.out)))
          (case aF => exact (fun _ _ => trivial))
          (case aO => exact (by (with_reducible repeat (first | apply Kd.R_alloc | apply Kd.R_drewN | apply Kd.R_drew)); exact HO_299002.out))
          (case aS => exact (below_size (by repeat (first | (with_reducible first | exact HB.out | apply below_alloc | apply pw_below_drewN | apply below_drew1 | refine below_set ?_ (IsS74.ge HI293.out) | refine below_set ?_ GE292.out | refine below_set ?_ GE298.out) | exact HB.out))))
          (case aL => have := LMc17.out; omega)
          intro v304 w20 ho hb hg hat
          rw [← Ny303.out] at ho
          have n0_ := Aside0.mk (blk_grown (g := gb292) (o := .cells #[.int .i64 0, .int .i64 0, .slice none 0 0, .string (⟨#[]⟩ : ByteArray)] 24 (0, 0)) (by (with_reducible repeat (first | refine blk_drewN ?_ _ | refine blk_drew ?_ | refine blk_alloc ?_ _)); exact BK292.out) hg (Kd.R_ne HO_299002.out BK292.out (by decide)))
          have n1_ := Aside0.mk (blk_grown (g := gb298) (o := .cells #[.int .i64 t294, .int .i64 (wrap64 (t296 - 1)), u299002, .string (⟨#[]⟩ : ByteArray)] 24 (0, 0)) (by (with_reducible repeat (first | refine blk_drewN ?_ _ | refine blk_drew ?_ | refine blk_alloc ?_ _)); exact BK298.out) hg (Kd.R_ne HO_299002.out BK298.out (by decide)))
          have n2_ := Aside0.mk (IsS74.grown (by repeat (first | (with_reducible first | exact HI293.out | apply IsS74.alloc | apply IsS74.drewN | apply IsS74.drew | apply IsS74.set_0 | refine IsS74.far ?_ NB293_292.out _ | refine IsS74.far ?_ NB293_298.out _) | exact HI293.out)) hg (IsS74.own_ne HI293.out HO_299002.out (by decide)))
          have n3_ := Aside0.mk (hb)
          have n4_ := Aside0.mk (ho)
          clear BK292
          clear BK298
          clear HI293
          clear HB
          clear HO_299002
          have BK292 := n0_
          have BK298 := n1_
          have HI293 := n2_
          have HB := n3_
          have HO305 := n4_
          clear n0_ n1_ n2_ n3_ n4_
          clear ho hb hg hat
          obtain ⟨Ao21, co21, eo21⟩ := Kd.R_slice HO305.out
          (first | subst eo21 | (injection eo21 with f1_ f2_ f3_; have f4_ := f1_.symm; have f5_ := f3_.symm; clear f1_ f2_ f3_; subst f4_; subst f5_))
          refine hK.out _ _ ⟨(blk_cell BK298.out 0).trans rfl, (blk_cell BK298.out 1).trans rfl, (blk_cell BK298.out 2).trans rfl, (blk_cell BK298.out 3).trans rfl⟩ (fun hHeld => ?_)
          clear hK K
          refine norm_ (a' := ?_) ?_ ?_
          rotate_left
          · show Act.put _ (some 27) _ = _
            simp only [Act.put, List.setIfInBounds_toArray, List.set_cons_zero, List.set_cons_succ, i64_w, i32_w]
            rfl
          refine pure_ (i := 6) (N := some 28) (v := ?_) (a' := ?_) #[true, true, true, true, true, true, true, false] rfl rfl (any_of HT_.out (by kernel_rfl)) (fun _ _ _ h => h) (Or.inl ⟨by rfl, ?_⟩) ?_ ?_
          rotate_left
          · intro w'
            go_simp
            with_reducible rfl
          rotate_left
          · simp only [Act.put, List.setIfInBounds_toArray, List.set_cons_zero, List.set_cons_succ, i64_w, i32_w]
            rfl
          refine last_ (i := 7) (N := none) #[true, true, true, true, true, true, true, true] rfl rfl (one_of HT_.out (by kernel_rfl)) (by decide) (fun K hK => ?_)
          have hs22 : w20.cell? ⟨gb298, 2, none⟩ = some (u299002) := (blk_cell BK298.out 2).trans rfl
          have hfs22 := blk_frozen BK298.out 2
          have hns22_0 := NB292_298.out
          have hms22_0 := NB298_292.out
          refine skip_ (w1 := ?_) (by rfl) rfl ?_ ?_
          rotate_left
          · go_simp
            rfl
          refine hK.out _ _ ?_
          clear hK K
          refine done_ (done_of HT_.out (by kernel_rfl)) ?_
          try go_wp2
          go_roundg k1
          case measure => have := HK1.out; omega
          case rel => exact ⟨(wrap64 (x20_1 + 1)), (t302), (y303), (.slice Ao21 y303.length co21), (by first | rfl | (simp; done) | (simp [*]; done)), H', ⟨by have := HK1.out; omega⟩, ⟨by (with_reducible repeat (first | apply Kd.R_alloc | apply Kd.R_drewN | apply Kd.R_drew)); exact Kd.R_mono (Kd.R_far (p := ⟨gb298, 2, none⟩) (Kd.R_types HO305.out BK298.out (by decide)) (fun _ hk => hk.2) (.slice Ao21 y303.length co21)) (fun _ hk => trivial)⟩, ⟨by (with_reducible repeat (first | refine blk_drewN ?_ _ | refine blk_drew ?_ | refine blk_alloc ?_ _)); refine blk_far ?_ NB292_298.out _; (with_reducible repeat (first | refine blk_drewN ?_ _ | refine blk_drew ?_ | refine blk_alloc ?_ _)); exact BK292.out⟩, ⟨by (with_reducible repeat (first | refine blk_drewN ?_ _ | refine blk_drew ?_ | refine blk_alloc ?_ _)); refine blk_put (cs := #[.int .i64 t294, .int .i64 (wrap64 (t296 - 1)), u299002, .string (⟨#[]⟩ : ByteArray)]) ?_ 2 _ rfl; (with_reducible repeat (first | refine blk_drewN ?_ _ | refine blk_drew ?_ | refine blk_alloc ?_ _)); exact BK298.out⟩, ⟨by repeat (first | (with_reducible first | exact HI293.out | apply IsS74.alloc | apply IsS74.drewN | apply IsS74.drew | apply IsS74.set_0 | refine IsS74.far ?_ NB293_292.out _ | refine IsS74.far ?_ NB293_298.out _) | exact HI293.out)⟩, ⟨by repeat (first | (with_reducible first | exact HB.out | apply below_alloc | apply pw_below_drewN | apply below_drew1 | refine below_set ?_ (IsS74.ge HI293.out) | refine below_set ?_ GE292.out | refine below_set ?_ GE298.out) | exact HB.out)⟩⟩
        · rw [if_neg c17] at H
          exact absurd H (by simp)
      · rw [if_neg c15] at H
        have c15b0 : decide (x20_1 < ji5) = false := decide_eq_false c15
        clear c15
        replace H := Option.bind_eq_some_iff.mp H
        obtain ⟨⟨t306, t307⟩, A230, H⟩ := H
        replace H : ((record_Put.f k1 t294 (wrap64 (t296 - 1)) x299002_1 t306).bind fun bt308 => (if bt308.2 = 0 then (if bt308.1.toList = a0.toList then (some (t294, (wrap64 (t296 - 1)), x299002_1, t306, 0)) else (some (0, 0, ([] : List ByteArray), (⟨#[]⟩ : ByteArray), 1500))) else (some (0, 0, ([] : List ByteArray), (⟨#[]⟩ : ByteArray), 1500)))) = some (r1, r2, r3, r4, r5) := H
        have A23 := Aside0.mk A230
        clear A230
        replace H := Option.bind_eq_some_iff.mp H
        obtain ⟨⟨t308, t309⟩, A240, H⟩ := H
        replace H : (if t309 = 0 then (if t308.toList = a0.toList then (some (t294, (wrap64 (t296 - 1)), x299002_1, t306, 0)) else (some (0, 0, ([] : List ByteArray), (⟨#[]⟩ : ByteArray), 1500))) else (some (0, 0, ([] : List ByteArray), (⟨#[]⟩ : ByteArray), 1500))) = some (r1, r2, r3, r4, r5) := H
        have A24 := Aside0.mk A240
        clear A240
        by_cases c25 : t309 = 0
        · rw [if_pos c25] at H
          have c25b0 : (t309 == 0) = true := beq_iff_eq.mpr c25
          have c25b1 : (t309 != 0) = false := bne_eq_false_iff_eq.mpr c25
          clear c25
          by_cases c26 : t308.toList = a0.toList
          · rw [if_pos c26] at H
            have c26b0 : (t308.toList == a0.toList) = true := beq_iff_eq.mpr c26
            have c26b1 : (t308.toList != a0.toList) = false := bne_eq_false_iff_eq.mpr c26
            clear c26
            simp only [Option.some.injEq, Prod.mk.injEq] at H
            obtain ⟨rfl, rfl, rfl, rfl, rfl⟩ := H
            go_wp2_with (first | ((with_reducible refine gate_callee (f := 47) rfl ?_); refine goesL_ (some 31) rfl rfl Tryd.func47 (by kernel_rfl) rfl #[.pointer (some ⟨gb293, 0, none⟩)] rfl (by (try simp only [List.map_toArray, List.map_cons, List.map_nil]); first | done | rfl | (simp only [List.length_drop, List.length_take]; rfl)) ?_; (with_reducible refine (record_taker_text.calls gb293 x294000_1 t306 t307 w _ ?side1 ?side2 A23.out).mono ?_); (case side1 => repeat (first | (with_reducible first | exact HI293.out | apply IsS74.alloc | apply IsS74.drewN | apply IsS74.drew | apply IsS74.set_0 | refine IsS74.far ?_ NB293_292.out _ | refine IsS74.far ?_ NB293_298.out _) | exact HI293.out)); (case side2 => repeat (first | (with_reducible first | exact HB.out | apply below_alloc | apply pw_below_drewN | apply below_drew1 | refine below_set ?_ (IsS74.ge HI293.out) | refine below_set ?_ GE292.out | refine below_set ?_ GE298.out) | exact HB.out)); rintro e w27 ⟨rfl, hi, hb, hk⟩; refine ⟨_, rfl, ?_⟩; have n0_ := Aside0.mk (Kd.R_mono (Kd.R_keep (IsS74.apart (show IsS74 w _ gb293 x294000_1 from by repeat (first | (with_reducible first | exact HI293.out | apply IsS74.alloc | apply IsS74.drewN | apply IsS74.drew | apply IsS74.set_0 | refine IsS74.far ?_ NB293_292.out _ | refine IsS74.far ?_ NB293_298.out _) | exact HI293.out)) (by (with_reducible repeat (first | apply Kd.R_alloc | apply Kd.R_drewN | apply Kd.R_drew)); exact HO_299002.out) (by decide)) hk (fun _ h => h.2)) (fun _ h => h.1)); have n1_ := Aside0.mk (KeepBut.blk hk (g' := gb292) (o := .cells #[.int .i64 0, .int .i64 0, .slice none 0 0, .string (⟨#[]⟩ : ByteArray)] 24 (0, 0)) (by (with_reducible repeat (first | refine blk_drewN ?_ _ | refine blk_drew ?_ | refine blk_alloc ?_ _)); exact BK292.out) NB292_293.out (by simp)); have n2_ := Aside0.mk (KeepBut.blk hk (g' := gb298) (o := .cells #[.int .i64 t294, .int .i64 (wrap64 (t296 - 1)), u299002, .string (⟨#[]⟩ : ByteArray)] 24 (0, 0)) (by (with_reducible repeat (first | refine blk_drewN ?_ _ | refine blk_drew ?_ | refine blk_alloc ?_ _)); exact BK298.out) NB298_293.out (by simp)); have n3_ := Aside0.mk (hb); have n4_ := Aside0.mk (hi); clear HO_299002; clear BK292; clear BK298; clear HB; clear HI293; have HO_299002 := n0_; have BK292 := n1_; have BK298 := n2_; have HB := n3_; have HI293 := n4_; clear n0_ n1_ n2_ n3_ n4_; (try clear hb); (try clear hb2); (try clear hk); (try clear hi); have hnb28 := NB298_292.out; have hnc28 := NB292_298.out; have hnb29 := NB298_293.out; have hnc29 := NB293_298.out; have hcz30_0 : w27.cell? ⟨gb298, 0, none⟩ = some (.int .i64 t294) := (blk_cell BK298.out 0).trans rfl; have hcz30_1 : w27.cell? ⟨gb298, 1, none⟩ = some (.int .i64 (wrap64 (t296 - 1))) := (blk_cell BK298.out 1).trans rfl; have hcz30_2 : w27.cell? ⟨gb298, 2, none⟩ = some (u299002) := (blk_cell BK298.out 2).trans rfl; have hcz30_3 : w27.cell? ⟨gb298, 3, none⟩ = some (.string (⟨#[]⟩ : ByteArray)) := (blk_cell BK298.out 3).trans rfl; have hfz30_0 := blk_frozen BK298.out 0; have hfz30_1 := blk_frozen BK298.out 1; have hfz30_2 := blk_frozen BK298.out 2; have hfz30_3 := blk_frozen BK298.out 3; obtain ⟨Ao31, co31, eo31⟩ := Kd.R_slice HO_299002.out; subst eo31) | ((with_reducible refine gate_callee (f := 15) rfl ?_); refine goesL_ (some 35) rfl rfl Tryd.func15 (by kernel_rfl) rfl #[.agg #[.int .i64 t294, .int .i64 (wrap64 (t296 - 1)), .slice Ao31 x299002_1.length co31, .string t306]] rfl (by (try simp only [List.map_toArray, List.map_cons, List.map_nil]); first | done | rfl | (simp only [List.length_drop, List.length_take]; rfl)) ?_; (with_reducible refine (record_Put.calls k1 t294 (wrap64 (t296 - 1)) _ _ x299002_1 t306 t308 t309 _ ?side1 ?side2 ?side3 A24.out).mono ?_); (case side1 => refine (Kd.R_reads' (e := 9) (base := w.heap.size) (ok := fun k_ => True) (n := x299002_1.length) (c := co31) ?_).2.2; exact (by (with_reducible repeat (first | apply Kd.R_alloc | apply Kd.R_drewN | apply Kd.R_drew)); exact (Kd.R_mono (Kd.R_far (p := ⟨gb298, 3, none⟩) (Kd.R_types HO_299002.out BK298.out (by decide)) (fun _ hk => hk.2) (.string t306)) (fun _ h_ => h_.1)))); (case side2 => exact (Kd.R_reads' HO_299002.out).2.1); (case side3 => exact Laid.below HLaid.out (by repeat (first | (with_reducible first | exact HB.out | apply below_alloc | apply pw_below_drewN | apply below_drew1 | refine below_set ?_ (IsS74.ge HI293.out) | refine below_set ?_ GE292.out | refine below_set ?_ GE298.out) | exact HB.out))); rintro e w32 ⟨rfl, hb⟩; refine ⟨_, rfl, ?_⟩; have n0_ := Aside0.mk (Kd.R_below (by (with_reducible repeat (first | apply Kd.R_alloc | apply Kd.R_drewN | apply Kd.R_drew)); exact (Kd.R_mono (Kd.R_far (p := ⟨gb298, 3, none⟩) (Kd.R_types HO_299002.out BK298.out (by decide)) (fun _ hk => hk.2) (.string t306)) (fun _ h_ => h_.1))) hb); have n1_ := Aside0.mk (blk_below (g := gb292) (o := .cells #[.int .i64 0, .int .i64 0, .slice none 0 0, .string (⟨#[]⟩ : ByteArray)] 24 (0, 0)) (by (with_reducible repeat (first | refine blk_drewN ?_ _ | refine blk_drew ?_ | refine blk_alloc ?_ _)); refine blk_far ?_ NB292_298.out _; (with_reducible repeat (first | refine blk_drewN ?_ _ | refine blk_drew ?_ | refine blk_alloc ?_ _)); exact BK292.out) hb); have n2_ := Aside0.mk (blk_below (g := gb298) (o := .cells #[.int .i64 t294, .int .i64 (wrap64 (t296 - 1)), .slice Ao31 x299002_1.length co31, .string t306] 24 (0, 0)) (by (with_reducible repeat (first | refine blk_drewN ?_ _ | refine blk_drew ?_ | refine blk_alloc ?_ _)); refine blk_put (cs := #[.int .i64 t294, .int .i64 (wrap64 (t296 - 1)), .slice Ao31 x299002_1.length co31, .string (⟨#[]⟩ : ByteArray)]) ?_ 3 _ rfl; (with_reducible repeat (first | refine blk_drewN ?_ _ | refine blk_drew ?_ | refine blk_alloc ?_ _)); exact BK298.out) hb); have n3_ := Aside0.mk (IsS74.below (show IsS74 w (w27.setCell ⟨gb298, 3, none⟩ (.string t306)) gb293 t307 from by repeat (first | (with_reducible first | exact HI293.out | apply IsS74.alloc | apply IsS74.drewN | apply IsS74.drew | apply IsS74.set_0 | refine IsS74.far ?_ NB293_292.out _ | refine IsS74.far ?_ NB293_298.out _) | exact HI293.out)) hb); have n4_ := Aside0.mk (below_step (by repeat (first | (with_reducible first | exact HB.out | apply below_alloc | apply pw_below_drewN | apply below_drew1 | refine below_set ?_ (IsS74.ge HI293.out) | refine below_set ?_ GE292.out | refine below_set ?_ GE298.out) | exact HB.out)) hb); clear HO_299002; clear BK292; clear BK298; clear HI293; clear HB; have HO_299002 := n0_; have BK292 := n1_; have BK298 := n2_; have HI293 := n3_; have HB := n4_; clear n0_ n1_ n2_ n3_ n4_; (try clear hb); (try clear hb2); (try clear hk); (try clear hi); have hcz33_0 : w32.cell? ⟨gb298, 0, none⟩ = some (.int .i64 t294) := (blk_cell BK298.out 0).trans rfl; have hcz33_1 : w32.cell? ⟨gb298, 1, none⟩ = some (.int .i64 (wrap64 (t296 - 1))) := (blk_cell BK298.out 1).trans rfl; have hcz33_2 : w32.cell? ⟨gb298, 2, none⟩ = some (.slice Ao31 x299002_1.length co31) := (blk_cell BK298.out 2).trans rfl; have hcz33_3 : w32.cell? ⟨gb298, 3, none⟩ = some (.string t306) := (blk_cell BK298.out 3).trans rfl; have hfz33_0 := blk_frozen BK298.out 0; have hfz33_1 := blk_frozen BK298.out 1; have hfz33_2 := blk_frozen BK298.out 2; have hfz33_3 := blk_frozen BK298.out 3; have hnb34 := NB292_293.out; have hnc34 := NB293_292.out; have hcz35_0 : w32.cell? ⟨gb292, 0, none⟩ = some (.int .i64 0) := (blk_cell BK292.out 0).trans rfl; have hcz35_1 : w32.cell? ⟨gb292, 1, none⟩ = some (.int .i64 0) := (blk_cell BK292.out 1).trans rfl; have hcz35_2 : w32.cell? ⟨gb292, 2, none⟩ = some (.slice none 0 0) := (blk_cell BK292.out 2).trans rfl; have hcz35_3 : w32.cell? ⟨gb292, 3, none⟩ = some (.string (⟨#[]⟩ : ByteArray)) := (blk_cell BK292.out 3).trans rfl; have hfz35_0 := blk_frozen BK292.out 0; have hfz35_1 := blk_frozen BK292.out 1; have hfz35_2 := blk_frozen BK292.out 2; have hfz35_3 := blk_frozen BK292.out 3))
            refine bodyPost_ret (results_ct rfl _ _ gb292 24 #[.int .i64 t294, .int .i64 (wrap64 (t296 - 1)), .slice Ao31 x299002_1.length co31, .string t306] (0, 0) _ rfl (by (with_reducible repeat (first | refine blk_drewN ?_ _ | refine blk_drew ?_ | refine blk_alloc ?_ _)); refine blk_put (cs := #[.int .i64 t294, .int .i64 (wrap64 (t296 - 1)), .slice Ao31 x299002_1.length co31, .string (⟨#[]⟩ : ByteArray)]) ?_ 3 _ rfl; (with_reducible repeat (first | refine blk_drewN ?_ _ | refine blk_drew ?_ | refine blk_alloc ?_ _)); refine blk_put (cs := #[.int .i64 t294, .int .i64 (wrap64 (t296 - 1)), .slice none 0 0, .string (⟨#[]⟩ : ByteArray)]) ?_ 2 _ rfl; (with_reducible repeat (first | refine blk_drewN ?_ _ | refine blk_drew ?_ | refine blk_alloc ?_ _)); refine blk_put (cs := #[.int .i64 t294, .int .i64 0, .slice none 0 0, .string (⟨#[]⟩ : ByteArray)]) ?_ 1 _ rfl; (with_reducible repeat (first | refine blk_drewN ?_ _ | refine blk_drew ?_ | refine blk_alloc ?_ _)); refine blk_put (cs := #[.int .i64 0, .int .i64 0, .slice none 0 0, .string (⟨#[]⟩ : ByteArray)]) ?_ 0 _ rfl; (with_reducible repeat (first | refine blk_drewN ?_ _ | refine blk_drew ?_ | refine blk_alloc ?_ _)); exact BK292.out) Tryd.underlying24 rfl (by kernel_rfl)) rfl ?_
            exact ⟨_, by first | rfl | (simp [errW_none, errW_some] <;> rfl) | (simp only [← hji5]; first | rfl | (simp [errW_none, errW_some] <;> rfl)) | (simp [*, errW_none, errW_some] <;> rfl), by (with_reducible repeat (first | apply Kd.R_alloc | apply Kd.R_drewN | apply Kd.R_drew)); exact Kd.R_mono (Kd.R_far (p := ⟨gb292, 3, none⟩) (Kd.R_far (p := ⟨gb292, 2, none⟩) (Kd.R_far (p := ⟨gb292, 1, none⟩) (Kd.R_far (p := ⟨gb292, 0, none⟩) (Kd.R_types HO_299002.out BK292.out (by decide)) (fun _ hk => hk.2) (.int .i64 t294)) (fun _ hk => hk.2) (.int .i64 (wrap64 (t296 - 1)))) (fun _ hk => hk.2) (.slice Ao31 x299002_1.length co31)) (fun _ hk => hk.2) (.string t306)) (fun _ hk => trivial), by repeat (first | (with_reducible first | exact HB.out | apply below_alloc | apply pw_below_drewN | apply below_drew1 | refine below_set ?_ (IsS74.ge HI293.out) | refine below_set ?_ GE292.out | refine below_set ?_ GE298.out) | exact HB.out)⟩
          · rw [if_neg c26] at H
            have c26b0 : (t308.toList == a0.toList) = false := beq_eq_false_iff_ne.mpr c26
            have c26b1 : (t308.toList != a0.toList) = true := bne_iff_ne.mpr c26
            simp only [Option.some.injEq, Prod.mk.injEq] at H
            obtain ⟨rfl, rfl, rfl, rfl, rfl⟩ := H
            go_wp2_with (first | ((with_reducible refine gate_callee (f := 47) rfl ?_); refine goesL_ (some 31) rfl rfl Tryd.func47 (by kernel_rfl) rfl #[.pointer (some ⟨gb293, 0, none⟩)] rfl (by (try simp only [List.map_toArray, List.map_cons, List.map_nil]); first | done | rfl | (simp only [List.length_drop, List.length_take]; rfl)) ?_; (with_reducible refine (record_taker_text.calls gb293 x294000_1 t306 t307 w _ ?side1 ?side2 A23.out).mono ?_); (case side1 => repeat (first | (with_reducible first | exact HI293.out | apply IsS74.alloc | apply IsS74.drewN | apply IsS74.drew | apply IsS74.set_0 | refine IsS74.far ?_ NB293_292.out _ | refine IsS74.far ?_ NB293_298.out _) | exact HI293.out)); (case side2 => repeat (first | (with_reducible first | exact HB.out | apply below_alloc | apply pw_below_drewN | apply below_drew1 | refine below_set ?_ (IsS74.ge HI293.out) | refine below_set ?_ GE292.out | refine below_set ?_ GE298.out) | exact HB.out)); rintro e w36 ⟨rfl, hi, hb, hk⟩; refine ⟨_, rfl, ?_⟩; have n0_ := Aside0.mk (Kd.R_mono (Kd.R_keep (IsS74.apart (show IsS74 w _ gb293 x294000_1 from by repeat (first | (with_reducible first | exact HI293.out | apply IsS74.alloc | apply IsS74.drewN | apply IsS74.drew | apply IsS74.set_0 | refine IsS74.far ?_ NB293_292.out _ | refine IsS74.far ?_ NB293_298.out _) | exact HI293.out)) (by (with_reducible repeat (first | apply Kd.R_alloc | apply Kd.R_drewN | apply Kd.R_drew)); exact HO_299002.out) (by decide)) hk (fun _ h => h.2)) (fun _ h => h.1)); have n1_ := Aside0.mk (KeepBut.blk hk (g' := gb292) (o := .cells #[.int .i64 0, .int .i64 0, .slice none 0 0, .string (⟨#[]⟩ : ByteArray)] 24 (0, 0)) (by (with_reducible repeat (first | refine blk_drewN ?_ _ | refine blk_drew ?_ | refine blk_alloc ?_ _)); exact BK292.out) NB292_293.out (by simp)); have n2_ := Aside0.mk (KeepBut.blk hk (g' := gb298) (o := .cells #[.int .i64 t294, .int .i64 (wrap64 (t296 - 1)), u299002, .string (⟨#[]⟩ : ByteArray)] 24 (0, 0)) (by (with_reducible repeat (first | refine blk_drewN ?_ _ | refine blk_drew ?_ | refine blk_alloc ?_ _)); exact BK298.out) NB298_293.out (by simp)); have n3_ := Aside0.mk (hb); have n4_ := Aside0.mk (hi); clear HO_299002; clear BK292; clear BK298; clear HB; clear HI293; have HO_299002 := n0_; have BK292 := n1_; have BK298 := n2_; have HB := n3_; have HI293 := n4_; clear n0_ n1_ n2_ n3_ n4_; (try clear hb); (try clear hb2); (try clear hk); (try clear hi); have hnb37 := NB298_292.out; have hnc37 := NB292_298.out; have hnb38 := NB298_293.out; have hnc38 := NB293_298.out; have hcz39_0 : w36.cell? ⟨gb298, 0, none⟩ = some (.int .i64 t294) := (blk_cell BK298.out 0).trans rfl; have hcz39_1 : w36.cell? ⟨gb298, 1, none⟩ = some (.int .i64 (wrap64 (t296 - 1))) := (blk_cell BK298.out 1).trans rfl; have hcz39_2 : w36.cell? ⟨gb298, 2, none⟩ = some (u299002) := (blk_cell BK298.out 2).trans rfl; have hcz39_3 : w36.cell? ⟨gb298, 3, none⟩ = some (.string (⟨#[]⟩ : ByteArray)) := (blk_cell BK298.out 3).trans rfl; have hfz39_0 := blk_frozen BK298.out 0; have hfz39_1 := blk_frozen BK298.out 1; have hfz39_2 := blk_frozen BK298.out 2; have hfz39_3 := blk_frozen BK298.out 3; obtain ⟨Ao40, co40, eo40⟩ := Kd.R_slice HO_299002.out; subst eo40) | ((with_reducible refine gate_callee (f := 15) rfl ?_); refine goesL_ (some 35) rfl rfl Tryd.func15 (by kernel_rfl) rfl #[.agg #[.int .i64 t294, .int .i64 (wrap64 (t296 - 1)), .slice Ao40 x299002_1.length co40, .string t306]] rfl (by (try simp only [List.map_toArray, List.map_cons, List.map_nil]); first | done | rfl | (simp only [List.length_drop, List.length_take]; rfl)) ?_; (with_reducible refine (record_Put.calls k1 t294 (wrap64 (t296 - 1)) _ _ x299002_1 t306 t308 t309 _ ?side1 ?side2 ?side3 A24.out).mono ?_); (case side1 => refine (Kd.R_reads' (e := 9) (base := w.heap.size) (ok := fun k_ => True) (n := x299002_1.length) (c := co40) ?_).2.2; exact (by (with_reducible repeat (first | apply Kd.R_alloc | apply Kd.R_drewN | apply Kd.R_drew)); exact (Kd.R_mono (Kd.R_far (p := ⟨gb298, 3, none⟩) (Kd.R_types HO_299002.out BK298.out (by decide)) (fun _ hk => hk.2) (.string t306)) (fun _ h_ => h_.1)))); (case side2 => exact (Kd.R_reads' HO_299002.out).2.1); (case side3 => exact Laid.below HLaid.out (by repeat (first | (with_reducible first | exact HB.out | apply below_alloc | apply pw_below_drewN | apply below_drew1 | refine below_set ?_ (IsS74.ge HI293.out) | refine below_set ?_ GE292.out | refine below_set ?_ GE298.out) | exact HB.out))); rintro e w41 ⟨rfl, hb⟩; refine ⟨_, rfl, ?_⟩; have n0_ := Aside0.mk (Kd.R_below (by (with_reducible repeat (first | apply Kd.R_alloc | apply Kd.R_drewN | apply Kd.R_drew)); exact (Kd.R_mono (Kd.R_far (p := ⟨gb298, 3, none⟩) (Kd.R_types HO_299002.out BK298.out (by decide)) (fun _ hk => hk.2) (.string t306)) (fun _ h_ => h_.1))) hb); have n1_ := Aside0.mk (blk_below (g := gb292) (o := .cells #[.int .i64 0, .int .i64 0, .slice none 0 0, .string (⟨#[]⟩ : ByteArray)] 24 (0, 0)) (by (with_reducible repeat (first | refine blk_drewN ?_ _ | refine blk_drew ?_ | refine blk_alloc ?_ _)); refine blk_far ?_ NB292_298.out _; (with_reducible repeat (first | refine blk_drewN ?_ _ | refine blk_drew ?_ | refine blk_alloc ?_ _)); exact BK292.out) hb); have n2_ := Aside0.mk (blk_below (g := gb298) (o := .cells #[.int .i64 t294, .int .i64 (wrap64 (t296 - 1)), .slice Ao40 x299002_1.length co40, .string t306] 24 (0, 0)) (by (with_reducible repeat (first | refine blk_drewN ?_ _ | refine blk_drew ?_ | refine blk_alloc ?_ _)); refine blk_put (cs := #[.int .i64 t294, .int .i64 (wrap64 (t296 - 1)), .slice Ao40 x299002_1.length co40, .string (⟨#[]⟩ : ByteArray)]) ?_ 3 _ rfl; (with_reducible repeat (first | refine blk_drewN ?_ _ | refine blk_drew ?_ | refine blk_alloc ?_ _)); exact BK298.out) hb); have n3_ := Aside0.mk (IsS74.below (show IsS74 w (w36.setCell ⟨gb298, 3, none⟩ (.string t306)) gb293 t307 from by repeat (first | (with_reducible first | exact HI293.out | apply IsS74.alloc | apply IsS74.drewN | apply IsS74.drew | apply IsS74.set_0 | refine IsS74.far ?_ NB293_292.out _ | refine IsS74.far ?_ NB293_298.out _) | exact HI293.out)) hb); have n4_ := Aside0.mk (below_step (by repeat (first | (with_reducible first | exact HB.out | apply below_alloc | apply pw_below_drewN | apply below_drew1 | refine below_set ?_ (IsS74.ge HI293.out) | refine below_set ?_ GE292.out | refine below_set ?_ GE298.out) | exact HB.out)) hb); clear HO_299002; clear BK292; clear BK298; clear HI293; clear HB; have HO_299002 := n0_; have BK292 := n1_; have BK298 := n2_; have HI293 := n3_; have HB := n4_; clear n0_ n1_ n2_ n3_ n4_; (try clear hb); (try clear hb2); (try clear hk); (try clear hi); have hnb42 := NB292_293.out; have hnc42 := NB293_292.out; have hcz43_0 : w41.cell? ⟨gb292, 0, none⟩ = some (.int .i64 0) := (blk_cell BK292.out 0).trans rfl; have hcz43_1 : w41.cell? ⟨gb292, 1, none⟩ = some (.int .i64 0) := (blk_cell BK292.out 1).trans rfl; have hcz43_2 : w41.cell? ⟨gb292, 2, none⟩ = some (.slice none 0 0) := (blk_cell BK292.out 2).trans rfl; have hcz43_3 : w41.cell? ⟨gb292, 3, none⟩ = some (.string (⟨#[]⟩ : ByteArray)) := (blk_cell BK292.out 3).trans rfl; have hfz43_0 := blk_frozen BK292.out 0; have hfz43_1 := blk_frozen BK292.out 1; have hfz43_2 := blk_frozen BK292.out 2; have hfz43_3 := blk_frozen BK292.out 3))
            refine bodyPost_ret (results_ct rfl _ _ gb292 24 #[.int .i64 0, .int .i64 0, .slice none 0 0, .string (⟨#[]⟩ : ByteArray)] (0, 0) _ rfl (by (with_reducible repeat (first | refine blk_drewN ?_ _ | refine blk_drew ?_ | refine blk_alloc ?_ _)); refine blk_put (cs := #[.int .i64 0, .int .i64 0, .slice none 0 0, .string (⟨#[]⟩ : ByteArray)]) ?_ 3 _ rfl; (with_reducible repeat (first | refine blk_drewN ?_ _ | refine blk_drew ?_ | refine blk_alloc ?_ _)); refine blk_put (cs := #[.int .i64 0, .int .i64 0, .slice none 0 0, .string (⟨#[]⟩ : ByteArray)]) ?_ 2 _ rfl; (with_reducible repeat (first | refine blk_drewN ?_ _ | refine blk_drew ?_ | refine blk_alloc ?_ _)); refine blk_put (cs := #[.int .i64 0, .int .i64 0, .slice none 0 0, .string (⟨#[]⟩ : ByteArray)]) ?_ 1 _ rfl; (with_reducible repeat (first | refine blk_drewN ?_ _ | refine blk_drew ?_ | refine blk_alloc ?_ _)); refine blk_put (cs := #[.int .i64 0, .int .i64 0, .slice none 0 0, .string (⟨#[]⟩ : ByteArray)]) ?_ 0 _ rfl; (with_reducible repeat (first | refine blk_drewN ?_ _ | refine blk_drew ?_ | refine blk_alloc ?_ _)); exact BK292.out) Tryd.underlying24 rfl (by kernel_rfl)) rfl ?_
            exact ⟨_, by first | rfl | (simp [errW_none, errW_some] <;> rfl) | (simp only [← hji5]; first | rfl | (simp [errW_none, errW_some] <;> rfl)) | (simp [*, errW_none, errW_some] <;> rfl), by first | exact Kd.R_nil _ _ _ _ _ | exact Kd.N_nil _ _ _ _ _ | exact Kd.V_nil _ _ _ _ _ | exact Kd.Q_nil _ _ _ _ _ | exact Kd.S_nil _ _ _ _ _, by repeat (first | (with_reducible first | exact HB.out | apply below_alloc | apply pw_below_drewN | apply below_drew1 | refine below_set ?_ (IsS74.ge HI293.out) | refine below_set ?_ GE292.out | refine below_set ?_ GE298.out) | exact HB.out)⟩
        · rw [if_neg c25] at H
          have c25b0 : (t309 == 0) = false := beq_eq_false_iff_ne.mpr c25
          have c25b1 : (t309 != 0) = true := bne_iff_ne.mpr c25
          simp only [Option.some.injEq, Prod.mk.injEq] at H
          obtain ⟨rfl, rfl, rfl, rfl, rfl⟩ := H
          go_wp2_with (first | ((with_reducible refine gate_callee (f := 47) rfl ?_); refine goesL_ (some 31) rfl rfl Tryd.func47 (by kernel_rfl) rfl #[.pointer (some ⟨gb293, 0, none⟩)] rfl (by (try simp only [List.map_toArray, List.map_cons, List.map_nil]); first | done | rfl | (simp only [List.length_drop, List.length_take]; rfl)) ?_; (with_reducible refine (record_taker_text.calls gb293 x294000_1 t306 t307 w _ ?side1 ?side2 A23.out).mono ?_); (case side1 => repeat (first | (with_reducible first | exact HI293.out | apply IsS74.alloc | apply IsS74.drewN | apply IsS74.drew | apply IsS74.set_0 | refine IsS74.far ?_ NB293_292.out _ | refine IsS74.far ?_ NB293_298.out _) | exact HI293.out)); (case side2 => repeat (first | (with_reducible first | exact HB.out | apply below_alloc | apply pw_below_drewN | apply below_drew1 | refine below_set ?_ (IsS74.ge HI293.out) | refine below_set ?_ GE292.out | refine below_set ?_ GE298.out) | exact HB.out)); rintro e w44 ⟨rfl, hi, hb, hk⟩; refine ⟨_, rfl, ?_⟩; have n0_ := Aside0.mk (Kd.R_mono (Kd.R_keep (IsS74.apart (show IsS74 w _ gb293 x294000_1 from by repeat (first | (with_reducible first | exact HI293.out | apply IsS74.alloc | apply IsS74.drewN | apply IsS74.drew | apply IsS74.set_0 | refine IsS74.far ?_ NB293_292.out _ | refine IsS74.far ?_ NB293_298.out _) | exact HI293.out)) (by (with_reducible repeat (first | apply Kd.R_alloc | apply Kd.R_drewN | apply Kd.R_drew)); exact HO_299002.out) (by decide)) hk (fun _ h => h.2)) (fun _ h => h.1)); have n1_ := Aside0.mk (KeepBut.blk hk (g' := gb292) (o := .cells #[.int .i64 0, .int .i64 0, .slice none 0 0, .string (⟨#[]⟩ : ByteArray)] 24 (0, 0)) (by (with_reducible repeat (first | refine blk_drewN ?_ _ | refine blk_drew ?_ | refine blk_alloc ?_ _)); exact BK292.out) NB292_293.out (by simp)); have n2_ := Aside0.mk (KeepBut.blk hk (g' := gb298) (o := .cells #[.int .i64 t294, .int .i64 (wrap64 (t296 - 1)), u299002, .string (⟨#[]⟩ : ByteArray)] 24 (0, 0)) (by (with_reducible repeat (first | refine blk_drewN ?_ _ | refine blk_drew ?_ | refine blk_alloc ?_ _)); exact BK298.out) NB298_293.out (by simp)); have n3_ := Aside0.mk (hb); have n4_ := Aside0.mk (hi); clear HO_299002; clear BK292; clear BK298; clear HB; clear HI293; have HO_299002 := n0_; have BK292 := n1_; have BK298 := n2_; have HB := n3_; have HI293 := n4_; clear n0_ n1_ n2_ n3_ n4_; (try clear hb); (try clear hb2); (try clear hk); (try clear hi); have hnb45 := NB298_292.out; have hnc45 := NB292_298.out; have hnb46 := NB298_293.out; have hnc46 := NB293_298.out; have hcz47_0 : w44.cell? ⟨gb298, 0, none⟩ = some (.int .i64 t294) := (blk_cell BK298.out 0).trans rfl; have hcz47_1 : w44.cell? ⟨gb298, 1, none⟩ = some (.int .i64 (wrap64 (t296 - 1))) := (blk_cell BK298.out 1).trans rfl; have hcz47_2 : w44.cell? ⟨gb298, 2, none⟩ = some (u299002) := (blk_cell BK298.out 2).trans rfl; have hcz47_3 : w44.cell? ⟨gb298, 3, none⟩ = some (.string (⟨#[]⟩ : ByteArray)) := (blk_cell BK298.out 3).trans rfl; have hfz47_0 := blk_frozen BK298.out 0; have hfz47_1 := blk_frozen BK298.out 1; have hfz47_2 := blk_frozen BK298.out 2; have hfz47_3 := blk_frozen BK298.out 3; obtain ⟨Ao48, co48, eo48⟩ := Kd.R_slice HO_299002.out; subst eo48) | ((with_reducible refine gate_callee (f := 15) rfl ?_); refine goesL_ (some 35) rfl rfl Tryd.func15 (by kernel_rfl) rfl #[.agg #[.int .i64 t294, .int .i64 (wrap64 (t296 - 1)), .slice Ao48 x299002_1.length co48, .string t306]] rfl (by (try simp only [List.map_toArray, List.map_cons, List.map_nil]); first | done | rfl | (simp only [List.length_drop, List.length_take]; rfl)) ?_; (with_reducible refine (record_Put.calls k1 t294 (wrap64 (t296 - 1)) _ _ x299002_1 t306 t308 t309 _ ?side1 ?side2 ?side3 A24.out).mono ?_); (case side1 => refine (Kd.R_reads' (e := 9) (base := w.heap.size) (ok := fun k_ => True) (n := x299002_1.length) (c := co48) ?_).2.2; exact (by (with_reducible repeat (first | apply Kd.R_alloc | apply Kd.R_drewN | apply Kd.R_drew)); exact (Kd.R_mono (Kd.R_far (p := ⟨gb298, 3, none⟩) (Kd.R_types HO_299002.out BK298.out (by decide)) (fun _ hk => hk.2) (.string t306)) (fun _ h_ => h_.1)))); (case side2 => exact (Kd.R_reads' HO_299002.out).2.1); (case side3 => exact Laid.below HLaid.out (by repeat (first | (with_reducible first | exact HB.out | apply below_alloc | apply pw_below_drewN | apply below_drew1 | refine below_set ?_ (IsS74.ge HI293.out) | refine below_set ?_ GE292.out | refine below_set ?_ GE298.out) | exact HB.out))); rintro e w49 ⟨rfl, hb⟩; refine ⟨_, rfl, ?_⟩; have n0_ := Aside0.mk (Kd.R_below (by (with_reducible repeat (first | apply Kd.R_alloc | apply Kd.R_drewN | apply Kd.R_drew)); exact (Kd.R_mono (Kd.R_far (p := ⟨gb298, 3, none⟩) (Kd.R_types HO_299002.out BK298.out (by decide)) (fun _ hk => hk.2) (.string t306)) (fun _ h_ => h_.1))) hb); have n1_ := Aside0.mk (blk_below (g := gb292) (o := .cells #[.int .i64 0, .int .i64 0, .slice none 0 0, .string (⟨#[]⟩ : ByteArray)] 24 (0, 0)) (by (with_reducible repeat (first | refine blk_drewN ?_ _ | refine blk_drew ?_ | refine blk_alloc ?_ _)); refine blk_far ?_ NB292_298.out _; (with_reducible repeat (first | refine blk_drewN ?_ _ | refine blk_drew ?_ | refine blk_alloc ?_ _)); exact BK292.out) hb); have n2_ := Aside0.mk (blk_below (g := gb298) (o := .cells #[.int .i64 t294, .int .i64 (wrap64 (t296 - 1)), .slice Ao48 x299002_1.length co48, .string t306] 24 (0, 0)) (by (with_reducible repeat (first | refine blk_drewN ?_ _ | refine blk_drew ?_ | refine blk_alloc ?_ _)); refine blk_put (cs := #[.int .i64 t294, .int .i64 (wrap64 (t296 - 1)), .slice Ao48 x299002_1.length co48, .string (⟨#[]⟩ : ByteArray)]) ?_ 3 _ rfl; (with_reducible repeat (first | refine blk_drewN ?_ _ | refine blk_drew ?_ | refine blk_alloc ?_ _)); exact BK298.out) hb); have n3_ := Aside0.mk (IsS74.below (show IsS74 w (w44.setCell ⟨gb298, 3, none⟩ (.string t306)) gb293 t307 from by repeat (first | (with_reducible first | exact HI293.out | apply IsS74.alloc | apply IsS74.drewN | apply IsS74.drew | apply IsS74.set_0 | refine IsS74.far ?_ NB293_292.out _ | refine IsS74.far ?_ NB293_298.out _) | exact HI293.out)) hb); have n4_ := Aside0.mk (below_step (by repeat (first | (with_reducible first | exact HB.out | apply below_alloc | apply pw_below_drewN | apply below_drew1 | refine below_set ?_ (IsS74.ge HI293.out) | refine below_set ?_ GE292.out | refine below_set ?_ GE298.out) | exact HB.out)) hb); clear HO_299002; clear BK292; clear BK298; clear HI293; clear HB; have HO_299002 := n0_; have BK292 := n1_; have BK298 := n2_; have HI293 := n3_; have HB := n4_; clear n0_ n1_ n2_ n3_ n4_; (try clear hb); (try clear hb2); (try clear hk); (try clear hi); have hnb50 := NB292_293.out; have hnc50 := NB293_292.out; have hcz51_0 : w49.cell? ⟨gb292, 0, none⟩ = some (.int .i64 0) := (blk_cell BK292.out 0).trans rfl; have hcz51_1 : w49.cell? ⟨gb292, 1, none⟩ = some (.int .i64 0) := (blk_cell BK292.out 1).trans rfl; have hcz51_2 : w49.cell? ⟨gb292, 2, none⟩ = some (.slice none 0 0) := (blk_cell BK292.out 2).trans rfl; have hcz51_3 : w49.cell? ⟨gb292, 3, none⟩ = some (.string (⟨#[]⟩ : ByteArray)) := (blk_cell BK292.out 3).trans rfl; have hfz51_0 := blk_frozen BK292.out 0; have hfz51_1 := blk_frozen BK292.out 1; have hfz51_2 := blk_frozen BK292.out 2; have hfz51_3 := blk_frozen BK292.out 3))
          refine bodyPost_ret (results_ct rfl _ _ gb292 24 #[.int .i64 0, .int .i64 0, .slice none 0 0, .string (⟨#[]⟩ : ByteArray)] (0, 0) _ rfl (by (with_reducible repeat (first | refine blk_drewN ?_ _ | refine blk_drew ?_ | refine blk_alloc ?_ _)); refine blk_put (cs := #[.int .i64 0, .int .i64 0, .slice none 0 0, .string (⟨#[]⟩ : ByteArray)]) ?_ 3 _ rfl; (with_reducible repeat (first | refine blk_drewN ?_ _ | refine blk_drew ?_ | refine blk_alloc ?_ _)); refine blk_put (cs := #[.int .i64 0, .int .i64 0, .slice none 0 0, .string (⟨#[]⟩ : ByteArray)]) ?_ 2 _ rfl; (with_reducible repeat (first | refine blk_drewN ?_ _ | refine blk_drew ?_ | refine blk_alloc ?_ _)); refine blk_put (cs := #[.int .i64 0, .int .i64 0, .slice none 0 0, .string (⟨#[]⟩ : ByteArray)]) ?_ 1 _ rfl; (with_reducible repeat (first | refine blk_drewN ?_ _ | refine blk_drew ?_ | refine blk_alloc ?_ _)); refine blk_put (cs := #[.int .i64 0, .int .i64 0, .slice none 0 0, .string (⟨#[]⟩ : ByteArray)]) ?_ 0 _ rfl; (with_reducible repeat (first | refine blk_drewN ?_ _ | refine blk_drew ?_ | refine blk_alloc ?_ _)); exact BK292.out) Tryd.underlying24 rfl (by kernel_rfl)) rfl ?_
          exact ⟨_, by first | rfl | (simp [errW_none, errW_some] <;> rfl) | (simp only [← hji5]; first | rfl | (simp [errW_none, errW_some] <;> rfl)) | (simp [*, errW_none, errW_some] <;> rfl), by first | exact Kd.R_nil _ _ _ _ _ | exact Kd.N_nil _ _ _ _ _ | exact Kd.V_nil _ _ _ _ _ | exact Kd.Q_nil _ _ _ _ _ | exact Kd.S_nil _ _ _ _ _, by repeat (first | (with_reducible first | exact HB.out | apply below_alloc | apply pw_below_drewN | apply below_drew1 | refine below_set ?_ (IsS74.ge HI293.out) | refine below_set ?_ GE292.out | refine below_set ?_ GE298.out) | exact HB.out)⟩

end Go.Proofs.YtkbaelhcijibiaaDoor.Px

/-
  What the record's reader answers, in closed form; the writer's bytes come back.
-/
namespace Go.Proofs.YtkbaelhcijibiaaDoor.Px
open Go.RowKit Go.Proofs.YtkbaelhcijibiaaDoorW.PrintWords Go.Proofs.YtkbaelhcijibiaaDoorW.PrintLast Go.Proofs.YtkbaelhcijibiaaDoorW.PrintMore
set_option linter.unusedVariables false
set_option linter.unusedSimpArgs false

def mkB (l : List UInt8) : ByteArray := ⟨l.toArray⟩
theorem mkB_list (l : List UInt8) : (mkB l).data.toList = l := rfl
theorem mkB_toList (l : List UInt8) : (mkB l).toList = l := by rw [Lib.toList_data]; rfl
theorem mkB_self (s : ByteArray) : mkB s.data.toList = s := by cases s; rfl
theorem mkB_size (l : List UInt8) : (mkB l).size = l.length := sz_mk l
theorem ext_take (l : List UInt8) (n : Nat) : (mkB l).extract 0 (min n (mkB l).size) = mkB (l.take n) := by
  apply ByteArray.ext
  apply Array.toList_inj.1
  rw [mkB_size, ByteArray.data_extract]
  simp [mkB, List.take_eq_take_iff]
theorem ext_drop (l : List UInt8) (n : Nat) : (mkB l).extract (min n (mkB l).size) (mkB l).size = mkB (l.drop n) := by
  apply ByteArray.ext
  apply Array.toList_inj.1
  rw [mkB_size, ByteArray.data_extract]
  simp [mkB]
  rcases Nat.le_total n l.length with h | h
  · rw [Nat.min_eq_left h]; exact List.take_of_length_le (by simp)
  · rw [Nat.min_eq_right h, List.drop_of_length_le h]; simp

theorem lowNum_nonneg : ∀ l, 0 ≤ lowNum l
  | [] => by simp [lowNum]
  | b :: l => by have := lowNum_nonneg l; simp only [lowNum]; omega
theorem lowNum_le1 (l : List UInt8) (h : l.length ≤ 1) : lowNum l < 256 := by
  match l, h with
  | [], _ => simp [lowNum]
  | [b], _ => have := b.toNat_lt; simp only [lowNum]; omega
theorem lowNum_le2 (l : List UInt8) (h : l.length ≤ 2) : lowNum l < 65536 := by
  match l, h with
  | [], _ => simp [lowNum]
  | [b], _ => have := b.toNat_lt; simp only [lowNum]; omega
  | [b, c], _ => have := b.toNat_lt; have := c.toNat_lt; simp only [lowNum]; omega

theorem number_is (l : List UInt8) (n : Nat) (h : n ≤ 2) : record_taker_number.f (mkB l) (n : Int) = some (lowNum (l.take n), mkB (l.drop n)) := by
  unfold record_taker_number.f
  rw [if_pos (by omega), take_eq _ _ (by omega), Int.toNat_natCast, ext_take, ext_drop]
  rfl

def pTake (l : List UInt8) : List UInt8 := (l.drop 2).take (lowNum (l.take 2)).toNat
def pRest (l : List UInt8) : List UInt8 := (l.drop 2).drop (lowNum (l.take 2)).toNat
def pTakes : Nat → List UInt8 → List ByteArray
  | 0, _ => []
  | n + 1, l => mkB (pTake l) :: pTakes n (pRest l)
def pRests : Nat → List UInt8 → List UInt8
  | 0, l => l
  | n + 1, l => pRests n (pRest l)
theorem taketext_is (l : List UInt8) : record_taker_text.f (mkB l) = some (mkB (pTake l), mkB (pRest l)) := by
  unfold record_taker_text.f
  rw [show (2 : Int) = ((2 : Nat) : Int) from rfl, number_is l 2 (by omega)]
  simp only [Option.bind_some]
  rw [take_eq _ _ (lowNum_nonneg _), ext_take, ext_drop]
  rfl

/-- What the reader sees. -/
def gF (l : List UInt8) : Int := lowNum (l.take 1)
def gP (l : List UInt8) : Int := lowNum ((l.drop 1).take 2) - 1
def gN (l : List UInt8) : Nat := min (lowNum ((l.drop 3).take 1)).toNat 3
def gA (l : List UInt8) : List ByteArray := pTakes (gN l) (l.drop 4)
def gR (l : List UInt8) : ByteArray := mkB (pTake (pRests (gN l) (l.drop 4)))

def gEnd (x : List UInt8) (f p : Int) (args : List ByteArray) (res : ByteArray) : Int × Int × List ByteArray × ByteArray × Int :=
  if okNode f p args res = true ∧ encL f p args res = x then (f, p, args, res, 0) else (0, 0, [], ⟨#[]⟩, 1500)

theorem getl_is (x : List UInt8) (f p : Int) (u : ByteArray) : ∀ (m k i : Nat) (N : Nat) (l : List UInt8) (acc : List ByteArray), i + m = N → N ≤ 3 → acc.length = i → 110 + m ≤ k →
    record_Get.l0 k (mkB x) (N : Int) (i : Int) (mkB l) f p acc u = some (gEnd x f p (acc ++ pTakes m l) (mkB (pTake (pRests m l))))
  | 0, k, i, N, l, acc, hi, h3, ha, hk => by
    obtain ⟨k, rfl⟩ : ∃ j, k = j + 1 := ⟨k - 1, by omega⟩
    simp only [record_Get.l0]
    rw [if_neg (by omega), taketext_is]
    simp only [Option.bind_some]
    rw [put_is k (by omega)]
    simp only [Option.bind_some, pTakes, pRests, List.append_nil, gEnd]
    by_cases ho : okNode f p acc (mkB (pTake l)) = true
    · rw [if_pos ho]
      simp only [if_pos]
      have he : (⟨(encL f p acc (mkB (pTake l))).toArray⟩ : ByteArray).toList = encL f p acc (mkB (pTake l)) := mkB_toList _
      rw [he, mkB_toList]
      by_cases hx : encL f p acc (mkB (pTake l)) = x
      · rw [if_pos hx, if_pos ⟨ho, hx⟩]
      · rw [if_neg hx, if_neg (fun h => hx h.2)]
    · have hz : ¬ ((1500 : Int) = 0) := by decide
      simp only [if_neg ho, if_neg hz, if_neg (fun h : okNode f p acc (mkB (pTake l)) = true ∧ _ => ho h.1)]
  | m + 1, k, i, N, l, acc, hi, h3, ha, hk => by
    obtain ⟨k, rfl⟩ : ∃ j, k = j + 1 := ⟨k - 1, by omega⟩
    simp only [record_Get.l0]
    rw [if_pos (by omega), taketext_is]
    simp only [Option.bind_some]
    rw [if_pos (by omega), wrap64_of (by omega) (by omega), show (i : Int) + 1 = ((i + 1 : Nat) : Int) by omega,
      getl_is x f p u m k (i + 1) N (pRest l) _ (by omega) h3 (by simp; omega) (by omega)]
    simp [pTakes, pRests]

theorem get_is (k : Nat) (hk : 120 ≤ k) (l : List UInt8) : record_Get.f k (mkB l) = some (gEnd l (gF l) (gP l) (gA l) (gR l)) := by
  unfold record_Get.f
  rw [show (1 : Int) = ((1 : Nat) : Int) from rfl, number_is l 1 (by omega)]
  simp only [Option.bind_some]
  rw [show (2 : Int) = ((2 : Nat) : Int) from rfl, number_is _ 2 (by omega)]
  simp only [Option.bind_some]
  rw [number_is _ 1 (by omega)]
  simp only [Option.bind_some]
  have h1 := lowNum_nonneg (((l.drop 1).drop 2).take 1)
  have h2 := lowNum_nonneg ((l.drop 1).take 2)
  have h3 := lowNum_le2 ((l.drop 1).take 2) (by simp; omega)
  have hm : mn (lowNum (((l.drop 1).drop 2).take 1)) 3 = ((gN l : Nat) : Int) := by
    unfold mn gN
    rw [List.drop_drop] at *
    simp only [Nat.reduceAdd] at *
    split <;> omega
  rw [hm, show ((1 : Nat) : Int) = 1 from rfl, wrap64_of (by omega) (by omega), show (0 : Int) = ((0 : Nat) : Int) from rfl,
    getl_is l _ _ _ (gN l) k 0 (gN l) _ [] (by omega) (by unfold gN; omega) rfl (by unfold gN; omega)]
  simp only [List.nil_append, gF, gP, gA, gR, List.drop_drop]

theorem b8_nat (x : Int) : ((b8 x).toNat : Int) = x % 256 := by
  unfold b8
  have : (x % 256).toNat < 256 := by omega
  rw [UInt8.toNat_ofNat', Nat.mod_eq_of_lt (by omega)]
  omega
theorem low1_back (x : Int) (h : 0 ≤ x) (h2 : x < 256) : lowNum (low1L x) = x := by
  simp only [low1L, lowNum, b8_nat]; omega
theorem low2_back (x : Int) (h : 0 ≤ x) (h2 : x < 65536) : lowNum (low2L x) = x := by
  simp only [low2L, lowNum, b8_nat]; omega
theorem take_text (s : ByteArray) (hs : s.size < 65536) (l : List UInt8) : mkB (pTake (textL s ++ l)) = s ∧ pRest (textL s ++ l) = l := by
  have h2 : (textL s ++ l).take 2 = low2L (s.size : Int) := rfl
  have h3 : (textL s ++ l).drop 2 = s.data.toList ++ l := rfl
  have h4 : (lowNum (low2L (s.size : Int))).toNat = s.data.toList.length := by rw [low2_back _ (by omega) (by omega), sz_len]; omega
  unfold pTake pRest
  rw [h2, h3, h4]
  exact ⟨by rw [List.take_left' rfl, mkB_self], by rw [List.drop_left' rfl]⟩
theorem takes_back : ∀ (args : List ByteArray) (l : List UInt8), (∀ s ∈ args, s.size < 65536) →
    pTakes args.length (args.flatMap textL ++ l) = args ∧ pRests args.length (args.flatMap textL ++ l) = l
  | [], l, _ => ⟨rfl, rfl⟩
  | s :: args, l, h => by
    obtain ⟨h1, h2⟩ := take_text s (h s List.mem_cons_self) (args.flatMap textL ++ l)
    obtain ⟨h3, h4⟩ := takes_back args l fun t ht => h t (List.mem_cons_of_mem _ ht)
    simp only [List.flatMap_cons, List.append_assoc, List.length_cons, pTakes, pRests]
    rw [h1, h2, h3, h4]
    exact ⟨rfl, rfl⟩

/-- What the reader sees in the writer's bytes. -/
theorem enc_back {f p : Int} {args : List ByteArray} {res : ByteArray} (hF : Fits f args res) (hp : -1 ≤ p) (hp2 : p < 512) (z : List UInt8) :
    gF (encL f p args res ++ z) = f ∧ gP (encL f p args res ++ z) = p ∧ gA (encL f p args res ++ z) = args ∧ gR (encL f p args res ++ z) = res := by
  obtain ⟨h0, h8, h3, ha, hr⟩ := hF
  have e1 : (encL f p args res ++ z).take 1 = low1L f := rfl
  have e2 : ((encL f p args res ++ z).drop 1).take 2 = low2L (p + 1) := rfl
  have e3 : ((encL f p args res ++ z).drop 3).take 1 = low1L (args.length : Int) := rfl
  have e4 : (encL f p args res ++ z).drop 4 = args.flatMap textL ++ (textL res ++ z) := by simp [encL, low1L, low2L]
  have hn : gN (encL f p args res ++ z) = args.length := by
    unfold gN
    rw [e3, low1_back _ (by omega) (by omega)]
    omega
  obtain ⟨q1, q2⟩ := takes_back args (textL res ++ z) fun s hs => by have := ha s hs; omega
  obtain ⟨q3, q4⟩ := take_text res (by omega) z
  refine ⟨?_, ?_, ?_, ?_⟩
  · unfold gF; rw [e1, low1_back _ h0 (by omega)]
  · unfold gP; rw [e2, low2_back _ (by omega) (by omega)]; omega
  · unfold gA; rw [hn, e4, q1]
  · unfold gR; rw [hn, e4, q2, q3]

theorem get_enc (k : Nat) (hk : 120 ≤ k) {f p : Int} {args : List ByteArray} {res : ByteArray} (h : okNode f p args res = true) :
    record_Get.f k (mkB (encL f p args res)) = some (f, p, args, res, 0) := by
  obtain ⟨_, hF, h1, h2⟩ := okNode_fits h
  obtain ⟨g1, g2, g3, g4⟩ := enc_back hF h1 h2 []
  rw [List.append_nil] at g1 g2 g3 g4
  rw [get_is k hk, g1, g2, g3, g4, gEnd, if_pos ⟨h, rfl⟩]

/-- Unlike nodes have unlike bytes, none the beginning of another. -/
theorem enc_len {f p : Int} {args : List ByteArray} {res : ByteArray} : (encL f p args res).length = 4 + (args.map fun s => 2 + s.size).sum + (2 + res.size) := by
  have hh : ∀ l : List ByteArray, (l.flatMap textL).length = (l.map fun s => 2 + s.size).sum := by
    intro l
    induction l with
    | nil => rfl
    | cons a l ih => simp only [List.flatMap_cons, List.length_append, ih, textL_len, List.map_cons, List.sum_cons]; omega
  unfold encL
  simp only [List.length_append, hh, textL_len]
  simp only [low1L, low2L, List.length_cons, List.length_nil]
  omega
/-- The bytes of one node begin the bytes of another: the same node. -/
theorem enc_prefix {f p f2 p2 : Int} {args args2 : List ByteArray} {res res2 : ByteArray} (h : okNode f p args res = true) (h2 : okNode f2 p2 args2 res2 = true) (z z2 : List UInt8)
    (he : encL f p args res ++ z = encL f2 p2 args2 res2 ++ z2) : f = f2 ∧ p = p2 ∧ args = args2 ∧ res = res2 := by
  obtain ⟨_, hF, h1, h3⟩ := okNode_fits h
  obtain ⟨_, hF2, h4, h5⟩ := okNode_fits h2
  obtain ⟨a1, a2, a3, a4⟩ := enc_back hF h1 h3 z
  obtain ⟨b1, b2, b3, b4⟩ := enc_back hF2 h4 h5 z2
  rw [he] at a1 a2 a3 a4
  exact ⟨a1.symm.trans b1, a2.symm.trans b2, a3.symm.trans b3, a4.symm.trans b4⟩
end Go.Proofs.YtkbaelhcijibiaaDoor.Px

/- Of each function of this text: a plain Lean function and a proof that the machine's call comes to its answers; printed by this session's program. -/
namespace Go.Proofs.YtkbaelhcijibiaaDoor.Px
open Go.RowKit Go.Proofs.YtkbaelhcijibiaaDoorW.PrintWords Go.Proofs.YtkbaelhcijibiaaDoorW.PrintLast Go.Proofs.YtkbaelhcijibiaaDoorW.PrintMore
attribute [local go_sem] max2_int min2_int max_two min_two max_three min_three max_four min_four   -- for this text's walks alone
set_option linter.unusedVariables false
set_option linter.unusedSimpArgs false

/-! ### sleuthlaw0_SameTexts: function 50 -/
def sleuthlaw0_SameTexts.l0 : Nat → List ByteArray → List ByteArray → Int → Option (Bool)
  | 0, _, _, _ => none
  | k + 1, x0, x1, x5 => if x5 < (x0.length : Int) then (if 0 ≤ x5 then (if x5 < (x1.length : Int) then (if (rdOf ByteArray.empty x0 x5).toList = (rdOf ByteArray.empty x1 x5).toList then (sleuthlaw0_SameTexts.l0 k x0 x1 (wrap64 (x5 + 1))) else (some false)) else (none)) else (none)) else (some true)
def sleuthlaw0_SameTexts.f (k : Nat) (l0 : List ByteArray) (l1 : List ByteArray) : Option (Bool) := if (l0.length : Int) = (l1.length : Int) then (sleuthlaw0_SameTexts.l0 k l0 l1 0) else (some false)
theorem sleuthlaw0_SameTexts.mono_l : ∀ k, (∀ y0 y1 y2, LeO (sleuthlaw0_SameTexts.l0 k y0 y1 y2) (sleuthlaw0_SameTexts.l0 (k + 1) y0 y1 y2))
  | 0 => fun _ _ _ r h => by simp [sleuthlaw0_SameTexts.l0] at h
  | k + 1 => by
    have ih0 := sleuthlaw0_SameTexts.mono_l k
    · intro y0 y1 y2
      unfold sleuthlaw0_SameTexts.l0
      repeat' first
      | (with_reducible exact ih0 _ _ _)
      | (with_reducible exact LeO.refl _)
      | (with_reducible exact LeO.none _)
      | (with_reducible refine LeO.ite ?_ ?_)
      | (with_reducible refine LeO.bind ?_ (fun _ => ?_))
      | exact ih0 _ _ _
      | exact LeO.none _
      | refine LeO.ite ?_ ?_
      | refine LeO.bind ?_ (fun _ => ?_)
theorem sleuthlaw0_SameTexts.mono : ∀ a0 a1 k, LeO (sleuthlaw0_SameTexts.f k a0 a1) (sleuthlaw0_SameTexts.f (k + 1) a0 a1) := by
  intro a0 a1 k
  have ih0 := sleuthlaw0_SameTexts.mono_l k
  unfold sleuthlaw0_SameTexts.f
  repeat' first
      | (with_reducible exact ih0 _ _ _)
      | (with_reducible exact LeO.refl _)
      | (with_reducible exact LeO.none _)
      | (with_reducible refine LeO.ite ?_ ?_)
      | (with_reducible refine LeO.bind ?_ (fun _ => ?_))
      | exact ih0 _ _ _
      | exact LeO.none _
      | refine LeO.ite ?_ ?_
      | refine LeO.bind ?_ (fun _ => ?_)
set_option maxHeartbeats 8000000 in
set_option maxRecDepth 100000 in
theorem sleuthlaw0_SameTexts.calls (k : Nat) (A0 : Option Addr) (c0 : Nat) (l0 : List ByteArray) (A1 : Option Addr) (c1 : Nat) (l1 : List ByteArray) (r : Bool) (w : World) (hr0 : Kd.C Kd.string w A0 l0.length l0) (hc0 : l0.length ≤ c0) (hr1 : Kd.C Kd.string w A1 l1.length l1) (hc1 : l1.length ≤ c1) (h : sleuthlaw0_SameTexts.f k l0 l1 = some r) :
    Calls Tryd.prog 50 #[.slice A0 l0.length c0, .slice A1 l1.length c1] w fun e w' => e = .returned (.bool r) ∧ Drawn0 w w' := by
  have HR0 := Aside0.mk hr0
  have HC0 := Aside0.mk hc0
  clear hr0 hc0
  have HR1 := Aside0.mk hr1
  have HC1 := Aside0.mk hc1
  clear hr1 hc1
  have H : (if (l0.length : Int) = (l1.length : Int) then (sleuthlaw0_SameTexts.l0 k l0 l1 0) else (some false)) = some r := h
  clear h
  by_cases c3 : (l0.length : Int) = (l1.length : Int)
  · rw [if_pos c3] at H
    have c3b0 : ((l0.length : Int) == (l1.length : Int)) = true := beq_iff_eq.mpr c3
    have c3b1 : ((l0.length : Int) != (l1.length : Int)) = false := bne_eq_false_iff_eq.mpr c3
    have c3b2 : (l0.length == l1.length) = true := by first | simpa using c3 | (simp at c3 ⊢; omega)
    clear c3
    have H' := Aside0.mk H
    clear H
    go_enter Tryd.func50, Tryd.ntmps50
    go_wp2
    repeat (go_quiet (fail); try go_wp2)
    (try simp only [Act.put, List.setIfInBounds_toArray, List.set_cons_zero, List.set_cons_succ])
    go_loopg [5] k (fun kq v5 w' => ∃ (x5_1 : Int), v5 = .int .i64 x5_1 ∧ Aside0 (sleuthlaw0_SameTexts.l0 kq l0 l1 x5_1 = some r) ∧ Aside0 (kq ≤ k) ∧ Drawn0 w w')
    case atStart => exact ⟨(0), (by first | rfl | (simp; done) | (simp [*]; done)), H', ⟨Nat.le_refl _⟩, by repeat (first | exact Drawn0.refl _ | apply Drawn0.step)⟩
    case round =>
      clear H'
      try clear c1
      try clear p2
      try clear c3
      try clear c3b0
      try clear c3b1
      try clear c3b2
      obtain ⟨x5_1, rfl, HA, HK1, ⟨m1, rfl⟩⟩ := hrel
      cases gk with
      | zero => exact absurd HA.out (by simp [sleuthlaw0_SameTexts.l0])
      | succ k1 =>
        have H := HA.out
        clear HA
        simp only [sleuthlaw0_SameTexts.l0] at H
        by_cases c4 : x5_1 < (l0.length : Int)
        · rw [if_pos c4] at H
          have c4b0 : decide (x5_1 < (l0.length : Int)) = true := decide_eq_true c4
          clear c4
          by_cases c5 : 0 ≤ x5_1
          · rw [if_pos c5] at H
            have c5b0 : decide (0 ≤ x5_1) = true := decide_eq_true c5
            clear c5
            by_cases c6 : x5_1 < (l1.length : Int)
            · rw [if_pos c6] at H
              have c6b0 : decide (x5_1 < (l1.length : Int)) = true := decide_eq_true c6
              clear c6
              by_cases c7 : (rdOf ByteArray.empty l0 x5_1).toList = (rdOf ByteArray.empty l1 x5_1).toList
              · rw [if_pos c7] at H
                have c7b0 : ((rdOf ByteArray.empty l0 x5_1).toList == (rdOf ByteArray.empty l1 x5_1).toList) = true := beq_iff_eq.mpr c7
                have c7b1 : ((rdOf ByteArray.empty l0 x5_1).toList != (rdOf ByteArray.empty l1 x5_1).toList) = false := bne_eq_false_iff_eq.mpr c7
                clear c7
                have H' := Aside0.mk H
                clear H
                have p336 : 0 ≤ (x5_1 : Int) := of_decide_eq_true (by first | (with_reducible assumption) | assumption)
                have q336 : x5_1 < (l0.length : Int) := of_decide_eq_true (by first | (with_reducible assumption) | assumption)
                obtain ⟨ad336, e336, hx336_0⟩ := Kd.at_string HR0.out x5_1 p336 q336
                cases e336
                replace p336 := eq_true p336
                replace q336 := eq_true q336
                have p337 : 0 ≤ (x5_1 : Int) := of_decide_eq_true (by first | (with_reducible assumption) | assumption)
                have q337 : x5_1 < (l1.length : Int) := of_decide_eq_true (by first | (with_reducible assumption) | assumption)
                obtain ⟨ad337, e337, hx337_0⟩ := Kd.at_string HR1.out x5_1 p337 q337
                cases e337
                replace p337 := eq_true p337
                replace q337 := eq_true q337
                go_wp2
                repeat (go_quiet (fail); try go_wp2)
                go_roundg k1
                case measure => have := HK1.out; omega
                case rel => exact ⟨(wrap64 (x5_1 + 1)), (by first | rfl | (simp; done) | (simp [*]; done)), H', ⟨by have := HK1.out; omega⟩, by repeat (first | exact Drawn0.refl _ | apply Drawn0.step)⟩
              · rw [if_neg c7] at H
                have c7b0 : ((rdOf ByteArray.empty l0 x5_1).toList == (rdOf ByteArray.empty l1 x5_1).toList) = false := beq_eq_false_iff_ne.mpr c7
                have c7b1 : ((rdOf ByteArray.empty l0 x5_1).toList != (rdOf ByteArray.empty l1 x5_1).toList) = true := bne_iff_ne.mpr c7
                obtain rfl := Option.some.inj H
                have p336 : 0 ≤ (x5_1 : Int) := of_decide_eq_true (by first | (with_reducible assumption) | assumption)
                have q336 : x5_1 < (l0.length : Int) := of_decide_eq_true (by first | (with_reducible assumption) | assumption)
                obtain ⟨ad336, e336, hx336_0⟩ := Kd.at_string HR0.out x5_1 p336 q336
                cases e336
                replace p336 := eq_true p336
                replace q336 := eq_true q336
                have p337 : 0 ≤ (x5_1 : Int) := of_decide_eq_true (by first | (with_reducible assumption) | assumption)
                have q337 : x5_1 < (l1.length : Int) := of_decide_eq_true (by first | (with_reducible assumption) | assumption)
                obtain ⟨ad337, e337, hx337_0⟩ := Kd.at_string HR1.out x5_1 p337 q337
                cases e337
                replace p337 := eq_true p337
                replace q337 := eq_true q337
                go_wp2
                repeat (go_quiet (fail); try go_wp2)
                go_ret
                exact ⟨by first | rfl | (simp; done) | (simp [*]; done), by repeat (first | exact Drawn0.refl _ | apply Drawn0.step)⟩
            · rw [if_neg c6] at H
              exact absurd H (by simp)
          · rw [if_neg c5] at H
            exact absurd H (by simp)
        · rw [if_neg c4] at H
          have c4b0 : decide (x5_1 < (l0.length : Int)) = false := decide_eq_false c4
          clear c4
          obtain rfl := Option.some.inj H
          go_wp2
          repeat (go_quiet (fail); try go_wp2)
          go_ret
          exact ⟨by first | rfl | (simp; done) | (simp [*]; done), by repeat (first | exact Drawn0.refl _ | apply Drawn0.step)⟩
  · rw [if_neg c3] at H
    have c3b0 : ((l0.length : Int) == (l1.length : Int)) = false := beq_eq_false_iff_ne.mpr c3
    have c3b1 : ((l0.length : Int) != (l1.length : Int)) = true := bne_iff_ne.mpr c3
    have c3b2 : (l0.length == l1.length) = false := by first | simpa using c3 | (simp at c3 ⊢; omega)
    obtain rfl := Option.some.inj H
    go_enter Tryd.func50, Tryd.ntmps50
    go_wp2
    repeat (go_quiet (fail); try go_wp2)
    go_ret
    exact ⟨by first | rfl | (simp; done) | (simp [*]; done), by repeat (first | exact Drawn0.refl _ | apply Drawn0.step)⟩

end Go.Proofs.YtkbaelhcijibiaaDoor.Px

/- Of each function of this text: a plain Lean function and a proof that the machine's call comes to its answers; printed by this session's program. -/
namespace Go.Proofs.YtkbaelhcijibiaaDoor.Px
open Go.RowKit Go.Proofs.YtkbaelhcijibiaaDoorW.PrintWords Go.Proofs.YtkbaelhcijibiaaDoorW.PrintLast Go.Proofs.YtkbaelhcijibiaaDoorW.PrintMore
attribute [local go_sem] max2_int min2_int max_two min_two max_three min_three max_four min_four   -- for this text's walks alone
set_option linter.unusedVariables false
set_option linter.unusedSimpArgs false

/-! ### sleuthlaw0_SameNode: function 20 -/
def sleuthlaw0_SameNode.f (k : Nat) (a0_0 : Int) (a0_1 : Int) (l0_2 : List ByteArray) (a0_3 : ByteArray) (a1_0 : Int) (a1_1 : Int) (l1_2 : List ByteArray) (a1_3 : ByteArray) : Option (Bool) := if a0_0 = a1_0 then (if a0_1 = a1_1 then ((sleuthlaw0_SameTexts.f k l0_2 l1_2).bind fun t340 => (if t340 = true then (some (a0_3.toList == a1_3.toList)) else (some false))) else (some false)) else (some false)
theorem sleuthlaw0_SameNode.mono : ∀ a0 a1 a2 a3 a4 a5 a6 a7 k, LeO (sleuthlaw0_SameNode.f k a0 a1 a2 a3 a4 a5 a6 a7) (sleuthlaw0_SameNode.f (k + 1) a0 a1 a2 a3 a4 a5 a6 a7) := by
  intro a0 a1 a2 a3 a4 a5 a6 a7 k
  unfold sleuthlaw0_SameNode.f
  repeat' first
      | (with_reducible exact sleuthlaw0_SameTexts.mono _ _ _)
      | (with_reducible exact LeO.refl _)
      | (with_reducible exact LeO.none _)
      | (with_reducible refine LeO.ite ?_ ?_)
      | (with_reducible refine LeO.bind ?_ (fun _ => ?_))
      | exact sleuthlaw0_SameTexts.mono _ _ _
      | exact LeO.none _
      | refine LeO.ite ?_ ?_
      | refine LeO.bind ?_ (fun _ => ?_)
set_option maxHeartbeats 8000000 in
set_option maxRecDepth 100000 in
theorem sleuthlaw0_SameNode.calls (k : Nat) (a0_0 : Int) (a0_1 : Int) (A0_2 : Option Addr) (c0_2 : Nat) (l0_2 : List ByteArray) (a0_3 : ByteArray) (a1_0 : Int) (a1_1 : Int) (A1_2 : Option Addr) (c1_2 : Nat) (l1_2 : List ByteArray) (a1_3 : ByteArray) (r : Bool) (w : World) (hr0_2 : Kd.C Kd.string w A0_2 l0_2.length l0_2) (hc0_2 : l0_2.length ≤ c0_2) (hr1_2 : Kd.C Kd.string w A1_2 l1_2.length l1_2) (hc1_2 : l1_2.length ≤ c1_2) (h : sleuthlaw0_SameNode.f k a0_0 a0_1 l0_2 a0_3 a1_0 a1_1 l1_2 a1_3 = some r) :
    Calls Tryd.prog 20 #[.agg #[.int .i64 a0_0, .int .i64 a0_1, .slice A0_2 l0_2.length c0_2, .string a0_3], .agg #[.int .i64 a1_0, .int .i64 a1_1, .slice A1_2 l1_2.length c1_2, .string a1_3]] w fun e w' => e = .returned (.bool r) ∧ Below w.heap.size w w' := by
  have hu24 := Tryd.underlying24
  have HR0_2 := Aside0.mk hr0_2
  have HC0_2 := Aside0.mk hc0_2
  clear hr0_2 hc0_2
  have HR1_2 := Aside0.mk hr1_2
  have HC1_2 := Aside0.mk hc1_2
  clear hr1_2 hc1_2
  have HB := Aside0.mk (Below.refl w.heap.size w)
  have H : (if a0_0 = a1_0 then (if a0_1 = a1_1 then ((sleuthlaw0_SameTexts.f k l0_2 l1_2).bind fun t340 => (if t340 = true then (some (a0_3.toList == a1_3.toList)) else (some false))) else (some false)) else (some false)) = some r := h
  clear h
  by_cases c3 : a0_0 = a1_0
  · rw [if_pos c3] at H
    have c3b0 : (a0_0 == a1_0) = true := beq_iff_eq.mpr c3
    have c3b1 : (a0_0 != a1_0) = false := bne_eq_false_iff_eq.mpr c3
    clear c3
    by_cases c4 : a0_1 = a1_1
    · rw [if_pos c4] at H
      have c4b0 : (a0_1 == a1_1) = true := beq_iff_eq.mpr c4
      have c4b1 : (a0_1 != a1_1) = false := bne_eq_false_iff_eq.mpr c4
      clear c4
      replace H := Option.bind_eq_some_iff.mp H
      obtain ⟨t340, A50, H⟩ := H
      replace H : (if t340 = true then (some (a0_3.toList == a1_3.toList)) else (some false)) = some r := H
      have A5 := Aside0.mk A50
      clear A50
      by_cases c6 : t340 = true
      · subst c6
        have H1 : (some (a0_3.toList == a1_3.toList)) = some r := by rw [if_pos rfl] at H; exact H
        clear H
        have H := H1
        clear H1
        obtain rfl := Option.some.inj H
        go_enter Tryd.func20, Tryd.ntmps20
        go_wp2_with (first | ((with_reducible refine gate_dst (N := 2) rfl ?_); refine box_event ?hg (N := 2) ?hd (cs := #[.int .i64 a0_0, .int .i64 a0_1, .slice A0_2 l0_2.length c0_2, .string a0_3]) (t := 24) ?hr ?_; (case hd => rfl); (case hg => rfl); (case hr => first | (go_simp; done) | (go_simp; rfl)); intro gb338 hg w7 hbox hb; have n0_ := Aside0.mk (below_step (by repeat (first | (with_reducible first | exact HB.out | apply below_alloc | apply pw_below_drewN | apply below_drew1) | exact HB.out)) hb); have n1_ := Aside0.mk (hbox); have n2_ := Aside0.mk ((by rw [hg]; exact (below_size (by repeat (first | (with_reducible first | exact HB.out | apply below_alloc | apply pw_below_drewN | apply below_drew1) | exact HB.out))) : w.heap.size ≤ gb338)); have n3_ := Aside0.mk ((by rw [hg]; exact (below_size (by repeat (first | (with_reducible first | exact HB.out | apply below_alloc | apply pw_below_drewN | apply below_drew1) | exact HB.out))) : w.heap.size ≤ gb338)); clear HB; have HB := n0_; have BK338 := n1_; have GW338 := n2_; have GE338 := n3_; clear n0_ n1_ n2_ n3_; clear hb hbox hg) | ((with_reducible refine gate_dst (N := 3) rfl ?_); refine box_event ?hg (N := 3) ?hd (cs := #[.int .i64 a1_0, .int .i64 a1_1, .slice A1_2 l1_2.length c1_2, .string a1_3]) (t := 24) ?hr ?_; (case hd => rfl); (case hg => rfl); (case hr => first | (go_simp; done) | (go_simp; rfl)); intro gb339 hg w8 hbox hb; have n0_ := Aside0.mk (blk_below (g := gb338) (o := .cells #[.int .i64 a0_0, .int .i64 a0_1, .slice A0_2 l0_2.length c0_2, .string a0_3] 24 (0, 0)) (by (with_reducible repeat (first | refine blk_drewN ?_ _ | refine blk_drew ?_ | refine blk_alloc ?_ _)); exact BK338.out) hb); have n1_ := Aside0.mk (below_step (by repeat (first | (with_reducible first | exact HB.out | apply below_alloc | apply pw_below_drewN | apply below_drew1 | refine below_set ?_ GE338.out) | exact HB.out)) hb); have n2_ := Aside0.mk (hbox); have n3_ := Aside0.mk ((by rw [hg]; exact (below_size (by repeat (first | (with_reducible first | exact HB.out | apply below_alloc | apply pw_below_drewN | apply below_drew1 | refine below_set ?_ GE338.out) | exact HB.out))) : w.heap.size ≤ gb339)); have n4_ := Aside0.mk ((by rw [hg]; exact (below_size (by repeat (first | (with_reducible first | exact HB.out | apply below_alloc | apply pw_below_drewN | apply below_drew1 | refine below_set ?_ GE338.out) | exact HB.out))) : w.heap.size ≤ gb339)); have n5_ := Aside0.mk ((by rw [hg]; exact Nat.ne_of_lt (blk_lt (g := gb338) (o := .cells #[.int .i64 a0_0, .int .i64 a0_1, .slice A0_2 l0_2.length c0_2, .string a0_3] 24 (0, 0)) (by (with_reducible repeat (first | refine blk_drewN ?_ _ | refine blk_drew ?_ | refine blk_alloc ?_ _)); exact BK338.out)) : gb338 ≠ gb339)); have n6_ := Aside0.mk ((by rw [hg]; exact Nat.ne_of_gt (blk_lt (g := gb338) (o := .cells #[.int .i64 a0_0, .int .i64 a0_1, .slice A0_2 l0_2.length c0_2, .string a0_3] 24 (0, 0)) (by (with_reducible repeat (first | refine blk_drewN ?_ _ | refine blk_drew ?_ | refine blk_alloc ?_ _)); exact BK338.out)) : gb339 ≠ gb338)); clear BK338; clear HB; have BK338 := n0_; have HB := n1_; have BK339 := n2_; have GW339 := n3_; have GE339 := n4_; have NB338_339 := n5_; have NB339_338 := n6_; clear n0_ n1_ n2_ n3_ n4_ n5_ n6_; clear hb hbox hg; have hnb9 := NB338_339.out; have hnc9 := NB339_338.out; have hcz10_0 : w8.cell? ⟨gb338, 0, none⟩ = some (.int .i64 a0_0) := (blk_cell BK338.out 0).trans rfl; have hcz10_1 : w8.cell? ⟨gb338, 1, none⟩ = some (.int .i64 a0_1) := (blk_cell BK338.out 1).trans rfl; have hcz10_2 : w8.cell? ⟨gb338, 2, none⟩ = some (.slice A0_2 l0_2.length c0_2) := (blk_cell BK338.out 2).trans rfl; have hcz10_3 : w8.cell? ⟨gb338, 3, none⟩ = some (.string a0_3) := (blk_cell BK338.out 3).trans rfl; have hfz10_0 := blk_frozen BK338.out 0; have hfz10_1 := blk_frozen BK338.out 1; have hfz10_2 := blk_frozen BK338.out 2; have hfz10_3 := blk_frozen BK338.out 3; have hcz11_0 : w8.cell? ⟨gb339, 0, none⟩ = some (.int .i64 a1_0) := (blk_cell BK339.out 0).trans rfl; have hcz11_1 : w8.cell? ⟨gb339, 1, none⟩ = some (.int .i64 a1_1) := (blk_cell BK339.out 1).trans rfl; have hcz11_2 : w8.cell? ⟨gb339, 2, none⟩ = some (.slice A1_2 l1_2.length c1_2) := (blk_cell BK339.out 2).trans rfl; have hcz11_3 : w8.cell? ⟨gb339, 3, none⟩ = some (.string a1_3) := (blk_cell BK339.out 3).trans rfl; have hfz11_0 := blk_frozen BK339.out 0; have hfz11_1 := blk_frozen BK339.out 1; have hfz11_2 := blk_frozen BK339.out 2; have hfz11_3 := blk_frozen BK339.out 3) | (go_at_call 50; (with_reducible refine (sleuthlaw0_SameTexts.calls k _ _ l0_2 _ _ l1_2 true _ ?side1 ?side2 ?side3 ?side4 A5.out).mono ?_); (case side1 => repeat (first | exact (Kd.C_below HR0_2.out HB.out) | (with_reducible refine Kd.C_alloc ?_ _) | (with_reducible refine Kd.C_drewN ?_ _) | (with_reducible refine Kd.C_drew ?_))); (case side2 => exact HC0_2.out); (case side3 => repeat (first | exact (Kd.C_below HR1_2.out HB.out) | (with_reducible refine Kd.C_alloc ?_ _) | (with_reducible refine Kd.C_drewN ?_ _) | (with_reducible refine Kd.C_drew ?_))); (case side4 => exact HC1_2.out); rintro e w' ⟨rfl, ⟨nd, rfl⟩⟩))
        go_ret
        exact ⟨by first | rfl | (simp [errW_none, errW_some] <;> rfl) | (simp [*, errW_none, errW_some] <;> rfl), by repeat (first | (with_reducible first | exact HB.out | apply below_alloc | apply pw_below_drewN | apply below_drew1 | refine below_set ?_ GE338.out | refine below_set ?_ GE339.out) | exact HB.out)⟩
      · replace c6 := Bool.eq_false_iff.mpr c6
        subst c6
        have H1 : (some false) = some r := by rw [if_neg (show ¬ (false = true) by decide)] at H; exact H
        clear H
        have H := H1
        clear H1
        obtain rfl := Option.some.inj H
        go_enter Tryd.func20, Tryd.ntmps20
        go_wp2_with (first | ((with_reducible refine gate_dst (N := 2) rfl ?_); refine box_event ?hg (N := 2) ?hd (cs := #[.int .i64 a0_0, .int .i64 a0_1, .slice A0_2 l0_2.length c0_2, .string a0_3]) (t := 24) ?hr ?_; (case hd => rfl); (case hg => rfl); (case hr => first | (go_simp; done) | (go_simp; rfl)); intro gb338 hg w12 hbox hb; have n0_ := Aside0.mk (below_step (by repeat (first | (with_reducible first | exact HB.out | apply below_alloc | apply pw_below_drewN | apply below_drew1) | exact HB.out)) hb); have n1_ := Aside0.mk (hbox); have n2_ := Aside0.mk ((by rw [hg]; exact (below_size (by repeat (first | (with_reducible first | exact HB.out | apply below_alloc | apply pw_below_drewN | apply below_drew1) | exact HB.out))) : w.heap.size ≤ gb338)); have n3_ := Aside0.mk ((by rw [hg]; exact (below_size (by repeat (first | (with_reducible first | exact HB.out | apply below_alloc | apply pw_below_drewN | apply below_drew1) | exact HB.out))) : w.heap.size ≤ gb338)); clear HB; have HB := n0_; have BK338 := n1_; have GW338 := n2_; have GE338 := n3_; clear n0_ n1_ n2_ n3_; clear hb hbox hg) | ((with_reducible refine gate_dst (N := 3) rfl ?_); refine box_event ?hg (N := 3) ?hd (cs := #[.int .i64 a1_0, .int .i64 a1_1, .slice A1_2 l1_2.length c1_2, .string a1_3]) (t := 24) ?hr ?_; (case hd => rfl); (case hg => rfl); (case hr => first | (go_simp; done) | (go_simp; rfl)); intro gb339 hg w13 hbox hb; have n0_ := Aside0.mk (blk_below (g := gb338) (o := .cells #[.int .i64 a0_0, .int .i64 a0_1, .slice A0_2 l0_2.length c0_2, .string a0_3] 24 (0, 0)) (by (with_reducible repeat (first | refine blk_drewN ?_ _ | refine blk_drew ?_ | refine blk_alloc ?_ _)); exact BK338.out) hb); have n1_ := Aside0.mk (below_step (by repeat (first | (with_reducible first | exact HB.out | apply below_alloc | apply pw_below_drewN | apply below_drew1 | refine below_set ?_ GE338.out) | exact HB.out)) hb); have n2_ := Aside0.mk (hbox); have n3_ := Aside0.mk ((by rw [hg]; exact (below_size (by repeat (first | (with_reducible first | exact HB.out | apply below_alloc | apply pw_below_drewN | apply below_drew1 | refine below_set ?_ GE338.out) | exact HB.out))) : w.heap.size ≤ gb339)); have n4_ := Aside0.mk ((by rw [hg]; exact (below_size (by repeat (first | (with_reducible first | exact HB.out | apply below_alloc | apply pw_below_drewN | apply below_drew1 | refine below_set ?_ GE338.out) | exact HB.out))) : w.heap.size ≤ gb339)); have n5_ := Aside0.mk ((by rw [hg]; exact Nat.ne_of_lt (blk_lt (g := gb338) (o := .cells #[.int .i64 a0_0, .int .i64 a0_1, .slice A0_2 l0_2.length c0_2, .string a0_3] 24 (0, 0)) (by (with_reducible repeat (first | refine blk_drewN ?_ _ | refine blk_drew ?_ | refine blk_alloc ?_ _)); exact BK338.out)) : gb338 ≠ gb339)); have n6_ := Aside0.mk ((by rw [hg]; exact Nat.ne_of_gt (blk_lt (g := gb338) (o := .cells #[.int .i64 a0_0, .int .i64 a0_1, .slice A0_2 l0_2.length c0_2, .string a0_3] 24 (0, 0)) (by (with_reducible repeat (first | refine blk_drewN ?_ _ | refine blk_drew ?_ | refine blk_alloc ?_ _)); exact BK338.out)) : gb339 ≠ gb338)); clear BK338; clear HB; have BK338 := n0_; have HB := n1_; have BK339 := n2_; have GW339 := n3_; have GE339 := n4_; have NB338_339 := n5_; have NB339_338 := n6_; clear n0_ n1_ n2_ n3_ n4_ n5_ n6_; clear hb hbox hg; have hnb14 := NB338_339.out; have hnc14 := NB339_338.out; have hcz15_0 : w13.cell? ⟨gb338, 0, none⟩ = some (.int .i64 a0_0) := (blk_cell BK338.out 0).trans rfl; have hcz15_1 : w13.cell? ⟨gb338, 1, none⟩ = some (.int .i64 a0_1) := (blk_cell BK338.out 1).trans rfl; have hcz15_2 : w13.cell? ⟨gb338, 2, none⟩ = some (.slice A0_2 l0_2.length c0_2) := (blk_cell BK338.out 2).trans rfl; have hcz15_3 : w13.cell? ⟨gb338, 3, none⟩ = some (.string a0_3) := (blk_cell BK338.out 3).trans rfl; have hfz15_0 := blk_frozen BK338.out 0; have hfz15_1 := blk_frozen BK338.out 1; have hfz15_2 := blk_frozen BK338.out 2; have hfz15_3 := blk_frozen BK338.out 3; have hcz16_0 : w13.cell? ⟨gb339, 0, none⟩ = some (.int .i64 a1_0) := (blk_cell BK339.out 0).trans rfl; have hcz16_1 : w13.cell? ⟨gb339, 1, none⟩ = some (.int .i64 a1_1) := (blk_cell BK339.out 1).trans rfl; have hcz16_2 : w13.cell? ⟨gb339, 2, none⟩ = some (.slice A1_2 l1_2.length c1_2) := (blk_cell BK339.out 2).trans rfl; have hcz16_3 : w13.cell? ⟨gb339, 3, none⟩ = some (.string a1_3) := (blk_cell BK339.out 3).trans rfl; have hfz16_0 := blk_frozen BK339.out 0; have hfz16_1 := blk_frozen BK339.out 1; have hfz16_2 := blk_frozen BK339.out 2; have hfz16_3 := blk_frozen BK339.out 3) | (go_at_call 50; (with_reducible refine (sleuthlaw0_SameTexts.calls k _ _ l0_2 _ _ l1_2 false _ ?side1 ?side2 ?side3 ?side4 A5.out).mono ?_); (case side1 => repeat (first | exact (Kd.C_below HR0_2.out HB.out) | (with_reducible refine Kd.C_alloc ?_ _) | (with_reducible refine Kd.C_drewN ?_ _) | (with_reducible refine Kd.C_drew ?_))); (case side2 => exact HC0_2.out); (case side3 => repeat (first | exact (Kd.C_below HR1_2.out HB.out) | (with_reducible refine Kd.C_alloc ?_ _) | (with_reducible refine Kd.C_drewN ?_ _) | (with_reducible refine Kd.C_drew ?_))); (case side4 => exact HC1_2.out); rintro e w' ⟨rfl, ⟨nd, rfl⟩⟩))
        go_ret
        exact ⟨by first | rfl | (simp [errW_none, errW_some] <;> rfl) | (simp [*, errW_none, errW_some] <;> rfl), by repeat (first | (with_reducible first | exact HB.out | apply below_alloc | apply pw_below_drewN | apply below_drew1 | refine below_set ?_ GE338.out | refine below_set ?_ GE339.out) | exact HB.out)⟩
    · rw [if_neg c4] at H
      have c4b0 : (a0_1 == a1_1) = false := beq_eq_false_iff_ne.mpr c4
      have c4b1 : (a0_1 != a1_1) = true := bne_iff_ne.mpr c4
      obtain rfl := Option.some.inj H
      go_enter Tryd.func20, Tryd.ntmps20
      go_wp2_with (first | ((with_reducible refine gate_dst (N := 2) rfl ?_); refine box_event ?hg (N := 2) ?hd (cs := #[.int .i64 a0_0, .int .i64 a0_1, .slice A0_2 l0_2.length c0_2, .string a0_3]) (t := 24) ?hr ?_; (case hd => rfl); (case hg => rfl); (case hr => first | (go_simp; done) | (go_simp; rfl)); intro gb338 hg w17 hbox hb; have n0_ := Aside0.mk (below_step (by repeat (first | (with_reducible first | exact HB.out | apply below_alloc | apply pw_below_drewN | apply below_drew1) | exact HB.out)) hb); have n1_ := Aside0.mk (hbox); have n2_ := Aside0.mk ((by rw [hg]; exact (below_size (by repeat (first | (with_reducible first | exact HB.out | apply below_alloc | apply pw_below_drewN | apply below_drew1) | exact HB.out))) : w.heap.size ≤ gb338)); have n3_ := Aside0.mk ((by rw [hg]; exact (below_size (by repeat (first | (with_reducible first | exact HB.out | apply below_alloc | apply pw_below_drewN | apply below_drew1) | exact HB.out))) : w.heap.size ≤ gb338)); clear HB; have HB := n0_; have BK338 := n1_; have GW338 := n2_; have GE338 := n3_; clear n0_ n1_ n2_ n3_; clear hb hbox hg) | ((with_reducible refine gate_dst (N := 3) rfl ?_); refine box_event ?hg (N := 3) ?hd (cs := #[.int .i64 a1_0, .int .i64 a1_1, .slice A1_2 l1_2.length c1_2, .string a1_3]) (t := 24) ?hr ?_; (case hd => rfl); (case hg => rfl); (case hr => first | (go_simp; done) | (go_simp; rfl)); intro gb339 hg w18 hbox hb; have n0_ := Aside0.mk (blk_below (g := gb338) (o := .cells #[.int .i64 a0_0, .int .i64 a0_1, .slice A0_2 l0_2.length c0_2, .string a0_3] 24 (0, 0)) (by (with_reducible repeat (first | refine blk_drewN ?_ _ | refine blk_drew ?_ | refine blk_alloc ?_ _)); exact BK338.out) hb); have n1_ := Aside0.mk (below_step (by repeat (first | (with_reducible first | exact HB.out | apply below_alloc | apply pw_below_drewN | apply below_drew1 | refine below_set ?_ GE338.out) | exact HB.out)) hb); have n2_ := Aside0.mk (hbox); have n3_ := Aside0.mk ((by rw [hg]; exact (below_size (by repeat (first | (with_reducible first | exact HB.out | apply below_alloc | apply pw_below_drewN | apply below_drew1 | refine below_set ?_ GE338.out) | exact HB.out))) : w.heap.size ≤ gb339)); have n4_ := Aside0.mk ((by rw [hg]; exact (below_size (by repeat (first | (with_reducible first | exact HB.out | apply below_alloc | apply pw_below_drewN | apply below_drew1 | refine below_set ?_ GE338.out) | exact HB.out))) : w.heap.size ≤ gb339)); have n5_ := Aside0.mk ((by rw [hg]; exact Nat.ne_of_lt (blk_lt (g := gb338) (o := .cells #[.int .i64 a0_0, .int .i64 a0_1, .slice A0_2 l0_2.length c0_2, .string a0_3] 24 (0, 0)) (by (with_reducible repeat (first | refine blk_drewN ?_ _ | refine blk_drew ?_ | refine blk_alloc ?_ _)); exact BK338.out)) : gb338 ≠ gb339)); have n6_ := Aside0.mk ((by rw [hg]; exact Nat.ne_of_gt (blk_lt (g := gb338) (o := .cells #[.int .i64 a0_0, .int .i64 a0_1, .slice A0_2 l0_2.length c0_2, .string a0_3] 24 (0, 0)) (by (with_reducible repeat (first | refine blk_drewN ?_ _ | refine blk_drew ?_ | refine blk_alloc ?_ _)); exact BK338.out)) : gb339 ≠ gb338)); clear BK338; clear HB; have BK338 := n0_; have HB := n1_; have BK339 := n2_; have GW339 := n3_; have GE339 := n4_; have NB338_339 := n5_; have NB339_338 := n6_; clear n0_ n1_ n2_ n3_ n4_ n5_ n6_; clear hb hbox hg; have hnb19 := NB338_339.out; have hnc19 := NB339_338.out; have hcz20_0 : w18.cell? ⟨gb338, 0, none⟩ = some (.int .i64 a0_0) := (blk_cell BK338.out 0).trans rfl; have hcz20_1 : w18.cell? ⟨gb338, 1, none⟩ = some (.int .i64 a0_1) := (blk_cell BK338.out 1).trans rfl; have hcz20_2 : w18.cell? ⟨gb338, 2, none⟩ = some (.slice A0_2 l0_2.length c0_2) := (blk_cell BK338.out 2).trans rfl; have hcz20_3 : w18.cell? ⟨gb338, 3, none⟩ = some (.string a0_3) := (blk_cell BK338.out 3).trans rfl; have hfz20_0 := blk_frozen BK338.out 0; have hfz20_1 := blk_frozen BK338.out 1; have hfz20_2 := blk_frozen BK338.out 2; have hfz20_3 := blk_frozen BK338.out 3; have hcz21_0 : w18.cell? ⟨gb339, 0, none⟩ = some (.int .i64 a1_0) := (blk_cell BK339.out 0).trans rfl; have hcz21_1 : w18.cell? ⟨gb339, 1, none⟩ = some (.int .i64 a1_1) := (blk_cell BK339.out 1).trans rfl; have hcz21_2 : w18.cell? ⟨gb339, 2, none⟩ = some (.slice A1_2 l1_2.length c1_2) := (blk_cell BK339.out 2).trans rfl; have hcz21_3 : w18.cell? ⟨gb339, 3, none⟩ = some (.string a1_3) := (blk_cell BK339.out 3).trans rfl; have hfz21_0 := blk_frozen BK339.out 0; have hfz21_1 := blk_frozen BK339.out 1; have hfz21_2 := blk_frozen BK339.out 2; have hfz21_3 := blk_frozen BK339.out 3))
      go_ret
      exact ⟨by first | rfl | (simp [errW_none, errW_some] <;> rfl) | (simp [*, errW_none, errW_some] <;> rfl), by repeat (first | (with_reducible first | exact HB.out | apply below_alloc | apply pw_below_drewN | apply below_drew1 | refine below_set ?_ GE338.out | refine below_set ?_ GE339.out) | exact HB.out)⟩
  · rw [if_neg c3] at H
    have c3b0 : (a0_0 == a1_0) = false := beq_eq_false_iff_ne.mpr c3
    have c3b1 : (a0_0 != a1_0) = true := bne_iff_ne.mpr c3
    obtain rfl := Option.some.inj H
    go_enter Tryd.func20, Tryd.ntmps20
    go_wp2_with (first | ((with_reducible refine gate_dst (N := 2) rfl ?_); refine box_event ?hg (N := 2) ?hd (cs := #[.int .i64 a0_0, .int .i64 a0_1, .slice A0_2 l0_2.length c0_2, .string a0_3]) (t := 24) ?hr ?_; (case hd => rfl); (case hg => rfl); (case hr => first | (go_simp; done) | (go_simp; rfl)); intro gb338 hg w22 hbox hb; have n0_ := Aside0.mk (below_step (by repeat (first | (with_reducible first | exact HB.out | apply below_alloc | apply pw_below_drewN | apply below_drew1) | exact HB.out)) hb); have n1_ := Aside0.mk (hbox); have n2_ := Aside0.mk ((by rw [hg]; exact (below_size (by repeat (first | (with_reducible first | exact HB.out | apply below_alloc | apply pw_below_drewN | apply below_drew1) | exact HB.out))) : w.heap.size ≤ gb338)); have n3_ := Aside0.mk ((by rw [hg]; exact (below_size (by repeat (first | (with_reducible first | exact HB.out | apply below_alloc | apply pw_below_drewN | apply below_drew1) | exact HB.out))) : w.heap.size ≤ gb338)); clear HB; have HB := n0_; have BK338 := n1_; have GW338 := n2_; have GE338 := n3_; clear n0_ n1_ n2_ n3_; clear hb hbox hg) | ((with_reducible refine gate_dst (N := 3) rfl ?_); refine box_event ?hg (N := 3) ?hd (cs := #[.int .i64 a1_0, .int .i64 a1_1, .slice A1_2 l1_2.length c1_2, .string a1_3]) (t := 24) ?hr ?_; (case hd => rfl); (case hg => rfl); (case hr => first | (go_simp; done) | (go_simp; rfl)); intro gb339 hg w23 hbox hb; have n0_ := Aside0.mk (blk_below (g := gb338) (o := .cells #[.int .i64 a0_0, .int .i64 a0_1, .slice A0_2 l0_2.length c0_2, .string a0_3] 24 (0, 0)) (by (with_reducible repeat (first | refine blk_drewN ?_ _ | refine blk_drew ?_ | refine blk_alloc ?_ _)); exact BK338.out) hb); have n1_ := Aside0.mk (below_step (by repeat (first | (with_reducible first | exact HB.out | apply below_alloc | apply pw_below_drewN | apply below_drew1 | refine below_set ?_ GE338.out) | exact HB.out)) hb); have n2_ := Aside0.mk (hbox); have n3_ := Aside0.mk ((by rw [hg]; exact (below_size (by repeat (first | (with_reducible first | exact HB.out | apply below_alloc | apply pw_below_drewN | apply below_drew1 | refine below_set ?_ GE338.out) | exact HB.out))) : w.heap.size ≤ gb339)); have n4_ := Aside0.mk ((by rw [hg]; exact (below_size (by repeat (first | (with_reducible first | exact HB.out | apply below_alloc | apply pw_below_drewN | apply below_drew1 | refine below_set ?_ GE338.out) | exact HB.out))) : w.heap.size ≤ gb339)); have n5_ := Aside0.mk ((by rw [hg]; exact Nat.ne_of_lt (blk_lt (g := gb338) (o := .cells #[.int .i64 a0_0, .int .i64 a0_1, .slice A0_2 l0_2.length c0_2, .string a0_3] 24 (0, 0)) (by (with_reducible repeat (first | refine blk_drewN ?_ _ | refine blk_drew ?_ | refine blk_alloc ?_ _)); exact BK338.out)) : gb338 ≠ gb339)); have n6_ := Aside0.mk ((by rw [hg]; exact Nat.ne_of_gt (blk_lt (g := gb338) (o := .cells #[.int .i64 a0_0, .int .i64 a0_1, .slice A0_2 l0_2.length c0_2, .string a0_3] 24 (0, 0)) (by (with_reducible repeat (first | refine blk_drewN ?_ _ | refine blk_drew ?_ | refine blk_alloc ?_ _)); exact BK338.out)) : gb339 ≠ gb338)); clear BK338; clear HB; have BK338 := n0_; have HB := n1_; have BK339 := n2_; have GW339 := n3_; have GE339 := n4_; have NB338_339 := n5_; have NB339_338 := n6_; clear n0_ n1_ n2_ n3_ n4_ n5_ n6_; clear hb hbox hg; have hnb24 := NB338_339.out; have hnc24 := NB339_338.out; have hcz25_0 : w23.cell? ⟨gb338, 0, none⟩ = some (.int .i64 a0_0) := (blk_cell BK338.out 0).trans rfl; have hcz25_1 : w23.cell? ⟨gb338, 1, none⟩ = some (.int .i64 a0_1) := (blk_cell BK338.out 1).trans rfl; have hcz25_2 : w23.cell? ⟨gb338, 2, none⟩ = some (.slice A0_2 l0_2.length c0_2) := (blk_cell BK338.out 2).trans rfl; have hcz25_3 : w23.cell? ⟨gb338, 3, none⟩ = some (.string a0_3) := (blk_cell BK338.out 3).trans rfl; have hfz25_0 := blk_frozen BK338.out 0; have hfz25_1 := blk_frozen BK338.out 1; have hfz25_2 := blk_frozen BK338.out 2; have hfz25_3 := blk_frozen BK338.out 3; have hcz26_0 : w23.cell? ⟨gb339, 0, none⟩ = some (.int .i64 a1_0) := (blk_cell BK339.out 0).trans rfl; have hcz26_1 : w23.cell? ⟨gb339, 1, none⟩ = some (.int .i64 a1_1) := (blk_cell BK339.out 1).trans rfl; have hcz26_2 : w23.cell? ⟨gb339, 2, none⟩ = some (.slice A1_2 l1_2.length c1_2) := (blk_cell BK339.out 2).trans rfl; have hcz26_3 : w23.cell? ⟨gb339, 3, none⟩ = some (.string a1_3) := (blk_cell BK339.out 3).trans rfl; have hfz26_0 := blk_frozen BK339.out 0; have hfz26_1 := blk_frozen BK339.out 1; have hfz26_2 := blk_frozen BK339.out 2; have hfz26_3 := blk_frozen BK339.out 3))
    go_ret
    exact ⟨by first | rfl | (simp [errW_none, errW_some] <;> rfl) | (simp [*, errW_none, errW_some] <;> rfl), by repeat (first | (with_reducible first | exact HB.out | apply below_alloc | apply pw_below_drewN | apply below_drew1 | refine below_set ?_ GE338.out | refine below_set ?_ GE339.out) | exact HB.out)⟩

end Go.Proofs.YtkbaelhcijibiaaDoor.Px

/- Of each function of this text: a plain Lean function and a proof that the machine's call comes to its answers; printed by this session's program. -/
namespace Go.Proofs.YtkbaelhcijibiaaDoor.Px
open Go.RowKit Go.Proofs.YtkbaelhcijibiaaDoorW.PrintWords Go.Proofs.YtkbaelhcijibiaaDoorW.PrintLast Go.Proofs.YtkbaelhcijibiaaDoorW.PrintMore
attribute [local go_sem] max2_int min2_int max_two min_two max_three min_three max_four min_four   -- for this text's walks alone
set_option linter.unusedVariables false
set_option linter.unusedSimpArgs false

/-! ### sleuthlaw0_Num: function 19 -/
def sleuthlaw0_Num.f (a0 : Int) : Option (Int) := some a0
set_option maxHeartbeats 8000000 in
set_option maxRecDepth 100000 in
theorem sleuthlaw0_Num.calls (a0 : Int) (r : Int) (w : World) (h : sleuthlaw0_Num.f a0 = some r) :
    Calls Tryd.prog 19 #[.int .i64 a0] w fun e w' => e = .returned (.int .i64 r) ∧ Drawn0 w w' := by
  have H : (some a0) = some r := h
  clear h
  obtain rfl := Option.some.inj H
  go_enter Tryd.func19, Tryd.ntmps19
  go_wp2
  go_ret
  exact ⟨by first | rfl | (simp; done) | (simp [*]; done), by repeat (first | exact Drawn0.refl _ | apply Drawn0.step)⟩

end Go.Proofs.YtkbaelhcijibiaaDoor.Px

/-
  sleuthlaw15.awake answers true: by its calls' contracts.
-/
namespace Go.Proofs.YtkbaelhcijibiaaDoor.Px
open Go.RowKit Go.Proofs.YtkbaelhcijibiaaDoorW.PrintWords Go.Proofs.YtkbaelhcijibiaaDoorW.PrintLast Go.Proofs.YtkbaelhcijibiaaDoorW.PrintMore
set_option linter.unusedVariables false
set_option linter.unusedSimpArgs false

def sOne : ByteArray := ⟨#[49]⟩
def sHole : ByteArray := ⟨#[95]⟩
def sRec : ByteArray := ⟨#[1, 2, 0, 2, 1, 0, 49, 1, 0, 95, 1, 0, 95]⟩
theorem some15_at (w : World) : Calls Tryd.prog 23 #[] w fun e w' => ∃ (b : Addr) (c : Nat) (A2 : Option Addr) (c2 : Nat), e = .returned (.slice (some b) 5 c) ∧ Aside0 (Kd.C Kd.string w' A2 2 [sOne, sHole]) ∧ Aside0 (2 ≤ c2) ∧
    w'.cell? ⟨b.block, b.off + 12, none⟩ = some (.int .i64 1) ∧ w'.cell? ⟨b.block, b.off + 12 + 1, none⟩ = some (.int .i64 1) ∧ w'.cell? ⟨b.block, b.off + 12 + 2, none⟩ = some (.slice A2 2 c2) ∧ w'.cell? ⟨b.block, b.off + 12 + 3, none⟩ = some (.string sHole) ∧ Below w.heap.size w w' := by
  refine (sleuthlaw15_some.calls _ w rfl).mono ?_
  rintro e w' ⟨v, rfl, hN, hb⟩
  obtain ⟨A, c, rfl, hl, hC⟩ := Kd.N_reads hN
  obtain ⟨ad, A2, c2, rfl, x0, x1, x2, x3, h2, hc2⟩ := at_T24 hC 3 (by decide) (by decide)
  simp only [show (3 : Int).toNat = 3 from rfl, Nat.reduceMul] at x0 x1 x2 x3
  have hz : ad.add 12 = ⟨ad.block, ad.off + 12, none⟩ := by
    unfold Addr.add
    split <;> simp_all
  rw [hz] at x0 x1 x2 x3
  exact ⟨ad, c, A2, c2, rfl, ⟨hc2⟩, ⟨h2⟩, x0, x1, x2, x3, hb⟩
/-- What is known of the five calls. -/
structure Known15 : Prop where
  put : record_Put.f RR 1 1 [sOne, sHole] sHole = some (sRec, 0)
  get : record_Get.f RR sRec = some (1, 1, [sOne, sHole], sHole, 0)
  put0 : record_Put.f RR 0 0 [] ⟨#[]⟩ = some (⟨#[]⟩, 1500)
  get0 : record_Get.f RR ⟨#[]⟩ = some (0, 0, [], ⟨#[]⟩, 1500)
  same : sleuthlaw0_SameNode.f RR 1 1 [sOne, sHole] sHole 1 1 [sOne, sHole] sHole = some true
theorem put_some (K : Known15) (A2 : Option Addr) (c2 : Nat) (w : World) (hC : Aside0 (Kd.C Kd.string w A2 2 [sOne, sHole])) (hc : Aside0 (2 ≤ c2)) (hL : Laid w) :
    Calls Tryd.prog 15 #[.agg #[.int .i64 1, .int .i64 1, .slice A2 2 c2, .string sHole]] w fun e w' => e = .returned (.tuple #[.string sRec, .int .i64 0]) ∧ Below w.heap.size w w' :=
  record_Put.calls RR 1 1 A2 c2 [sOne, sHole] sHole sRec 0 w hC.out hc.out hL K.put
theorem put_zero (K : Known15) (w : World) (hL : Laid w) :
    Calls Tryd.prog 15 #[.agg #[.int .i64 0, .int .i64 0, .slice none 0 0, .string ⟨#[]⟩]] w fun e w' => e = .returned (.tuple #[.string ⟨#[]⟩, .int .i64 1500]) ∧ Below w.heap.size w w' :=
  record_Put.calls RR 0 0 none 0 [] ⟨#[]⟩ ⟨#[]⟩ 1500 w (Kd.C_nil _ _) (Nat.le_refl _) hL K.put0
theorem get_rec (K : Known15) (w : World) (hL : Laid w) :
    Calls Tryd.prog 17 #[.string sRec] w fun e w' => ∃ (A : Option Addr) (c : Nat), e = .returned (.tuple #[.agg #[.int .i64 1, .int .i64 1, .slice A 2 c, .string sHole], .int .i64 0]) ∧ Aside0 (Kd.C Kd.string w' A 2 [sOne, sHole]) ∧ Aside0 (2 ≤ c) ∧ Below w.heap.size w w' := by
  refine (record_Get.calls RR sRec 1 1 [sOne, sHole] sHole 0 w hL K.get).mono ?_
  rintro e w' ⟨v, rfl, hR, hb⟩
  obtain ⟨A, c, rfl, hl, hC⟩ := Kd.R_reads hR
  exact ⟨A, c, rfl, ⟨hC⟩, ⟨hl⟩, hb⟩
theorem get_none (K : Known15) (w : World) (hL : Laid w) :
    Calls Tryd.prog 17 #[.string ⟨#[]⟩] w fun e w' => ∃ (A : Option Addr) (c : Nat), e = .returned (.tuple #[.agg #[.int .i64 0, .int .i64 0, .slice A 0 c, .string ⟨#[]⟩], .int .i64 1500]) ∧ Below w.heap.size w w' := by
  refine (record_Get.calls RR ⟨#[]⟩ 0 0 [] ⟨#[]⟩ 1500 w hL K.get0).mono ?_
  rintro e w' ⟨v, rfl, hR, hb⟩
  obtain ⟨A, c, rfl, hl, hC⟩ := Kd.R_reads hR
  exact ⟨A, c, rfl, hb⟩
theorem num_is (x : Int) (w : World) : Calls Tryd.prog 19 #[.int .i64 x] w fun e w' => e = .returned (.int .i64 x) ∧ ∃ n, w' = w.drewN n :=
  (sleuthlaw0_Num.calls x x w rfl).mono fun e w' ⟨he, hd⟩ => ⟨he, hd.out⟩
set_option maxHeartbeats 4000000 in
set_option maxRecDepth 100000 in
theorem awake15_walk (K : Known15) (w : World) (hL : Laid w) :
    Calls Tryd.prog 22 #[] w fun e w' => e = .returned (.bool true) ∧ Below w.heap.size w w' := by
  have hu24 := Tryd.underlying24
  have HL := Lib.hid hL
  have HK := Lib.hid K
  clear hL K
  have HB := Lib.hid (Below.refl w.heap.size w)
  go_enter Tryd.func22, Tryd.ntmps22
  go_upto_region 5 with (first
    | (go_at_call 23; refine (some15_at _).mono ?_; rintro e w1 ⟨b, c, A2, c2, rfl, HC, HC2, x0, x1, x2, x3, hb⟩; have n0 := Lib.hid (HB.out.trans (hb.mono HB.out.size)); clear HB hb; have HB := n0; clear n0)
    | (go_at_call 15; (with_reducible refine (put_some HK.out _ _ _ HC HC2 (HL.out.below HB.out)).mono ?_); rintro e w2 ⟨rfl, hb⟩; have n0 := Lib.hid (HB.out.trans (hb.mono HB.out.size)); clear HB hb x0 x1 x2 x3; have HB := n0; clear n0)
    | (go_at_call 15; (with_reducible refine (put_zero HK.out _ (HL.out.below (by exact (HB.out.alloc HB.out.size _)))).mono ?_); rintro e w4 ⟨rfl, hb⟩; have y0 : w4.cell? ⟨w3.heap.size, 0, none⟩ = some (.int .i64 1) := keeps_cell hb (by go_simp); have y1 : w4.cell? ⟨w3.heap.size, 1, none⟩ = some (.int .i64 1) := keeps_cell hb (by go_simp); have y2 : w4.cell? ⟨w3.heap.size, 2, none⟩ = some (.slice A3 2 c3) := keeps_cell hb (by go_simp); have y3 : w4.cell? ⟨w3.heap.size, 3, none⟩ = some (.string sHole) := keeps_cell hb (by go_simp); have n1 : Aside0 (Kd.C Kd.string w4 A3 2 [sOne, sHole]) := ⟨Kd.C_below (Kd.C_alloc HC3.out _) hb⟩; have n0 := Lib.hid ((HB.out.alloc HB.out.size _).trans (hb.mono (by simp; have := HB.out.size; omega))); clear HB hb HC3; have HB := n0; have HC3 := n1; clear n0 n1)
    | (go_at_call 17; (with_reducible refine (get_rec HK.out _ (HL.out.below HB.out)).mono ?_); rintro e w3 ⟨A3, c3, rfl, HC3, HC3', hb⟩; have n0 := Lib.hid (HB.out.trans (hb.mono HB.out.size)); clear HB hb; have HB := n0; clear n0)
    | (go_at_call 17; (with_reducible refine (get_none HK.out _ (HL.out.below HB.out)).mono ?_); rintro e w5 ⟨A5, c5, rfl, hb⟩; have z0 := keeps_cell hb y0; have z1 := keeps_cell hb y1; have z2 := keeps_cell hb y2; have z3 := keeps_cell hb y3; have n1 : Aside0 (Kd.C Kd.string w5 A3 2 [sOne, sHole]) := ⟨Kd.C_below HC3.out hb⟩; have n0 := Lib.hid (HB.out.trans (hb.mono HB.out.size)); clear HB hb HC3 y0 y1 y2 y3; have HB := n0; have HC3 := n1; clear n0 n1))
  have hEq : (sRec.toList == ([1, 2, 0, 2, 1, 0, 49, 1, 0, 95, 1, 0, 95] : List UInt8)) = true := by rw [Lib.toList_data]; rfl
  have n0 := Lib.hid (HB.out.alloc HB.out.size (.cells #[.int .i64 0, .int .i64 0, .slice A5 0 c5, .string ⟨#[]⟩] 24))
  have n1 : Aside0 (Kd.C Kd.string (w5.alloc (.cells #[.int .i64 0, .int .i64 0, .slice A5 0 c5, .string ⟨#[]⟩] 24)) A3 2 [sOne, sHole]) := ⟨Kd.C_alloc HC3.out _⟩
  have y0 := keeps_cell ((Below.refl _ _).alloc (Nat.le_refl _) (.cells #[.int .i64 0, .int .i64 0, .slice A5 0 c5, .string ⟨#[]⟩] 24)) z0
  have y1 := keeps_cell ((Below.refl _ _).alloc (Nat.le_refl _) (.cells #[.int .i64 0, .int .i64 0, .slice A5 0 c5, .string ⟨#[]⟩] 24)) z1
  have y2 := keeps_cell ((Below.refl _ _).alloc (Nat.le_refl _) (.cells #[.int .i64 0, .int .i64 0, .slice A5 0 c5, .string ⟨#[]⟩] 24)) z2
  have y3 := keeps_cell ((Below.refl _ _).alloc (Nat.le_refl _) (.cells #[.int .i64 0, .int .i64 0, .slice A5 0 c5, .string ⟨#[]⟩] 24)) z3
  generalize w5.alloc (.cells #[.int .i64 0, .int .i64 0, .slice A5 0 c5, .string ⟨#[]⟩] 24) = W at *
  clear HB HC3 z0 z1 z2 z3
  have HB := n0
  have HC3 := n1
  clear n0 n1
  generalize w3.heap.size = g at *
  go_region_with (first
    | (go_at_call 19; refine (num_is _ _).mono ?_; rintro e w7 ⟨rfl, nq, rfl⟩)
    | (go_at_call 23; refine (some15_at _).mono ?_; rintro e w8 ⟨b8, c8, A8, c82, rfl, HC8, HC82, x0, x1, x2, x3, hb⟩; have hW := drewN_below W.heap.size W (1 + nq); have hb := hW.trans (hb.mono hW.size); have q0 := keeps_cell hb y0; have q1 := keeps_cell hb y1; have q2 := keeps_cell hb y2; have q3 := keeps_cell hb y3; have n1 : Aside0 (Kd.C Kd.string w8 A3 2 [sOne, sHole]) := ⟨Kd.C_below HC3.out hb⟩; have n0 := Lib.hid (HB.out.trans (hb.mono HB.out.size)); clear HB hb hW HC3 y0 y1 y2 y3; have HB := n0; have HC3 := n1; clear n0 n1)
    | (go_at_call 20; refine (sleuthlaw0_SameNode.calls RR 1 1 A3 c3 [sOne, sHole] sHole 1 1 A8 c82 [sOne, sHole] sHole true _ HC3.out HC3'.out HC8.out HC82.out HK.out.same).mono ?_; rintro e w9 ⟨rfl, hb⟩))
  all_goals
    have HE := Lib.hid (HB.out.trans ((by assumption : Below w8.heap.size w8 w9).mono HB.out.size))
  all_goals first
    | go_wp2
    | skip
  all_goals first
    | go_ret
    | skip
  all_goals first
    | exact ⟨rfl, HE.out⟩
    | exact ⟨rfl, HE.out.trans ((drewN_below _ _ _).mono HE.out.size)⟩
    | skip

end Go.Proofs.YtkbaelhcijibiaaDoor.Px

/-
  sleuthlaw15.awake answers true: what its calls answer, evaluated.
-/
namespace Go.Proofs.YtkbaelhcijibiaaDoor.Px
open Go.RowKit Go.Proofs.YtkbaelhcijibiaaDoorW.PrintWords Go.Proofs.YtkbaelhcijibiaaDoorW.PrintLast Go.Proofs.YtkbaelhcijibiaaDoorW.PrintMore
set_option linter.unusedVariables false
set_option linter.unusedSimpArgs false

theorem ok15 : okNode 1 1 [sOne, sHole] sHole = true := by
  unfold okNode
  rw [show trail_Equation.f 1 1 [sOne, sHole] sHole = some true from by decide +kernel]
  rfl
theorem no15 : okNode 0 0 [] ⟨#[]⟩ = false := by
  unfold okNode
  rw [show trail_Equation.f 0 0 [] ⟨#[]⟩ = some false from by decide +kernel]
  rfl
theorem enc15 : encL 1 1 [sOne, sHole] sHole = [1, 2, 0, 2, 1, 0, 49, 1, 0, 95, 1, 0, 95] := by decide +kernel
theorem rec15 : sRec = mkB (encL 1 1 [sOne, sHole] sHole) := by rw [enc15]; rfl
theorem known15 : Known15 where
  put := by rw [put_is RR (by decide), if_pos ok15, rec15]; rfl
  get := by rw [rec15]; exact get_enc RR (by decide) ok15
  put0 := by rw [put_is RR (by decide), if_neg (by rw [no15]; simp)]
  get0 := by
    have h := get_is RR (by decide) []
    have hn : okNode (gF []) (gP []) (gA []) (gR []) = false := by
      unfold okNode
      rw [show (decide (-1 ≤ gP [])) = true from rfl, show trail_Equation.f (gF []) (gP []) (gA []) (gR []) = some false from by decide +kernel]
      rfl
    rw [gEnd, if_neg (fun q => by rw [hn] at q; cases q.1)] at h
    exact h
  same := by decide +kernel
def sleuthlaw15_awake.f : Option Bool := some true
theorem sleuthlaw15_awake.calls (w : World) (hL : Laid w) (h : sleuthlaw15_awake.f = some true) :
    Calls Tryd.prog 22 #[] w fun e w' => e = .returned (.bool true) ∧ Below w.heap.size w w' := awake15_walk known15 w hL
end Go.Proofs.YtkbaelhcijibiaaDoor.Px

/-
  sleuthlaw15.some: the fourth node's arguments are a row of the call's own.
-/
namespace Go.Proofs.YtkbaelhcijibiaaDoor.Px
open Go.RowKit Go.Proofs.YtkbaelhcijibiaaDoorW.PrintWords Go.Proofs.YtkbaelhcijibiaaDoorW.PrintLast Go.Proofs.YtkbaelhcijibiaaDoorW.PrintMore
set_option linter.unusedVariables false
set_option linter.unusedSimpArgs false

/-- The fourth node of a row of five, and its arguments' own row. -/
def Own15 (base : Nat) (w' : World) (v : Value) : Prop :=
  ∃ (b c g2 c2 : Nat), v = .slice (some ⟨b, 0, none⟩) 5 c ∧ w'.cell? ⟨b, 12, none⟩ = some (.int .i64 1) ∧ w'.cell? ⟨b, 13, none⟩ = some (.int .i64 1) ∧ w'.cell? ⟨b, 14, none⟩ = some (.slice (some ⟨g2, 0, none⟩) 2 c2) ∧ w'.cell? ⟨b, 15, none⟩ = some (.string sHole) ∧
    Kd.string.R 9 w' base (fun k => base ≤ k) (.slice (some ⟨g2, 0, none⟩) 2 c2) [sOne, sHole]
theorem own15_of {base : Nat} {w' : World} {v : Value} {xs : List S24} (h : k24.R 24 w' base (fun k_ => base ≤ k_) v xs) (hx : xs.length = 5) (hx3 : xs.getD 3 z24 = ⟨1, 1, [sOne, sHole], sHole⟩) : Own15 base w' v := by
  obtain ⟨b, c, rfl, hb, _, _⟩ := Kd.R_form h (by omega)
  rw [hx] at h ⊢
  obtain ⟨cs, hl, hM, hc, _⟩ := Kd.R_elem h z24 3 (by decide) (by decide)
  rw [show (3 : Int).toNat = 3 from rfl, hx3] at hM
  obtain ⟨v2, rfl, hR⟩ := k24_openM hM
  obtain ⟨g2, c2, rfl, hb2, _, _⟩ := Kd.R_form hR (by decide)
  exact ⟨b, c, g2, c2, rfl, hc 0 _ rfl, hc 1 _ rfl, hc 2 _ rfl, hc 3 _ rfl, Kd.R_mono hR (fun k hk => hk.1)⟩
set_option maxHeartbeats 8000000 in
set_option maxRecDepth 100000 in
theorem some15_own (r : List (S24)) (w : World) (h : sleuthlaw15_some.f  = some r) :
    Calls Tryd.prog 23 #[] w fun e w' => ∃ v, e = .returned v ∧ Own15 w.heap.size w' v ∧ Below w.heap.size w w' := by
  have hu24 := Tryd.underlying24
  have HB := Aside0.mk (Below.refl w.heap.size w)
  have H : (some (([(⟨0, (-1), ([] : List ByteArray), (⟨#[57]⟩ : ByteArray)⟩ : S24), (⟨1, 0, (([(⟨#[64, 55, 40, 95, 32, 52, 41]⟩ : ByteArray), (⟨#[53]⟩ : ByteArray)] : List ByteArray)), (⟨#[57]⟩ : ByteArray)⟩ : S24), (⟨2, 0, ([] : List ByteArray), (⟨#[33]⟩ : ByteArray)⟩ : S24), (⟨1, 1, (([(⟨#[49]⟩ : ByteArray), (⟨#[95]⟩ : ByteArray)] : List ByteArray)), (⟨#[95]⟩ : ByteArray)⟩ : S24), (⟨1, 2, (([(⟨#[49]⟩ : ByteArray), (⟨#[95]⟩ : ByteArray)] : List ByteArray)), (⟨#[95]⟩ : ByteArray)⟩ : S24)] : List (S24)))) = some r := h
  clear h
  obtain ⟨y344, hy344⟩ : ∃ y_ : List ByteArray, y_ = (([(⟨#[64, 55, 40, 95, 32, 52, 41]⟩ : ByteArray), (⟨#[53]⟩ : ByteArray)] : List ByteArray)) := ⟨_, rfl⟩
  replace H : (some (([(⟨0, (-1), ([] : List ByteArray), (⟨#[57]⟩ : ByteArray)⟩ : S24), (⟨1, 0, y344, (⟨#[57]⟩ : ByteArray)⟩ : S24), (⟨2, 0, ([] : List ByteArray), (⟨#[33]⟩ : ByteArray)⟩ : S24), (⟨1, 1, (([(⟨#[49]⟩ : ByteArray), (⟨#[95]⟩ : ByteArray)] : List ByteArray)), (⟨#[95]⟩ : ByteArray)⟩ : S24), (⟨1, 2, (([(⟨#[49]⟩ : ByteArray), (⟨#[95]⟩ : ByteArray)] : List ByteArray)), (⟨#[95]⟩ : ByteArray)⟩ : S24)] : List (S24)))) = some r := by first | (rw [hy344]; with_reducible exact H) | (have H2_ := (Option.bind_some _ _).symm.trans H; rw [hy344]; with_reducible exact H2_) | (have H2_ := (Option.bind_some _ _).symm.trans H; with_reducible exact H2_) | with_reducible exact H | (rw [hy344]; exact H) | exact H
  have Ny344 := Aside0.mk hy344
  clear hy344
  obtain ⟨y347, hy347⟩ : ∃ y_ : List ByteArray, y_ = (([(⟨#[49]⟩ : ByteArray), (⟨#[95]⟩ : ByteArray)] : List ByteArray)) := ⟨_, rfl⟩
  replace H : (some (([(⟨0, (-1), ([] : List ByteArray), (⟨#[57]⟩ : ByteArray)⟩ : S24), (⟨1, 0, y344, (⟨#[57]⟩ : ByteArray)⟩ : S24), (⟨2, 0, ([] : List ByteArray), (⟨#[33]⟩ : ByteArray)⟩ : S24), (⟨1, 1, y347, (⟨#[95]⟩ : ByteArray)⟩ : S24), (⟨1, 2, (([(⟨#[49]⟩ : ByteArray), (⟨#[95]⟩ : ByteArray)] : List ByteArray)), (⟨#[95]⟩ : ByteArray)⟩ : S24)] : List (S24)))) = some r := by first | (rw [hy347]; with_reducible exact H) | (have H2_ := (Option.bind_some _ _).symm.trans H; rw [hy347]; with_reducible exact H2_) | (have H2_ := (Option.bind_some _ _).symm.trans H; with_reducible exact H2_) | with_reducible exact H | (rw [hy347]; exact H) | exact H
  have Ny347 := Aside0.mk hy347
  clear hy347
  obtain ⟨y350, hy350⟩ : ∃ y_ : List ByteArray, y_ = (([(⟨#[49]⟩ : ByteArray), (⟨#[95]⟩ : ByteArray)] : List ByteArray)) := ⟨_, rfl⟩
  replace H : (some (([(⟨0, (-1), ([] : List ByteArray), (⟨#[57]⟩ : ByteArray)⟩ : S24), (⟨1, 0, y344, (⟨#[57]⟩ : ByteArray)⟩ : S24), (⟨2, 0, ([] : List ByteArray), (⟨#[33]⟩ : ByteArray)⟩ : S24), (⟨1, 1, y347, (⟨#[95]⟩ : ByteArray)⟩ : S24), (⟨1, 2, y350, (⟨#[95]⟩ : ByteArray)⟩ : S24)] : List (S24)))) = some r := by first | (rw [hy350]; with_reducible exact H) | (have H2_ := (Option.bind_some _ _).symm.trans H; rw [hy350]; with_reducible exact H2_) | (have H2_ := (Option.bind_some _ _).symm.trans H; with_reducible exact H2_) | with_reducible exact H | (rw [hy350]; exact H) | exact H
  have Ny350 := Aside0.mk hy350
  clear hy350
  obtain ⟨y353, hy353⟩ : ∃ y_ : List (S24), y_ = (([(⟨0, (-1), ([] : List ByteArray), (⟨#[57]⟩ : ByteArray)⟩ : S24), (⟨1, 0, y344, (⟨#[57]⟩ : ByteArray)⟩ : S24), (⟨2, 0, ([] : List ByteArray), (⟨#[33]⟩ : ByteArray)⟩ : S24), (⟨1, 1, y347, (⟨#[95]⟩ : ByteArray)⟩ : S24), (⟨1, 2, y350, (⟨#[95]⟩ : ByteArray)⟩ : S24)] : List (S24))) := ⟨_, rfl⟩
  replace H : (some y353) = some r := by first | (rw [hy353]; with_reducible exact H) | (have H2_ := (Option.bind_some _ _).symm.trans H; rw [hy353]; with_reducible exact H2_) | (have H2_ := (Option.bind_some _ _).symm.trans H; with_reducible exact H2_) | with_reducible exact H | (rw [hy353]; exact H) | exact H
  have Ny353 := Aside0.mk hy353
  clear hy353
  obtain rfl := Option.some.inj H
  go_enter Tryd.func23, Tryd.ntmps23
  go_wp2_with (first | ((with_reducible refine gate_dst (N := 2) rfl ?_); refine Kd.R_lit Kd.string _ 9 ?hg (N := 2) ?hd (xs := ([(⟨#[64, 55, 40, 95, 32, 52, 41]⟩ : ByteArray), (⟨#[53]⟩ : ByteArray)] : List ByteArray)) (inner := [.string (⟨#[64, 55, 40, 95, 32, 52, 41]⟩ : ByteArray), .string (⟨#[53]⟩ : ByteArray)]) (ok := fun _ => True) (okp := fun _ => True) ?hr ?hp (fun _ hk => hk) trivial (Below.refl _ _) (Nat.le_refl _) (by simp) ?_; (case hd => rfl); (case hg => rfl); (case hr => first | (go_simp; done) | (go_simp; rfl)); (case hp => exact (Reps.one (show Kd.M Kd.string _ _ _ (⟨#[64, 55, 40, 95, 32, 52, 41]⟩ : ByteArray) [.string (⟨#[64, 55, 40, 95, 32, 52, 41]⟩ : ByteArray)] from rfl) (Reps.one (show Kd.M Kd.string _ _ _ (⟨#[53]⟩ : ByteArray) [.string (⟨#[53]⟩ : ByteArray)] from rfl) (Reps.none _ _)))); intro v345 w1 ho2 hb hg_ hnew_; clear hg_ hnew_; (first | rw [← Ny344.out] at ho2 | (simp only [Int.reduceToNat] at ho2; rw [← Ny344.out] at ho2)); have n0_ := Aside0.mk (Kd.R_lower (Kd.R_newM (M := fun k_ => (w.heap.size ≤ k_)) ho2 (below_size (by repeat (first | (with_reducible first | exact HB.out | apply below_alloc | apply pw_below_drewN | apply below_drew1) | exact HB.out))) (fun k_ h_ => h_)) (below_size (by repeat (first | (with_reducible first | exact HB.out | apply below_alloc | apply pw_below_drewN | apply below_drew1) | exact HB.out)))); have n1_ := Aside0.mk (below_step (by repeat (first | (with_reducible first | exact HB.out | apply below_alloc | apply pw_below_drewN | apply below_drew1) | exact HB.out)) hb); clear HB; have HO346 := n0_; have HB := n1_; clear n0_ n1_; clear hb ho2; obtain ⟨Ao3, co3, eo3⟩ := Kd.R_slice HO346.out; subst eo3) | ((with_reducible refine gate_dst (N := 5) rfl ?_); refine Kd.R_lit Kd.string _ 9 ?hg (N := 5) ?hd (xs := ([(⟨#[49]⟩ : ByteArray), (⟨#[95]⟩ : ByteArray)] : List ByteArray)) (inner := [.string (⟨#[49]⟩ : ByteArray), .string (⟨#[95]⟩ : ByteArray)]) (ok := fun _ => True) (okp := fun _ => True) ?hr ?hp (fun _ hk => hk) trivial (Below.refl _ _) (Nat.le_refl _) (by simp) ?_; (case hd => rfl); (case hg => rfl); (case hr => first | (go_simp; done) | (go_simp; rfl)); (case hp => exact (Reps.one (show Kd.M Kd.string _ _ _ (⟨#[49]⟩ : ByteArray) [.string (⟨#[49]⟩ : ByteArray)] from rfl) (Reps.one (show Kd.M Kd.string _ _ _ (⟨#[95]⟩ : ByteArray) [.string (⟨#[95]⟩ : ByteArray)] from rfl) (Reps.none _ _)))); intro v348 w4 ho5 hb hg_ hnew_; clear hg_ hnew_; (first | rw [← Ny347.out] at ho5 | (simp only [Int.reduceToNat] at ho5; rw [← Ny347.out] at ho5)); have n0_ := Aside0.mk (Kd.R_elder' (by (with_reducible repeat (first | apply Kd.R_alloc | apply Kd.R_drewN | apply Kd.R_drew)); exact HO346.out) (Kd.R_base ho5) hb); have n1_ := Aside0.mk (Kd.R_lower (Kd.R_new' (Kd.R_newM (M := fun k_ => (w.heap.size ≤ k_)) ho5 (below_size (by repeat (first | (with_reducible first | exact HB.out | apply below_alloc | apply pw_below_drewN | apply below_drew1) | exact HB.out))) (fun k_ h_ => h_)) (Kd.R_lt (by (with_reducible repeat (first | apply Kd.R_alloc | apply Kd.R_drewN | apply Kd.R_drew)); exact HO346.out))) (below_size (by repeat (first | (with_reducible first | exact HB.out | apply below_alloc | apply pw_below_drewN | apply below_drew1) | exact HB.out)))); have n2_ := Aside0.mk (below_step (by repeat (first | (with_reducible first | exact HB.out | apply below_alloc | apply pw_below_drewN | apply below_drew1) | exact HB.out)) hb); clear HO346; clear HB; have HO346 := n0_; have HO349 := n1_; have HB := n2_; clear n0_ n1_ n2_; clear hb ho5; obtain ⟨Ao6, co6, eo6⟩ := Kd.R_slice HO349.out; subst eo6) | ((with_reducible refine gate_dst (N := 7) rfl ?_); refine Kd.R_lit Kd.string _ 9 ?hg (N := 7) ?hd (xs := ([(⟨#[49]⟩ : ByteArray), (⟨#[95]⟩ : ByteArray)] : List ByteArray)) (inner := [.string (⟨#[49]⟩ : ByteArray), .string (⟨#[95]⟩ : ByteArray)]) (ok := fun _ => True) (okp := fun _ => True) ?hr ?hp (fun _ hk => hk) trivial (Below.refl _ _) (Nat.le_refl _) (by simp) ?_; (case hd => rfl); (case hg => rfl); (case hr => first | (go_simp; done) | (go_simp; rfl)); (case hp => exact (Reps.one (show Kd.M Kd.string _ _ _ (⟨#[49]⟩ : ByteArray) [.string (⟨#[49]⟩ : ByteArray)] from rfl) (Reps.one (show Kd.M Kd.string _ _ _ (⟨#[95]⟩ : ByteArray) [.string (⟨#[95]⟩ : ByteArray)] from rfl) (Reps.none _ _)))); intro v351 w7 ho8 hb hg_ hnew_; clear hg_ hnew_; (first | rw [← Ny350.out] at ho8 | (simp only [Int.reduceToNat] at ho8; rw [← Ny350.out] at ho8)); have n0_ := Aside0.mk (Kd.R_elder' (by (with_reducible repeat (first | apply Kd.R_alloc | apply Kd.R_drewN | apply Kd.R_drew)); exact HO346.out) (Kd.R_base ho8) hb); have n1_ := Aside0.mk (Kd.R_elder' (by (with_reducible repeat (first | apply Kd.R_alloc | apply Kd.R_drewN | apply Kd.R_drew)); exact HO349.out) (Kd.R_base ho8) hb); have n2_ := Aside0.mk (Kd.R_lower (Kd.R_new' (Kd.R_new' (Kd.R_newM (M := fun k_ => (w.heap.size ≤ k_)) ho8 (below_size (by repeat (first | (with_reducible first | exact HB.out | apply below_alloc | apply pw_below_drewN | apply below_drew1) | exact HB.out))) (fun k_ h_ => h_)) (Kd.R_lt (by (with_reducible repeat (first | apply Kd.R_alloc | apply Kd.R_drewN | apply Kd.R_drew)); exact HO346.out))) (Kd.R_lt (by (with_reducible repeat (first | apply Kd.R_alloc | apply Kd.R_drewN | apply Kd.R_drew)); exact HO349.out))) (below_size (by repeat (first | (with_reducible first | exact HB.out | apply below_alloc | apply pw_below_drewN | apply below_drew1) | exact HB.out)))); have n3_ := Aside0.mk (below_step (by repeat (first | (with_reducible first | exact HB.out | apply below_alloc | apply pw_below_drewN | apply below_drew1) | exact HB.out)) hb); clear HO346; clear HO349; clear HB; have HO346 := n0_; have HO349 := n1_; have HO352 := n2_; have HB := n3_; clear n0_ n1_ n2_ n3_; clear hb ho8; obtain ⟨Ao9, co9, eo9⟩ := Kd.R_slice HO352.out; subst eo9) | ((with_reducible refine gate_dst (N := 9) rfl ?_); refine Kd.R_lit k24 w.heap.size 24 ?hg (N := 9) ?hd (xs := ([(⟨0, (-1), ([] : List ByteArray), (⟨#[57]⟩ : ByteArray)⟩ : S24), (⟨1, 0, y344, (⟨#[57]⟩ : ByteArray)⟩ : S24), (⟨2, 0, ([] : List ByteArray), (⟨#[33]⟩ : ByteArray)⟩ : S24), (⟨1, 1, y347, (⟨#[95]⟩ : ByteArray)⟩ : S24), (⟨1, 2, y350, (⟨#[95]⟩ : ByteArray)⟩ : S24)] : List (S24))) (inner := [.int .i64 0, .int .i64 (-1), .slice none 0 0, .string (⟨#[57]⟩ : ByteArray), .int .i64 1, .int .i64 0, .slice Ao3 y344.length co3, .string (⟨#[57]⟩ : ByteArray), .int .i64 2, .int .i64 0, .slice none 0 0, .string (⟨#[33]⟩ : ByteArray), .int .i64 1, .int .i64 1, .slice Ao6 y347.length co6, .string (⟨#[95]⟩ : ByteArray), .int .i64 1, .int .i64 2, .slice Ao9 y350.length co9, .string (⟨#[95]⟩ : ByteArray)]) (ok := (fun k_ => (w.heap.size ≤ k_))) (okp := (fun k_ => (w.heap.size ≤ k_))) ?hr ?hp (fun _ hk => hk) (below_size (by repeat (first | (with_reducible first | exact HB.out | apply below_alloc | apply pw_below_drewN | apply below_drew1) | exact HB.out))) (by repeat (first | (with_reducible first | exact HB.out | apply below_alloc | apply pw_below_drewN | apply below_drew1) | exact HB.out)) (below_size (by repeat (first | (with_reducible first | exact HB.out | apply below_alloc | apply pw_below_drewN | apply below_drew1) | exact HB.out))) (by simp) ?_; (case hd => rfl); (case hg => rfl); (case hr => first | (go_simp; done) | (go_simp; rfl)); (case hp => exact (Reps.c4 (show Kd.M k24 _ _ _ (⟨0, (-1), ([] : List ByteArray), (⟨#[57]⟩ : ByteArray)⟩ : S24) [.int .i64 0, .int .i64 (-1), .slice none 0 0, .string (⟨#[57]⟩ : ByteArray)] from (k24_mkM _ _ _ (⟨0, (-1), ([] : List ByteArray), (⟨#[57]⟩ : ByteArray)⟩ : S24) (Kd.R_nil _ _ _ _ _))) (Reps.c4 (show Kd.M k24 _ _ _ (⟨1, 0, y344, (⟨#[57]⟩ : ByteArray)⟩ : S24) [.int .i64 1, .int .i64 0, .slice Ao3 y344.length co3, .string (⟨#[57]⟩ : ByteArray)] from (k24_mkM _ _ _ (⟨1, 0, y344, (⟨#[57]⟩ : ByteArray)⟩ : S24) (Kd.R_mono (ok' := (fun k_ => (w.heap.size ≤ k_))) (HO346.out) (fun k_ hk => by first | exact hk | exact hk.1 | exact hk.1.1 | exact hk.1.1.1)))) (Reps.c4 (show Kd.M k24 _ _ _ (⟨2, 0, ([] : List ByteArray), (⟨#[33]⟩ : ByteArray)⟩ : S24) [.int .i64 2, .int .i64 0, .slice none 0 0, .string (⟨#[33]⟩ : ByteArray)] from (k24_mkM _ _ _ (⟨2, 0, ([] : List ByteArray), (⟨#[33]⟩ : ByteArray)⟩ : S24) (Kd.R_nil _ _ _ _ _))) (Reps.c4 (show Kd.M k24 _ _ _ (⟨1, 1, y347, (⟨#[95]⟩ : ByteArray)⟩ : S24) [.int .i64 1, .int .i64 1, .slice Ao6 y347.length co6, .string (⟨#[95]⟩ : ByteArray)] from (k24_mkM _ _ _ (⟨1, 1, y347, (⟨#[95]⟩ : ByteArray)⟩ : S24) (Kd.R_mono (ok' := (fun k_ => (w.heap.size ≤ k_))) (HO349.out) (fun k_ hk => by first | exact hk | exact hk.1 | exact hk.1.1 | exact hk.1.1.1)))) (Reps.c4 (show Kd.M k24 _ _ _ (⟨1, 2, y350, (⟨#[95]⟩ : ByteArray)⟩ : S24) [.int .i64 1, .int .i64 2, .slice Ao9 y350.length co9, .string (⟨#[95]⟩ : ByteArray)] from (k24_mkM _ _ _ (⟨1, 2, y350, (⟨#[95]⟩ : ByteArray)⟩ : S24) (Kd.R_mono (ok' := (fun k_ => (w.heap.size ≤ k_))) (HO352.out) (fun k_ hk => by first | exact hk | exact hk.1 | exact hk.1.1 | exact hk.1.1.1)))) (Reps.none _ _))))))); intro v354 w10 HO355 HB2 hg_ hnew_; clear hg_ hnew_ HB HO346 HO349 HO352; have HB := Aside0.mk HB2; clear HB2))
  go_ret
  rw [Ny347.out] at HO355
  exact ⟨_, rfl, own15_of HO355 rfl rfl, HB.out⟩
end Go.Proofs.YtkbaelhcijibiaaDoor.Px

/-
  RecordForms: the plain facts.
-/
namespace Go.Proofs.YtkbaelhcijibiaaDoor.Px
open Go.RowKit Go.Proofs.YtkbaelhcijibiaaDoorW.PrintWords Go.Proofs.YtkbaelhcijibiaaDoorW.PrintLast Go.Proofs.YtkbaelhcijibiaaDoorW.PrintMore
set_option linter.unusedVariables false
set_option linter.unusedSimpArgs false

theorem okNode_no {f p : Int} {args : List ByteArray} {res : ByteArray} (h : ¬ (0 ≤ f ∧ f < 8 ∧ args.length ≤ 3 ∧ -1 ≤ p ∧ p < 512)) : okNode f p args res = false := by
  rcases hb : okNode f p args res with _ | _
  · rfl
  · obtain ⟨_, hF, h1, h2⟩ := okNode_fits hb
    exact (h ⟨hF.f0, hF.f8, hF.len, h1, h2⟩).elim
theorem ok_minus : okNode 1 1 [⟨#[45, 48]⟩, sHole] sHole = false := by
  unfold okNode
  rw [show trail_Equation.f 1 1 [⟨#[45, 48]⟩, sHole] sHole = some false from by decide +kernel]
  rfl
theorem ok_empty : okNode 1 1 [sOne, sHole] ⟨#[]⟩ = false := by
  unfold okNode
  rw [show trail_Equation.f 1 1 [sOne, sHole] ⟨#[]⟩ = some false from by decide +kernel]
  rfl
theorem put_no (f p : Int) (args : List ByteArray) (res : ByteArray) (h : okNode f p args res = false) : record_Put.f RR f p args res = some (⟨#[]⟩, 1500) := by
  rw [put_is RR (by decide), if_neg (by rw [h]; simp)]
theorem get_cut0 : ∀ r : Fin 13, record_Get.f RR (sRec.extract 0 r.val) = some (0, 0, [], ⟨#[]⟩, 1500) := by decide +kernel
theorem get_cut (r : Nat) (h : r < 13) : record_Get.f RR (sRec.extract 0 r) = some (0, 0, [], ⟨#[]⟩, 1500) := get_cut0 ⟨r, h⟩
theorem get_b2 : record_Get.f RR (sRec ++ ⟨#[120]⟩) = some (0, 0, [], ⟨#[]⟩, 1500) := by decide +kernel
theorem get_b3 : record_Get.f RR (⟨#[8]⟩ ++ sRec.extract 1 13) = some (0, 0, [], ⟨#[]⟩, 1500) := by decide +kernel
theorem get_b4 : record_Get.f RR ((sRec.extract 0 3 ++ ⟨#[1]⟩) ++ sRec.extract 4 13) = some (0, 0, [], ⟨#[]⟩, 1500) := by decide +kernel
theorem get_b5 : record_Get.f RR (sRec.extract 0 12 ++ ⟨#[63]⟩) = some (0, 0, [], ⟨#[]⟩, 1500) := by decide +kernel
theorem get_bad (s : ByteArray) (h : record_Get.f RR s = some (0, 0, [], ⟨#[]⟩, 1500)) (w : World) (hL : Laid w) :
    Calls Tryd.prog 17 #[.string s] w fun e w' => ∃ (A : Option Addr) (c : Nat), e = .returned (.tuple #[.agg #[.int .i64 0, .int .i64 0, .slice A 0 c, .string ⟨#[]⟩], .int .i64 1500]) ∧ Below w.heap.size w w' := by
  refine (record_Get.calls RR s 0 0 [] ⟨#[]⟩ 1500 w hL h).mono ?_
  rintro e w' ⟨v, rfl, hR, hb⟩
  obtain ⟨A, c, rfl, hl, hC⟩ := Kd.R_reads hR
  exact ⟨A, c, rfl, hb⟩
theorem and_bounds (x : Int) : 0 ≤ bits .and .i64 x 1023 ∧ bits .and .i64 x 1023 ≤ 1023 := by
  have h : (BitVec.ofInt 64 x &&& BitVec.ofInt 64 1023).toNat ≤ 1023 := by
    rw [BitVec.toNat_and]
    exact Nat.and_le_right
  show 0 ≤ IntKind.i64.wrap ((BitVec.ofInt 64 x &&& BitVec.ofInt 64 1023).toNat : Int) ∧ IntKind.i64.wrap ((BitVec.ofInt 64 x &&& BitVec.ofInt 64 1023).toNat : Int) ≤ 1023
  rw [IntKind.wrap_i64]
  omega
end Go.Proofs.YtkbaelhcijibiaaDoor.Px

/-
  RecordForms: the walk.
-/
namespace Go.Proofs.YtkbaelhcijibiaaDoor.Px
open Go.RowKit Go.Proofs.YtkbaelhcijibiaaDoorW.PrintWords Go.Proofs.YtkbaelhcijibiaaDoorW.PrintLast Go.Proofs.YtkbaelhcijibiaaDoorW.PrintMore
set_option linter.unusedVariables false
set_option linter.unusedSimpArgs false

theorem get_b4b : record_Get.f RR (sRec.extract 0 3 ++ (⟨#[1]⟩ ++ sRec.extract 4 13)) = some (0, 0, [], ⟨#[]⟩, 1500) := by decide +kernel
theorem bcell {W w1 : World} (hb : Below W.heap.size W w1) : (∀ b o, b < W.heap.size → w1.cell? ⟨b, o, none⟩ = W.cell? ⟨b, o, none⟩) ∧ (∀ b o, b < W.heap.size → w1.frozen? ⟨b, o, none⟩ = W.frozen? ⟨b, o, none⟩) :=
  ⟨fun b o h => hb.cell (p := ⟨b, o, none⟩) h, fun b o h => hb.frozen (p := ⟨b, o, none⟩) h⟩
/-- A node that may not be lies at p. -/
def BadAt (w : World) (g : Nat) : Prop :=
  ∃ (f0 f1 : Int) (A : Option Addr) (c : Nat) (l : List ByteArray) (s : ByteArray), Peek24 w ⟨g, 0, none⟩ f0 f1 A c l s ∧ l.length ≤ c ∧ Kd.C Kd.string w A l.length l ∧ okNode f0 f1 l s = false
theorem lit_C {w : World} {g n : Nat} {l : List ByteArray} (hn : l.length = n) (hm : n ≤ 9223372036854775807) (h : ∀ j p, l[j]? = some p → w.cell? ⟨g, j, none⟩ = some (.string p)) : Kd.C Kd.string w (some ⟨g, 0, none⟩) n l := by
  refine ⟨hn, hm, fun _ => ⟨⟨g, 0, none⟩, rfl, fun j p hj => ⟨[.string p], rfl, rfl, fun i u hu => ?_⟩⟩⟩
  match i, hu with
  | 0, hu =>
    obtain rfl := Option.some.inj hu
    have h1 := h j p hj
    rw [show (⟨g, 0, none⟩ : Addr).add (j * Kd.string.sz + 0) = ⟨g, j, none⟩ by rw [Nat.add_zero]; show (⟨g, 0, none⟩ : Addr).add (j * 1) = _; rw [Nat.mul_one]; unfold Addr.add; split <;> simp_all]
    exact h1
set_option maxHeartbeats 4000000 in
set_option maxRecDepth 100000 in
theorem forms_walk (which x : Int) (hw0 : -9223372036854775808 ≤ which) (hw1 : which ≤ 9223372036854775807) (hx0 : -9223372036854775808 ≤ x) (hx1 : x ≤ 9223372036854775807) (w : World) (hL : Laid w) :
    Calls Tryd.prog 4 #[.int .i64 which, .int .i64 x] w fun e w' => e = .returned (.bool true) ∧ Below w.heap.size w w' := by
  have hu24 := Tryd.underlying24
  have HL := Lib.hid hL
  clear hL
  have HB := Lib.hid (Below.refl w.heap.size w)
  go_enter Tryd.func4, Tryd.ntmps4
  go_upto_block 0 with (first
    | (go_at_call 22; refine (sleuthlaw15_awake.calls _ (HL.out.below HB.out) rfl).mono ?_; rintro e w1 ⟨rfl, hb⟩; have n0 := Lib.hid (HB.out.trans (hb.mono HB.out.size)); clear HB hb; have HB := n0; clear n0)
    | (go_at_call 23; refine (some15_own _ _ rfl).mono ?_; rintro e w2 ⟨v2, rfl, HO, hb⟩; have hge := HB.out.size; have n0 := Lib.hid (HB.out.trans (hb.mono HB.out.size)); clear HB hb; have HB := n0; clear n0; obtain ⟨b2, c2, g2, d2, rfl, x0, x1, x2, x3, HR⟩ := HO; have HR := Lib.hid HR))
  have hd := and_bounds x
  generalize hde : wrap64 (1 + bits BinOp.and IntKind.i64 x 1023) = d at *
  have hd1 : 1 ≤ d ∧ d ≤ 1024 := by
    rw [← hde, wrap64_of (by omega) (by omega)]
    omega
  have hBw := HB.out.size
  have HR' := Kd.R_reads' HR.out
  have xg : ∀ o, (w2.alloc o).cell? ⟨g2, 0, none⟩ = some (.string sOne) := fun o => keeps_cell ((Below.refl _ _).alloc (Nat.le_refl _) _) (Kd.R_celln ByteArray.empty HR.out 0 (by decide) (by decide)).1
  have xf : ∀ o, (w2.alloc o).frozen? ⟨g2, 0, none⟩ = false := fun o => by
    have h1 := (Kd.R_celln ByteArray.empty HR.out 0 (by decide) (by decide)).2
    have hlt := World.block_lt_of_cell? w2 _ (Kd.R_celln ByteArray.empty HR.out 0 (by decide) (by decide)).1
    have hb := ((Below.refl w2.heap.size w2).alloc (Nat.le_refl _) o).block g2 hlt
    unfold World.frozen? at h1 ⊢
    rw [hb]
    exact h1
  have xh : ∀ o, (w2.alloc o).cell? ⟨g2, 1, none⟩ = some (.string sHole) := fun o => keeps_cell ((Below.refl _ _).alloc (Nat.le_refl _) _) (Kd.R_celln ByteArray.empty HR.out 1 (by decide) (by decide)).1
  have hg2 : w.heap.size ≤ g2 := by
    obtain ⟨g, cap, he, hb, _⟩ := Kd.R_form HR.out (by decide)
    injection he with h1 _ _
    injection h1 with h1
    injection h1 with h1 _ _
    subst h1
    omega
  have xk0 : w2.cell? ⟨g2, 0, none⟩ = some (.string sOne) := (Kd.R_celln ByteArray.empty HR.out 0 (by decide) (by decide)).1
  have xk1 : w2.cell? ⟨g2, 1, none⟩ = some (.string sHole) := (Kd.R_celln ByteArray.empty HR.out 1 (by decide) (by decide)).1
  have hg3 : g2 < w2.heap.size := World.block_lt_of_cell? w2 _ (Kd.R_celln ByteArray.empty HR.out 0 (by decide) (by decide)).1
  have hg4 : ¬ g2 = w2.heap.size := by omega
  have hg5 : ¬ w2.heap.size = g2 := by omega
  go_cut [] (fun wc => Aside0 (BadAt wc w2.heap.size) ∧ Aside0 (Below w.heap.size w wc))
  case first =>
    go_wp2
    all_goals first
      | go_meet
      | skip
    all_goals first
      | (refine ⟨⟨⟨(-d), 1, (some ⟨g2, 0, none⟩), d2, [sOne, sHole], sHole, ⟨?_, ?_, ?_, ?_⟩, HR'.2.1, Kd.C_alloc HR'.2.2 _, okNode_no (by omega)⟩⟩, ⟨HB.out.alloc hBw _⟩⟩ <;> (go_simp; done))
      | (refine ⟨⟨⟨(7 + d), 1, (some ⟨g2, 0, none⟩), d2, [sOne, sHole], sHole, ⟨?_, ?_, ?_, ?_⟩, HR'.2.1, Kd.C_alloc HR'.2.2 _, okNode_no (by omega)⟩⟩, ⟨HB.out.alloc hBw _⟩⟩ <;> (go_simp; done))
      | (refine ⟨⟨⟨1, (-1 - d), (some ⟨g2, 0, none⟩), d2, [sOne, sHole], sHole, ⟨?_, ?_, ?_, ?_⟩, HR'.2.1, Kd.C_alloc HR'.2.2 _, okNode_no (by omega)⟩⟩, ⟨HB.out.alloc hBw _⟩⟩ <;> (go_simp; done))
      | (refine ⟨⟨⟨1, (511 + d), (some ⟨g2, 0, none⟩), d2, [sOne, sHole], sHole, ⟨?_, ?_, ?_, ?_⟩, HR'.2.1, Kd.C_alloc HR'.2.2 _, okNode_no (by omega)⟩⟩, ⟨HB.out.alloc hBw _⟩⟩ <;> (go_simp; done))
      | (refine ⟨⟨⟨1, 1, (some ⟨g2, 0, none⟩), d2, [sOne, sHole], ⟨#[]⟩, ⟨?_, ?_, ?_, ?_⟩, HR'.2.1, Kd.C_alloc HR'.2.2 _, ok_empty⟩⟩, ⟨HB.out.alloc hBw _⟩⟩ <;> (go_simp; done))
      | (refine ⟨⟨⟨1, 1, some ⟨w2.heap.size + 1, 0, none⟩, 4, [⟨#[49]⟩, ⟨#[50]⟩, ⟨#[51]⟩, ⟨#[52]⟩], sHole, ⟨?_, ?_, ?_, ?_⟩, Nat.le_refl _, lit_C rfl (by decide) ?_, okNode_no (by simp)⟩⟩, ⟨(HB.out.alloc hBw _).alloc (by simp; omega) _⟩⟩ <;> first | (go_simp; done) | (intro j p hj; match j, hj with | 0, hj => (obtain rfl := Option.some.inj hj; go_simp) | 1, hj => (obtain rfl := Option.some.inj hj; go_simp) | 2, hj => (obtain rfl := Option.some.inj hj; go_simp) | 3, hj => (obtain rfl := Option.some.inj hj; go_simp)))
      | (refine ⟨⟨⟨1, 1, some ⟨g2, 0, none⟩, d2, [⟨#[45, 48]⟩, sHole], sHole, ⟨?_, ?_, ?_, ?_⟩, HR'.2.1, lit_C rfl (by decide) ?_, ok_minus⟩⟩, ⟨(below_set HB.out hg2).alloc (by simp; omega) _⟩⟩ <;> first | (go_simp; done) | (intro j p hj; match j, hj with | 0, hj => (obtain rfl := Option.some.inj hj; go_simp) | 1, hj => (obtain rfl := Option.some.inj hj; go_simp)))
      | skip
    all_goals (refine ⟨⟨⟨1, 1, some ⟨g2, 0, none⟩, d2, [⟨#[45, 48]⟩, sHole], sHole, ⟨?_, ?_, ?_, ?_⟩, HR'.2.1, lit_C rfl (by decide) ?_, ok_minus⟩⟩, ⟨(below_set HB.out hg2).alloc (by simp; omega) _⟩⟩)
    all_goals (first | (go_simp; done) | skip)
    all_goals (intro j p hj; match j, hj with | 0, hj => (obtain rfl := Option.some.inj hj; go_simp; exact World.cell?_setCell_same xk0) | 1, hj => (obtain rfl := Option.some.inj hj; go_simp))
  case rest =>
    obtain ⟨HY, HB⟩ := hcut
    obtain ⟨f0, f1, A, c, l, s, ⟨p0, p1, p2, p3⟩, hlc, hC, hno⟩ := HY.out
    clear HY xg xf xh xk0 xk1 hg2 hg3 hg4 hg5 HR HR' x0 x1 x2 x3
    generalize w2.heap.size = g at *
    have hC := Lib.hid hC
    have HB := Lib.hid HB.out
    clear hBw hge
    have hr : 0 ≤ wrap64 ((IntKind.u64.wrap x).tmod 13) ∧ wrap64 ((IntKind.u64.wrap x).tmod 13) < 13 := by
      have h0 : 0 ≤ IntKind.u64.wrap x := by rw [IntKind.wrap_u64]; omega
      have h1 := Int.tmod_nonneg 13 h0
      have h2 := Int.tmod_lt_of_pos (IntKind.u64.wrap x) (show (0 : Int) < 13 by decide)
      rw [wrap64_of (by omega) (by omega)]
      exact ⟨h1, h2⟩
    have hr0 := hr.1
    have hr1 := hr.2
    have hsz : sRec.size = 13 := rfl
    go_upto_region 26 with (first
      | (go_at_call 15; (with_reducible refine (record_Put.calls RR f0 f1 A c l s ⟨#[]⟩ 1500 _ hC.out hlc (HL.out.below HB.out) (put_no _ _ _ _ hno)).mono ?_); rintro e w3 ⟨rfl, hb⟩; have n0 := Lib.hid (HB.out.trans (hb.mono HB.out.size)); clear HB hb hC p0 p1 p2 p3; have HB := n0; clear n0)
      | (go_at_call 23; refine (some15_at _).mono ?_; rintro e w4 ⟨b4, c4, A4, d4, rfl, HC4, HD4, x0, x1, x2, x3, hb⟩; have n0 := Lib.hid (HB.out.trans (hb.mono HB.out.size)); clear HB hb; have HB := n0; clear n0)
      | (go_at_call 15; (with_reducible refine (put_some known15 _ _ _ HC4 HD4 (HL.out.below HB.out)).mono ?_); rintro e w5 ⟨rfl, hb⟩; have n0 := Lib.hid (HB.out.trans (hb.mono HB.out.size)); clear HB hb x0 x1 x2 x3 HC4; have HB := n0; clear n0)
      | (go_at_call 19; refine (num_is _ _).mono ?_; rintro e w7 ⟨rfl, nq, rfl⟩; have n0 := Lib.hid (HB.out.trans (drewN_below w.heap.size _ nq)); clear HB; have HB := n0; clear n0)
      | (go_at_call 17; refine (get_bad _ (by first | with_reducible exact get_cut _ (by omega) | with_reducible exact get_b2 | with_reducible exact get_b3 | with_reducible exact get_b4 | with_reducible exact get_b4b | with_reducible exact get_b5) _ (HL.out.below (by first | exact HB.out | exact HB.out.alloc HB.out.size _))).mono ?_; rintro e w8 ⟨A8, c8, rfl, hb⟩; have n0 := Lib.hid (by first | exact HB.out.trans (hb.mono HB.out.size) | exact (HB.out.alloc HB.out.size _).trans (hb.mono (by simp; have := HB.out.size; omega)) : Below w.heap.size w w8); clear HB hb; have HB := n0; clear n0)
      | fail)
    have n0 := Lib.hid (HB.out.alloc HB.out.size (.cells #[.int .i64 0, .int .i64 0, .slice A8 0 c8, .string ⟨#[]⟩] 24))
    generalize (w8.alloc (.cells #[.int .i64 0, .int .i64 0, .slice A8 0 c8, .string ⟨#[]⟩] 24)) = W at *
    clear HB
    have HB := n0
    clear n0
    have hWs := HB.out.size
    go_cut [18] (fun s18 wc => s18 = .int .i64 1500 ∧ Aside0 (Below w.heap.size w wc))
    case first =>
      go_region_with (go_at_call 17; refine (get_bad _ get_b4 _ (HL.out.below (by repeat (first | exact HB.out | apply below_drew | apply below_alloc)))).mono ?_; rintro e w9 ⟨A9, c9, rfl, hb⟩; obtain ⟨hcq, hfq⟩ := bcell hb; have hzq := hb.size; (try simp only [World.size_alloc] at hzq))
      all_goals
        have hx : Below w.heap.size w w9 := by
          first
            | exact (below_drew HB.out).trans (hb.mono HB.out.size)
            | exact (below_drew (HB.out.alloc HB.out.size _)).trans (hb.mono (by simp; omega))
            | exact ((below_drew HB.out).alloc HB.out.size _).trans (hb.mono (by simp; omega))
        have hxs := hx.size
        go_wp2
        go_meet
        case rel => exact ⟨rfl, ⟨by repeat (first | exact hx | apply below_drew | apply below_alloc | apply below_set (hg := hWs))⟩⟩
    case rest =>
      obtain ⟨rfl, hB⟩ := hcut
      clear HB
      have HB := Lib.hid hB.out
      clear hB
      go_wp2_with (first
        | (go_at_call 19; refine (num_is _ _).mono ?_; rintro e w7 ⟨rfl, nq, rfl⟩; have n0 := Lib.hid (HB.out.trans (drewN_below w.heap.size _ nq)); clear HB; have HB := n0; clear n0)
        | (go_at_call 17; refine (get_bad _ (by first | with_reducible exact get_b5) _ (HL.out.below (by first | exact HB.out | exact HB.out.alloc HB.out.size _))).mono ?_; rintro e w8 ⟨A8, c8, rfl, hb⟩; have n0 := Lib.hid (by first | exact HB.out.trans (hb.mono HB.out.size) | exact (HB.out.alloc HB.out.size _).trans (hb.mono (by simp; have := HB.out.size; omega)) : Below w.heap.size w w8); clear HB hb; have HB := n0; have H8 := n0; clear n0)
        | fail)
      go_ret
      exact ⟨by simp, by first | exact HB.out | (repeat (first | exact H8.out | apply pw_below_drewN | apply below_drew | apply below_alloc))⟩
end Go.Proofs.YtkbaelhcijibiaaDoor.Px

/-
  RecordForms: the walk, at whatever whole numbers.
-/
namespace Go.Proofs.YtkbaelhcijibiaaDoor.Px
open Go.RowKit
theorem forms_at (a0 a1 : Int) (w0 : (Lit.int .i64 a0).wf = true) (w1 : (Lit.int .i64 a1).wf = true) (w : World) (hL : Laid w) :
    Calls Tryd.prog 4 #[.int .i64 a0, .int .i64 a1] w fun e w' => e = .returned (.bool true) ∧ Below w.heap.size w w' := by
  have h0 := bounds_i64 w0
  have h1 := bounds_i64 w1
  exact forms_walk a0 a1 (by omega) (by omega) (by omega) (by omega) w hL
end Go.Proofs.YtkbaelhcijibiaaDoor.Px
