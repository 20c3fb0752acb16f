/- Texts of this claim, one behind the other: Pxxsleuthref1term, Pxxsleuthref1Cut, Pxxsleuthref1TermMay, Terms1, Terms2, Terms3, Terms4, Terms5, Pxxsleuthref12upTo, Pxxsleuthref12texts. -/
import Derived.Test.YtkbaelhcijibiaaDoorTs1
import Derived.Test.YtkbaelhcijibiaaDoorTs2
import Derived.Test.YtkbaelhcijibiaaDoorTs3
import Derived.Lib.AtoiAllCases

/- Of each function of this text: a plain Lean function and a proof that the machine's call comes to its answers; printed by this session's program. -/
namespace Go.Proofs.YtkbaelhcijibiaaDoor.Px
open Go.RowKit Go.Proofs.YtkbaelhcijibiaaDoorW.PrintWords Go.Proofs.YtkbaelhcijibiaaDoorW.PrintLast Go.Proofs.YtkbaelhcijibiaaDoorW.PrintMore
attribute [local go_sem] max2_int min2_int max_two min_two max_three min_three max_four min_four   -- for this text's walks alone
set_option linter.unusedVariables false
set_option linter.unusedSimpArgs false

/-! ### sleuthref1_term: function 99 -/
mutual
def sleuthref1_term.j0 : Nat → ByteArray → Int → Int → Int → Bool → Option (Int × Int × List ByteArray × Int)
  | 0, _, _, _, _, _ => none
  | k + 1, x0, x1, x5, x6, x45 => if x45 = true then ((sleuthref1_bad.f).bind fun bt207 => (some (bt207.1, bt207.2.1, bt207.2.2.1, bt207.2.2.2))) else (if (wrap64 ((wrap64 (x1 + 1)) + x6)) < (x0.size : Int) then (if 0 ≤ (wrap64 ((wrap64 (x1 + 1)) + x6)) then (if (bt x0 (wrap64 ((wrap64 (x1 + 1)) + x6))) = 40 then ((sleuthref1_parts.f (sleuthref1_term.f k) k x0 2 x5 ([] : List ByteArray) (wrap64 ((wrap64 (x1 + 1)) + x6)) (wrap64 ((wrap64 ((wrap64 (x1 + 1)) + x6)) + 1))).bind fun bt214 => (some (bt214.1, bt214.2.1, bt214.2.2.1, bt214.2.2.2))) else (some (2, x5, ([] : List ByteArray), wrap64 ((wrap64 (x1 + 1)) + x6)))) else (none)) else (some (2, x5, ([] : List ByteArray), wrap64 ((wrap64 (x1 + 1)) + x6))))
def sleuthref1_term.f : Nat → ByteArray → Int → Option (Int × Int × List ByteArray × Int)
  | 0, _, _ => none
  | k + 1, a0, a1 => if a1 ≥ (a0.size : Int) then ((sleuthref1_bad.f).bind fun bt199 => (some (bt199.1, bt199.2.1, bt199.2.2.1, bt199.2.2.2))) else (if 0 ≤ a1 then (if a1 < (a0.size : Int) then (if (bt a0 a1) = 95 then (some (0, 0, ([] : List ByteArray), wrap64 (a1 + 1))) else (if (bt a0 a1) = 33 then (some (3, 0, ([] : List ByteArray), wrap64 (a1 + 1))) else (if (bt a0 a1) = 64 then (if 0 ≤ (wrap64 (a1 + 1)) then (if (wrap64 (a1 + 1)) ≤ (a0.size : Int) then ((sleuthref1_digits.f k (a0.extract ((wrap64 (a1 + 1)) : Int).toNat a0.size)).bind fun bt205 => (if bt205.2 = 0 then (sleuthref1_term.j0 k a0 a1 bt205.1 bt205.2 true) else (sleuthref1_term.j0 k a0 a1 bt205.1 bt205.2 (decide (bt205.1 > 99))))) else (none)) else (none)) else (if (bt a0 a1) = 45 then (if 0 ≤ (wrap64 (a1 + 1)) then (if (wrap64 (a1 + 1)) ≤ (a0.size : Int) then ((sleuthref1_digits.f k (a0.extract ((wrap64 (a1 + 1)) : Int).toNat a0.size)).bind fun bt220 => (if bt220.2 = 0 then ((sleuthref1_bad.f).bind fun bt222 => (some (bt222.1, bt222.2.1, bt222.2.2.1, bt222.2.2.2))) else (if bt220.1 = 0 then ((sleuthref1_bad.f).bind fun bt228 => (some (bt228.1, bt228.2.1, bt228.2.2.1, bt228.2.2.2))) else ((sleuthref1_NumMay.f (wrap64 (-bt220.1))).bind fun t234 => (if t234 = true then (some (1, wrap64 (-bt220.1), ([] : List ByteArray), wrap64 ((wrap64 (a1 + 1)) + bt220.2))) else ((sleuthref1_bad.f).bind fun bt235 => (some (bt235.1, bt235.2.1, bt235.2.2.1, bt235.2.2.2)))))))) else (none)) else (none)) else (if a1 ≤ (a0.size : Int) then ((sleuthref1_digits.f k (a0.extract (a1 : Int).toNat a0.size)).bind fun bt241 => (if bt241.2 = 0 then ((sleuthref1_bad.f).bind fun bt243 => (some (bt243.1, bt243.2.1, bt243.2.2.1, bt243.2.2.2))) else ((sleuthref1_NumMay.f bt241.1).bind fun t249 => (if t249 = true then (some (1, bt241.1, ([] : List ByteArray), wrap64 (a1 + bt241.2))) else ((sleuthref1_bad.f).bind fun bt250 => (some (bt250.1, bt250.2.1, bt250.2.2.1, bt250.2.2.2))))))) else (none)))))) else (none)) else (none))
end
theorem sleuthref1_term.mono_l : ∀ k, (∀ y0 y1, LeO (sleuthref1_term.f k y0 y1) (sleuthref1_term.f (k + 1) y0 y1)) ∧ (∀ y0 y1 y2 y3 y4, LeO (sleuthref1_term.j0 k y0 y1 y2 y3 y4) (sleuthref1_term.j0 (k + 1) y0 y1 y2 y3 y4))
  | 0 => ⟨fun _ _ r h => by simp [sleuthref1_term.f] at h, fun _ _ _ _ _ r h => by simp [sleuthref1_term.j0] at h⟩
  | k + 1 => by
    obtain ⟨ih0, ih1⟩ := sleuthref1_term.mono_l k
    refine ⟨?_, ?_⟩
    · intro y0 y1
      unfold sleuthref1_term.f
      repeat' first
      | (with_reducible exact ih0 _ _)
      | (with_reducible exact ih1 _ _ _ _ _)
      | (with_reducible exact sleuthref1_digits.mono _ _)
      | (with_reducible exact sleuthref1_parts.mono ih0 _ _ _ _ _ _ _)
      | (with_reducible exact LeO.refl _)
      | (with_reducible exact LeO.none _)
      | (with_reducible refine LeO.ite ?_ ?_)
      | (with_reducible refine LeO.bind ?_ (fun _ => ?_))
      | exact ih0 _ _
      | exact ih1 _ _ _ _ _
      | exact sleuthref1_digits.mono _ _
      | exact sleuthref1_parts.mono ih0 _ _ _ _ _ _ _
      | exact LeO.none _
      | refine LeO.ite ?_ ?_
      | refine LeO.bind ?_ (fun _ => ?_)
    · intro y0 y1 y2 y3 y4
      unfold sleuthref1_term.j0
      repeat' first
      | (with_reducible exact ih0 _ _)
      | (with_reducible exact ih1 _ _ _ _ _)
      | (with_reducible exact sleuthref1_digits.mono _ _)
      | (with_reducible exact sleuthref1_parts.mono ih0 _ _ _ _ _ _ _)
      | (with_reducible exact LeO.refl _)
      | (with_reducible exact LeO.none _)
      | (with_reducible refine LeO.ite ?_ ?_)
      | (with_reducible refine LeO.bind ?_ (fun _ => ?_))
      | exact ih0 _ _
      | exact ih1 _ _ _ _ _
      | exact sleuthref1_digits.mono _ _
      | exact sleuthref1_parts.mono ih0 _ _ _ _ _ _ _
      | exact LeO.none _
      | refine LeO.ite ?_ ?_
      | refine LeO.bind ?_ (fun _ => ?_)
theorem sleuthref1_term.mono : ∀ a0 a1 k, LeO (sleuthref1_term.f k a0 a1) (sleuthref1_term.f (k + 1) a0 a1) := by
  intro a0 a1 k
  obtain ⟨ih0, ih1⟩ := sleuthref1_term.mono_l k
  exact ih0 a0 a1
set_option maxHeartbeats 8000000 in
set_option maxRecDepth 100000 in
theorem sleuthref1_term.calls (k : Nat) : ∀ (a0 : ByteArray) (a1 : Int) (r1 : Int) (r2 : Int) (r3 : List ByteArray) (r4 : Int) (w : World) (h : sleuthref1_term.f k a0 a1 = some (r1, r2, r3, r4)),
    Calls Tryd.prog 99 #[.string a0, .int .i64 a1] w fun e w' => ∃ v2_ : Value, e = .returned (.agg #[.int .i64 r1, .int .i64 r2, v2_, .int .i64 r4]) ∧ Kd.R Kd.string 9 w' w.heap.size (fun _ => True) v2_ r3 ∧ Below w.heap.size w w' := by
  induction k using Nat.strongRecOn with
  | _ k ih =>
  intro a0 a1 r1 r2 r3 r4 w h
  cases k with
  | zero => exact absurd h (by simp [sleuthref1_term.f])
  | succ k =>
  simp only [sleuthref1_term.f] at h
  have hu134 := Tryd.underlying134
  have HB := Aside0.mk (Below.refl w.heap.size w)
  have H : (if a1 ≥ (a0.size : Int) then ((sleuthref1_bad.f).bind fun bt199 => (some (bt199.1, bt199.2.1, bt199.2.2.1, bt199.2.2.2))) else (if 0 ≤ a1 then (if a1 < (a0.size : Int) then (if (bt a0 a1) = 95 then (some (0, 0, ([] : List ByteArray), wrap64 (a1 + 1))) else (if (bt a0 a1) = 33 then (some (3, 0, ([] : List ByteArray), wrap64 (a1 + 1))) else (if (bt a0 a1) = 64 then (if 0 ≤ (wrap64 (a1 + 1)) then (if (wrap64 (a1 + 1)) ≤ (a0.size : Int) then ((sleuthref1_digits.f k (a0.extract ((wrap64 (a1 + 1)) : Int).toNat a0.size)).bind fun bt205 => (if bt205.2 = 0 then (sleuthref1_term.j0 k a0 a1 bt205.1 bt205.2 true) else (sleuthref1_term.j0 k a0 a1 bt205.1 bt205.2 (decide (bt205.1 > 99))))) else (none)) else (none)) else (if (bt a0 a1) = 45 then (if 0 ≤ (wrap64 (a1 + 1)) then (if (wrap64 (a1 + 1)) ≤ (a0.size : Int) then ((sleuthref1_digits.f k (a0.extract ((wrap64 (a1 + 1)) : Int).toNat a0.size)).bind fun bt220 => (if bt220.2 = 0 then ((sleuthref1_bad.f).bind fun bt222 => (some (bt222.1, bt222.2.1, bt222.2.2.1, bt222.2.2.2))) else (if bt220.1 = 0 then ((sleuthref1_bad.f).bind fun bt228 => (some (bt228.1, bt228.2.1, bt228.2.2.1, bt228.2.2.2))) else ((sleuthref1_NumMay.f (wrap64 (-bt220.1))).bind fun t234 => (if t234 = true then (some (1, wrap64 (-bt220.1), ([] : List ByteArray), wrap64 ((wrap64 (a1 + 1)) + bt220.2))) else ((sleuthref1_bad.f).bind fun bt235 => (some (bt235.1, bt235.2.1, bt235.2.2.1, bt235.2.2.2)))))))) else (none)) else (none)) else (if a1 ≤ (a0.size : Int) then ((sleuthref1_digits.f k (a0.extract (a1 : Int).toNat a0.size)).bind fun bt241 => (if bt241.2 = 0 then ((sleuthref1_bad.f).bind fun bt243 => (some (bt243.1, bt243.2.1, bt243.2.2.1, bt243.2.2.2))) else ((sleuthref1_NumMay.f bt241.1).bind fun t249 => (if t249 = true then (some (1, bt241.1, ([] : List ByteArray), wrap64 (a1 + bt241.2))) else ((sleuthref1_bad.f).bind fun bt250 => (some (bt250.1, bt250.2.1, bt250.2.2.1, bt250.2.2.2))))))) else (none)))))) else (none)) else (none))) = some (r1, r2, r3, r4) := h
  clear h
  by_cases c3 : a1 ≥ (a0.size : Int)
  · rw [if_pos c3] at H
    have c3b0 : decide ((a0.size : Int) ≤ a1) = true := decide_eq_true c3
    clear c3
    replace H := Option.bind_eq_some_iff.mp H
    obtain ⟨⟨t199, t200, t201, t204⟩, A40, H⟩ := H
    replace H : (some (t199, t200, t201, t204)) = some (r1, r2, r3, r4) := H
    have A4 := Aside0.mk A40
    clear A40
    simp only [Option.some.injEq, Prod.mk.injEq] at H
    obtain ⟨rfl, rfl, rfl, rfl⟩ := H
    go_enter Tryd.func99, Tryd.ntmps99
    go_wp2_with (first | ((with_reducible refine gate_dst (N := 4) rfl ?_); refine box_event ?hg (N := 4) ?hd (cs := #[.int .i64 0, .int .i64 0, .slice none 0 0, .int .i64 0]) (t := 134) ?hr ?_; (case hd => rfl); (case hg => rfl); (case hr => first | (go_simp; done) | (go_simp; rfl)); intro gb198 hg w5 hbox hb; have n0_ := Aside0.mk (below_step (by repeat (first | (with_reducible first | exact HB.out | apply below_alloc | apply pw_below_drewN | apply below_drew1) | exact HB.out)) hb); have n1_ := Aside0.mk (hbox); have n2_ := Aside0.mk ((by rw [hg]; exact (below_size (by repeat (first | (with_reducible first | exact HB.out | apply below_alloc | apply pw_below_drewN | apply below_drew1) | exact HB.out))) : w.heap.size ≤ gb198)); have n3_ := Aside0.mk ((by rw [hg]; exact (below_size (by repeat (first | (with_reducible first | exact HB.out | apply below_alloc | apply pw_below_drewN | apply below_drew1) | exact HB.out))) : w.heap.size ≤ gb198)); clear HB; have HB := n0_; have BK198 := n1_; have GW198 := n2_; have GE198 := n3_; clear n0_ n1_ n2_ n3_; clear hb hbox hg) | ((with_reducible refine gate_callee (f := 107) rfl ?_); refine goesL_ (some 16) rfl rfl Tryd.func107 (by kernel_rfl) rfl #[] rfl (by (try simp only [List.map_toArray, List.map_cons, List.map_nil]); first | done | rfl | (simp only [List.length_drop, List.length_take]; rfl)) ?_; (with_reducible refine (sleuthref1_bad.calls  t199 t200 t201 t204 _ A4.out).mono ?_); rintro e w6 ⟨v202, rfl, ho0, hb⟩; refine ⟨_, rfl, ?_⟩; have n0_ := Aside0.mk (Kd.R_lower ho0 (below_size (by repeat (first | (with_reducible first | exact HB.out | apply below_alloc | apply pw_below_drewN | apply below_drew1 | refine below_set ?_ GE198.out) | exact HB.out)))); have n1_ := Aside0.mk (blk_below (g := gb198) (o := .cells #[.int .i64 0, .int .i64 0, .slice none 0 0, .int .i64 0] 134 (0, 0)) (by (with_reducible repeat (first | refine blk_drewN ?_ _ | refine blk_drew ?_ | refine blk_alloc ?_ _)); exact BK198.out) hb); have n2_ := Aside0.mk (below_step (by repeat (first | (with_reducible first | exact HB.out | apply below_alloc | apply pw_below_drewN | apply below_drew1 | refine below_set ?_ GE198.out) | exact HB.out)) hb); clear BK198; clear HB; have HO203 := n0_; have BK198 := n1_; have HB := n2_; clear n0_ n1_ n2_; (try clear hb); (try clear hb2); (try clear hk); (try clear hi); (try clear ho0); have hcz7_0 : w6.cell? ⟨gb198, 0, none⟩ = some (.int .i64 0) := (blk_cell BK198.out 0).trans rfl; have hcz7_1 : w6.cell? ⟨gb198, 1, none⟩ = some (.int .i64 0) := (blk_cell BK198.out 1).trans rfl; have hcz7_2 : w6.cell? ⟨gb198, 2, none⟩ = some (.slice none 0 0) := (blk_cell BK198.out 2).trans rfl; have hcz7_3 : w6.cell? ⟨gb198, 3, none⟩ = some (.int .i64 0) := (blk_cell BK198.out 3).trans rfl; have hfz7_0 := blk_frozen BK198.out 0; have hfz7_1 := blk_frozen BK198.out 1; have hfz7_2 := blk_frozen BK198.out 2; have hfz7_3 := blk_frozen BK198.out 3; obtain ⟨Ao8, co8, eo8⟩ := Kd.R_slice HO203.out; subst eo8))
    refine bodyPost_ret (results_cell_row rfl _ _ gb198 134 #[.int .i64 t199, .int .i64 t200, .slice Ao8 t201.length co8, .int .i64 t204] (0, 0) _ rfl (by (with_reducible repeat (first | refine blk_drewN ?_ _ | refine blk_drew ?_ | refine blk_alloc ?_ _)); refine blk_put (cs := #[.int .i64 t199, .int .i64 t200, .slice Ao8 t201.length co8, .int .i64 0]) ?_ 3 _ rfl; (with_reducible repeat (first | refine blk_drewN ?_ _ | refine blk_drew ?_ | refine blk_alloc ?_ _)); refine blk_put (cs := #[.int .i64 t199, .int .i64 t200, .slice none 0 0, .int .i64 0]) ?_ 2 _ rfl; (with_reducible repeat (first | refine blk_drewN ?_ _ | refine blk_drew ?_ | refine blk_alloc ?_ _)); refine blk_put (cs := #[.int .i64 t199, .int .i64 0, .slice none 0 0, .int .i64 0]) ?_ 1 _ rfl; (with_reducible repeat (first | refine blk_drewN ?_ _ | refine blk_drew ?_ | refine blk_alloc ?_ _)); refine blk_put (cs := #[.int .i64 0, .int .i64 0, .slice none 0 0, .int .i64 0]) ?_ 0 _ rfl; (with_reducible repeat (first | refine blk_drewN ?_ _ | refine blk_drew ?_ | refine blk_alloc ?_ _)); exact BK198.out) Tryd.underlying134 rfl (by kernel_rfl)) rfl ?_
    exact ⟨_, by first | rfl | (simp [errW_none, errW_some] <;> rfl) | (simp [*, errW_none, errW_some] <;> rfl), by (with_reducible repeat (first | apply Kd.R_alloc | apply Kd.R_drewN | apply Kd.R_drew)); exact Kd.R_mono (Kd.R_far (p := ⟨gb198, 3, none⟩) (Kd.R_far (p := ⟨gb198, 2, none⟩) (Kd.R_far (p := ⟨gb198, 1, none⟩) (Kd.R_far (p := ⟨gb198, 0, none⟩) (Kd.R_types HO203.out BK198.out (by decide)) (fun _ hk => hk.2) (.int .i64 t199)) (fun _ hk => hk.2) (.int .i64 t200)) (fun _ hk => hk.2) (.slice Ao8 t201.length co8)) (fun _ hk => hk.2) (.int .i64 t204)) (fun _ hk => trivial), by repeat (first | (with_reducible first | exact HB.out | apply below_alloc | apply pw_below_drewN | apply below_drew1 | refine below_set ?_ GE198.out) | exact HB.out)⟩
  · rw [if_neg c3] at H
    have c3b0 : decide ((a0.size : Int) ≤ a1) = false := decide_eq_false c3
    clear c3
    by_cases c9 : 0 ≤ a1
    · rw [if_pos c9] at H
      have c9b0 : decide (0 ≤ a1) = true := decide_eq_true c9
      clear c9
      by_cases c10 : a1 < (a0.size : Int)
      · rw [if_pos c10] at H
        have c10b0 : decide (a1 < (a0.size : Int)) = true := decide_eq_true c10
        clear c10
        by_cases c12 : (bt a0 a1) = 95
        · rw [if_pos c12] at H
          have c12b0 : ((bt a0 a1) == 95) = true := beq_iff_eq.mpr c12
          have c12b1 : ((bt a0 a1) != 95) = false := bne_eq_false_iff_eq.mpr c12
          clear c12
          simp only [Option.some.injEq, Prod.mk.injEq] at H
          obtain ⟨rfl, rfl, rfl, rfl⟩ := H
          go_enter Tryd.func99, Tryd.ntmps99
          go_wp2_with (first | ((with_reducible refine gate_dst (N := 4) rfl ?_); refine box_event ?hg (N := 4) ?hd (cs := #[.int .i64 0, .int .i64 0, .slice none 0 0, .int .i64 0]) (t := 134) ?hr ?_; (case hd => rfl); (case hg => rfl); (case hr => first | (go_simp; done) | (go_simp; rfl)); intro gb198 hg w13 hbox hb; have n0_ := Aside0.mk (below_step (by repeat (first | (with_reducible first | exact HB.out | apply below_alloc | apply pw_below_drewN | apply below_drew1) | exact HB.out)) hb); have n1_ := Aside0.mk (hbox); have n2_ := Aside0.mk ((by rw [hg]; exact (below_size (by repeat (first | (with_reducible first | exact HB.out | apply below_alloc | apply pw_below_drewN | apply below_drew1) | exact HB.out))) : w.heap.size ≤ gb198)); have n3_ := Aside0.mk ((by rw [hg]; exact (below_size (by repeat (first | (with_reducible first | exact HB.out | apply below_alloc | apply pw_below_drewN | apply below_drew1) | exact HB.out))) : w.heap.size ≤ gb198)); clear HB; have HB := n0_; have BK198 := n1_; have GW198 := n2_; have GE198 := n3_; clear n0_ n1_ n2_ n3_; clear hb hbox hg; have p11 : 0 ≤ (a1 : Int) := of_decide_eq_true (by first | (with_reducible assumption) | assumption); have q11 : a1 < (a0.size : Int) := of_decide_eq_true (by first | (with_reducible assumption) | assumption); have hx11 := bt_at a0 a1; replace p11 := eq_true p11; replace q11 := eq_true q11; have hcz14_0 : w13.cell? ⟨gb198, 0, none⟩ = some (.int .i64 0) := (blk_cell BK198.out 0).trans rfl; have hcz14_1 : w13.cell? ⟨gb198, 1, none⟩ = some (.int .i64 0) := (blk_cell BK198.out 1).trans rfl; have hcz14_2 : w13.cell? ⟨gb198, 2, none⟩ = some (.slice none 0 0) := (blk_cell BK198.out 2).trans rfl; have hcz14_3 : w13.cell? ⟨gb198, 3, none⟩ = some (.int .i64 0) := (blk_cell BK198.out 3).trans rfl; have hfz14_0 := blk_frozen BK198.out 0; have hfz14_1 := blk_frozen BK198.out 1; have hfz14_2 := blk_frozen BK198.out 2; have hfz14_3 := blk_frozen BK198.out 3))
          refine bodyPost_ret (results_cell_row rfl _ _ gb198 134 #[.int .i64 0, .int .i64 0, .slice none 0 0, .int .i64 (wrap64 (a1 + 1))] (0, 0) _ rfl (by (with_reducible repeat (first | refine blk_drewN ?_ _ | refine blk_drew ?_ | refine blk_alloc ?_ _)); refine blk_put (cs := #[.int .i64 0, .int .i64 0, .slice none 0 0, .int .i64 0]) ?_ 3 _ rfl; (with_reducible repeat (first | refine blk_drewN ?_ _ | refine blk_drew ?_ | refine blk_alloc ?_ _)); refine blk_put (cs := #[.int .i64 0, .int .i64 0, .slice none 0 0, .int .i64 0]) ?_ 2 _ rfl; (with_reducible repeat (first | refine blk_drewN ?_ _ | refine blk_drew ?_ | refine blk_alloc ?_ _)); refine blk_put (cs := #[.int .i64 0, .int .i64 0, .slice none 0 0, .int .i64 0]) ?_ 1 _ rfl; (with_reducible repeat (first | refine blk_drewN ?_ _ | refine blk_drew ?_ | refine blk_alloc ?_ _)); refine blk_put (cs := #[.int .i64 0, .int .i64 0, .slice none 0 0, .int .i64 0]) ?_ 0 _ rfl; (with_reducible repeat (first | refine blk_drewN ?_ _ | refine blk_drew ?_ | refine blk_alloc ?_ _)); exact BK198.out) Tryd.underlying134 rfl (by kernel_rfl)) rfl ?_
          exact ⟨_, by first | rfl | (simp [errW_none, errW_some] <;> rfl) | (simp [*, errW_none, errW_some] <;> rfl), by first | exact Kd.R_nil _ _ _ _ _ | exact Kd.N_nil _ _ _ _ _ | exact Kd.V_nil _ _ _ _ _ | exact Kd.Q_nil _ _ _ _ _ | exact Kd.S_nil _ _ _ _ _, by repeat (first | (with_reducible first | exact HB.out | apply below_alloc | apply pw_below_drewN | apply below_drew1 | refine below_set ?_ GE198.out) | exact HB.out)⟩
        · rw [if_neg c12] at H
          have c12b0 : ((bt a0 a1) == 95) = false := beq_eq_false_iff_ne.mpr c12
          have c12b1 : ((bt a0 a1) != 95) = true := bne_iff_ne.mpr c12
          by_cases c15 : (bt a0 a1) = 33
          · rw [if_pos c15] at H
            have c15b0 : ((bt a0 a1) == 33) = true := beq_iff_eq.mpr c15
            have c15b1 : ((bt a0 a1) != 33) = false := bne_eq_false_iff_eq.mpr c15
            clear c15
            simp only [Option.some.injEq, Prod.mk.injEq] at H
            obtain ⟨rfl, rfl, rfl, rfl⟩ := H
            go_enter Tryd.func99, Tryd.ntmps99
            go_wp2_with (first | ((with_reducible refine gate_dst (N := 4) rfl ?_); refine box_event ?hg (N := 4) ?hd (cs := #[.int .i64 0, .int .i64 0, .slice none 0 0, .int .i64 0]) (t := 134) ?hr ?_; (case hd => rfl); (case hg => rfl); (case hr => first | (go_simp; done) | (go_simp; rfl)); intro gb198 hg w16 hbox hb; have n0_ := Aside0.mk (below_step (by repeat (first | (with_reducible first | exact HB.out | apply below_alloc | apply pw_below_drewN | apply below_drew1) | exact HB.out)) hb); have n1_ := Aside0.mk (hbox); have n2_ := Aside0.mk ((by rw [hg]; exact (below_size (by repeat (first | (with_reducible first | exact HB.out | apply below_alloc | apply pw_below_drewN | apply below_drew1) | exact HB.out))) : w.heap.size ≤ gb198)); have n3_ := Aside0.mk ((by rw [hg]; exact (below_size (by repeat (first | (with_reducible first | exact HB.out | apply below_alloc | apply pw_below_drewN | apply below_drew1) | exact HB.out))) : w.heap.size ≤ gb198)); clear HB; have HB := n0_; have BK198 := n1_; have GW198 := n2_; have GE198 := n3_; clear n0_ n1_ n2_ n3_; clear hb hbox hg; have p11 : 0 ≤ (a1 : Int) := of_decide_eq_true (by first | (with_reducible assumption) | assumption); have q11 : a1 < (a0.size : Int) := of_decide_eq_true (by first | (with_reducible assumption) | assumption); have hx11 := bt_at a0 a1; replace p11 := eq_true p11; replace q11 := eq_true q11; have hcz17_0 : w16.cell? ⟨gb198, 0, none⟩ = some (.int .i64 0) := (blk_cell BK198.out 0).trans rfl; have hcz17_1 : w16.cell? ⟨gb198, 1, none⟩ = some (.int .i64 0) := (blk_cell BK198.out 1).trans rfl; have hcz17_2 : w16.cell? ⟨gb198, 2, none⟩ = some (.slice none 0 0) := (blk_cell BK198.out 2).trans rfl; have hcz17_3 : w16.cell? ⟨gb198, 3, none⟩ = some (.int .i64 0) := (blk_cell BK198.out 3).trans rfl; have hfz17_0 := blk_frozen BK198.out 0; have hfz17_1 := blk_frozen BK198.out 1; have hfz17_2 := blk_frozen BK198.out 2; have hfz17_3 := blk_frozen BK198.out 3))
            refine bodyPost_ret (results_cell_row rfl _ _ gb198 134 #[.int .i64 3, .int .i64 0, .slice none 0 0, .int .i64 (wrap64 (a1 + 1))] (0, 0) _ rfl (by (with_reducible repeat (first | refine blk_drewN ?_ _ | refine blk_drew ?_ | refine blk_alloc ?_ _)); refine blk_put (cs := #[.int .i64 3, .int .i64 0, .slice none 0 0, .int .i64 0]) ?_ 3 _ rfl; (with_reducible repeat (first | refine blk_drewN ?_ _ | refine blk_drew ?_ | refine blk_alloc ?_ _)); refine blk_put (cs := #[.int .i64 3, .int .i64 0, .slice none 0 0, .int .i64 0]) ?_ 2 _ rfl; (with_reducible repeat (first | refine blk_drewN ?_ _ | refine blk_drew ?_ | refine blk_alloc ?_ _)); refine blk_put (cs := #[.int .i64 3, .int .i64 0, .slice none 0 0, .int .i64 0]) ?_ 1 _ rfl; (with_reducible repeat (first | refine blk_drewN ?_ _ | refine blk_drew ?_ | refine blk_alloc ?_ _)); refine blk_put (cs := #[.int .i64 0, .int .i64 0, .slice none 0 0, .int .i64 0]) ?_ 0 _ rfl; (with_reducible repeat (first | refine blk_drewN ?_ _ | refine blk_drew ?_ | refine blk_alloc ?_ _)); exact BK198.out) Tryd.underlying134 rfl (by kernel_rfl)) rfl ?_
            exact ⟨_, by first | rfl | (simp [errW_none, errW_some] <;> rfl) | (simp [*, errW_none, errW_some] <;> rfl), by first | exact Kd.R_nil _ _ _ _ _ | exact Kd.N_nil _ _ _ _ _ | exact Kd.V_nil _ _ _ _ _ | exact Kd.Q_nil _ _ _ _ _ | exact Kd.S_nil _ _ _ _ _, by repeat (first | (with_reducible first | exact HB.out | apply below_alloc | apply pw_below_drewN | apply below_drew1 | refine below_set ?_ GE198.out) | exact HB.out)⟩
          · rw [if_neg c15] at H
            have c15b0 : ((bt a0 a1) == 33) = false := beq_eq_false_iff_ne.mpr c15
            have c15b1 : ((bt a0 a1) != 33) = true := bne_iff_ne.mpr c15
            by_cases c18 : (bt a0 a1) = 64
            · rw [if_pos c18] at H
              have c18b0 : ((bt a0 a1) == 64) = true := beq_iff_eq.mpr c18
              have c18b1 : ((bt a0 a1) != 64) = false := bne_eq_false_iff_eq.mpr c18
              clear c18
              obtain ⟨ji19, hji19⟩ : ∃ j_ : Int, (wrap64 (a1 + 1)) = j_ := ⟨_, rfl⟩
              replace H : (if 0 ≤ (ji19) then (if (ji19) ≤ (a0.size : Int) then ((sleuthref1_digits.f k (a0.extract ((ji19) : Int).toNat a0.size)).bind fun bt205 => (if bt205.2 = 0 then (sleuthref1_term.j0 k a0 a1 bt205.1 bt205.2 true) else (sleuthref1_term.j0 k a0 a1 bt205.1 bt205.2 (decide (bt205.1 > 99))))) else (none)) else (none)) = some (r1, r2, r3, r4) := by first | (rw [hji19] at H; exact H) | (simp only [hji19] at H ⊢; exact H)
              have hji19w : (IntKind.i64.wrap (a1 + 1)) = ji19 := (i64_w _).trans hji19
              by_cases c20 : 0 ≤ (ji19)
              · rw [if_pos c20] at H
                have c20b0 := eq_true c20
                have c20b1 : decide (0 ≤ (ji19)) = true := decide_eq_true c20
                clear c20
                by_cases c21 : (ji19) ≤ (a0.size : Int)
                · rw [if_pos c21] at H
                  have c21b0 := eq_true c21
                  have c21b1 : decide ((ji19) ≤ (a0.size : Int)) = true := decide_eq_true c21
                  clear c21
                  replace H := Option.bind_eq_some_iff.mp H
                  obtain ⟨⟨t205, t206⟩, A220, H⟩ := H
                  replace H : (if t206 = 0 then (sleuthref1_term.j0 k a0 a1 t205 t206 true) else (sleuthref1_term.j0 k a0 a1 t205 t206 (decide (t205 > 99)))) = some (r1, r2, r3, r4) := H
                  have A22 := Aside0.mk A220
                  clear A220
                  have HC23 := Aside0.mk H
                  clear H
                  go_enter Tryd.func99, Tryd.ntmps99
                  go_upto_region 10 with (first | ((with_reducible refine gate_dst (N := 4) rfl ?_); refine box_event ?hg (N := 4) ?hd (cs := #[.int .i64 0, .int .i64 0, .slice none 0 0, .int .i64 0]) (t := 134) ?hr ?_; (case hd => rfl); (case hg => rfl); (case hr => first | (go_simp; done) | (go_simp; rfl)); intro gb198 hg w24 hbox hb; have n0_ := Aside0.mk (below_step (by repeat (first | (with_reducible first | exact HB.out | apply below_alloc | apply pw_below_drewN | apply below_drew1) | exact HB.out)) hb); have n1_ := Aside0.mk (hbox); have n2_ := Aside0.mk ((by rw [hg]; exact (below_size (by repeat (first | (with_reducible first | exact HB.out | apply below_alloc | apply pw_below_drewN | apply below_drew1) | exact HB.out))) : w.heap.size ≤ gb198)); have n3_ := Aside0.mk ((by rw [hg]; exact (below_size (by repeat (first | (with_reducible first | exact HB.out | apply below_alloc | apply pw_below_drewN | apply below_drew1) | exact HB.out))) : w.heap.size ≤ gb198)); clear HB; have HB := n0_; have BK198 := n1_; have GW198 := n2_; have GE198 := n3_; clear n0_ n1_ n2_ n3_; clear hb hbox hg; have p11 : 0 ≤ (a1 : Int) := of_decide_eq_true (by first | (with_reducible assumption) | assumption); have q11 : a1 < (a0.size : Int) := of_decide_eq_true (by first | (with_reducible assumption) | assumption); have hx11 := bt_at a0 a1; replace p11 := eq_true p11; replace q11 := eq_true q11) | ((with_reducible refine gate_callee (f := 108) rfl ?_); refine goesL_ (some 37) rfl rfl Tryd.func108 (by kernel_rfl) rfl #[.string (a0.extract ((ji19) : Int).toNat a0.size)] rfl (by (try simp only [List.map_toArray, List.map_cons, List.map_nil]); first | done | (simp only [hji19]; rfl) | rfl | (simp only [List.length_drop, List.length_take]; rfl)) ?_; (with_reducible refine (sleuthref1_digits.calls k (a0.extract ((ji19) : Int).toNat a0.size) t205 t206 _ A22.out).mono ?_); rintro e w' ⟨rfl, ⟨nd, rfl⟩⟩; refine ⟨_, rfl, ?_⟩))
                  (try simp only [Act.put, List.setIfInBounds_toArray, List.set_cons_zero, List.set_cons_succ])
                  go_cut [45] (fun v45 wc => ∃ (kq : Nat) (x45_22 : Bool), v45 = .bool x45_22 ∧ Aside0 (sleuthref1_term.j0 kq a0 a1 t205 t206 x45_22 = some (r1, r2, r3, r4)) ∧ Aside0 (kq ≤ k) ∧ Aside0 (wc.heap[gb198]? = some (.cells #[.int .i64 0, .int .i64 0, (.slice none 0 0), .int .i64 0] 134 (0, 0))) ∧ Aside0 (Below w.heap.size w wc))
                  case first =>
                    have H := HC23.out
                    clear HC23
                    by_cases c25 : t206 = 0
                    · rw [if_pos c25] at H
                      have c25b0 : (t206 == 0) = true := beq_iff_eq.mpr c25
                      have c25b1 : (t206 != 0) = false := bne_eq_false_iff_eq.mpr c25
                      clear c25
                      (first | rw [c25b0] | (simp only [i64_w, i32_w]; rw [c25b0]) | skip)
                      have H' := Aside0.mk H
                      clear H
                      go_wp2
                      go_meet
                      case rel => exact ⟨_, (true), (by first | rfl | (simp; done) | (simp [*]; done)), H', ⟨by first | omega | exact Nat.le_refl _⟩, ⟨by (with_reducible repeat (first | refine blk_drewN ?_ _ | refine blk_drew ?_ | refine blk_alloc ?_ _)); exact BK198.out⟩, ⟨by repeat (first | (with_reducible first | exact HB.out | apply below_alloc | apply pw_below_drewN | apply below_drew1 | refine below_set ?_ GE198.out) | exact HB.out)⟩⟩
                    · rw [if_neg c25] at H
                      have c25b0 : (t206 == 0) = false := beq_eq_false_iff_ne.mpr c25
                      have c25b1 : (t206 != 0) = true := bne_iff_ne.mpr c25
                      (first | rw [c25b0] | (simp only [i64_w, i32_w]; rw [c25b0]) | skip)
                      have H' := Aside0.mk H
                      clear H
                      go_wp2
                      go_meet
                      case rel => exact ⟨_, (decide (t205 > 99)), (by first | rfl | (simp; done) | (simp [*]; done)), H', ⟨by first | omega | exact Nat.le_refl _⟩, ⟨by (with_reducible repeat (first | refine blk_drewN ?_ _ | refine blk_drew ?_ | refine blk_alloc ?_ _)); exact BK198.out⟩, ⟨by repeat (first | (with_reducible first | exact HB.out | apply below_alloc | apply pw_below_drewN | apply below_drew1 | refine below_set ?_ GE198.out) | exact HB.out)⟩⟩
                  case rest =>
                    (try clear hji19w)
                    (try clear hji19)
                    clear HC23
                    try clear c1
                    try clear p1
                    try clear q1
                    try clear hx1
                    try clear c2
                    try clear p2
                    try clear c3
                    try clear c3b0
                    try clear p6
                    try clear c9
                    try clear c9b0
                    try clear c10
                    try clear c10b0
                    try clear p11
                    try clear q11
                    try clear hx11
                    try clear c12
                    try clear c12b0
                    try clear c12b1
                    try clear c15
                    try clear c15b0
                    try clear c15b1
                    try clear c18
                    try clear c18b0
                    try clear c18b1
                    try clear c20
                    try clear c20b0
                    try clear c20b1
                    try clear c21
                    try clear c21b0
                    try clear c21b1
                    try clear c25
                    try clear c25b0
                    try clear c25b1
                    try clear hcz14_0
                    try clear hcz14_1
                    try clear hcz14_2
                    try clear hcz14_3
                    try clear hcz17_0
                    try clear hcz17_1
                    try clear hcz17_2
                    try clear hcz17_3
                    try clear hcz7_0
                    try clear hcz7_1
                    try clear hcz7_2
                    try clear hcz7_3
                    try clear hfz14_0
                    try clear hfz14_1
                    try clear hfz14_2
                    try clear hfz14_3
                    try clear hfz17_0
                    try clear hfz17_1
                    try clear hfz17_2
                    try clear hfz17_3
                    try clear hfz7_0
                    try clear hfz7_1
                    try clear hfz7_2
                    try clear hfz7_3
                    try clear p11
                    try clear q11
                    obtain ⟨kq, x45_22, rfl, HA, HJ22, BK198, HB⟩ := hcut
                    cases kq with
                    | zero => exact absurd HA.out (by simp [sleuthref1_term.j0])
                    | succ kj22 =>
                      have H := HA.out
                      clear HA
                      simp only [sleuthref1_term.j0] at H
                      by_cases c26 : x45_22 = true
                      · subst c26
                        have H1 : ((sleuthref1_bad.f).bind fun bt207 => (some (bt207.1, bt207.2.1, bt207.2.2.1, bt207.2.2.2))) = some (r1, r2, r3, r4) := by rw [if_pos rfl] at H; exact H
                        clear H
                        have H := H1
                        clear H1
                        replace H := Option.bind_eq_some_iff.mp H
                        obtain ⟨⟨t207, t208, t209, t212⟩, A270, H⟩ := H
                        replace H : (some (t207, t208, t209, t212)) = some (r1, r2, r3, r4) := H
                        have A27 := Aside0.mk A270
                        clear A270
                        simp only [Option.some.injEq, Prod.mk.injEq] at H
                        obtain ⟨rfl, rfl, rfl, rfl⟩ := H
                        go_wp2_with (first | ((with_reducible refine gate_callee (f := 107) rfl ?_); refine goesL_ (some 46) rfl rfl Tryd.func107 (by kernel_rfl) rfl #[] rfl (by (try simp only [List.map_toArray, List.map_cons, List.map_nil]); first | done | rfl | (simp only [List.length_drop, List.length_take]; rfl)) ?_; (with_reducible refine (sleuthref1_bad.calls  t207 t208 t209 t212 _ A27.out).mono ?_); rintro e w28 ⟨v210, rfl, ho0, hb⟩; refine ⟨_, rfl, ?_⟩; have n0_ := Aside0.mk (Kd.R_lower ho0 (below_size (by repeat (first | (with_reducible first | exact HB.out | apply below_alloc | apply pw_below_drewN | apply below_drew1 | refine below_set ?_ GE198.out) | exact HB.out)))); have n1_ := Aside0.mk (blk_below (g := gb198) (o := .cells #[.int .i64 0, .int .i64 0, .slice none 0 0, .int .i64 0] 134 (0, 0)) (by (with_reducible repeat (first | refine blk_drewN ?_ _ | refine blk_drew ?_ | refine blk_alloc ?_ _)); exact BK198.out) hb); have n2_ := Aside0.mk (below_step (by repeat (first | (with_reducible first | exact HB.out | apply below_alloc | apply pw_below_drewN | apply below_drew1 | refine below_set ?_ GE198.out) | exact HB.out)) hb); clear BK198; clear HB; have HO211 := n0_; have BK198 := n1_; have HB := n2_; clear n0_ n1_ n2_; (try clear hb); (try clear hb2); (try clear hk); (try clear hi); (try clear ho0); have hcz29_0 : w28.cell? ⟨gb198, 0, none⟩ = some (.int .i64 0) := (blk_cell BK198.out 0).trans rfl; have hcz29_1 : w28.cell? ⟨gb198, 1, none⟩ = some (.int .i64 0) := (blk_cell BK198.out 1).trans rfl; have hcz29_2 : w28.cell? ⟨gb198, 2, none⟩ = some (.slice none 0 0) := (blk_cell BK198.out 2).trans rfl; have hcz29_3 : w28.cell? ⟨gb198, 3, none⟩ = some (.int .i64 0) := (blk_cell BK198.out 3).trans rfl; have hfz29_0 := blk_frozen BK198.out 0; have hfz29_1 := blk_frozen BK198.out 1; have hfz29_2 := blk_frozen BK198.out 2; have hfz29_3 := blk_frozen BK198.out 3; obtain ⟨Ao30, co30, eo30⟩ := Kd.R_slice HO211.out; subst eo30))
                        refine bodyPost_ret (results_cell_row rfl _ _ gb198 134 #[.int .i64 t207, .int .i64 t208, .slice Ao30 t209.length co30, .int .i64 t212] (0, 0) _ rfl (by (with_reducible repeat (first | refine blk_drewN ?_ _ | refine blk_drew ?_ | refine blk_alloc ?_ _)); refine blk_put (cs := #[.int .i64 t207, .int .i64 t208, .slice Ao30 t209.length co30, .int .i64 0]) ?_ 3 _ rfl; (with_reducible repeat (first | refine blk_drewN ?_ _ | refine blk_drew ?_ | refine blk_alloc ?_ _)); refine blk_put (cs := #[.int .i64 t207, .int .i64 t208, .slice none 0 0, .int .i64 0]) ?_ 2 _ rfl; (with_reducible repeat (first | refine blk_drewN ?_ _ | refine blk_drew ?_ | refine blk_alloc ?_ _)); refine blk_put (cs := #[.int .i64 t207, .int .i64 0, .slice none 0 0, .int .i64 0]) ?_ 1 _ rfl; (with_reducible repeat (first | refine blk_drewN ?_ _ | refine blk_drew ?_ | refine blk_alloc ?_ _)); refine blk_put (cs := #[.int .i64 0, .int .i64 0, .slice none 0 0, .int .i64 0]) ?_ 0 _ rfl; (with_reducible repeat (first | refine blk_drewN ?_ _ | refine blk_drew ?_ | refine blk_alloc ?_ _)); exact BK198.out) Tryd.underlying134 rfl (by kernel_rfl)) rfl ?_
                        exact ⟨_, by first | rfl | (simp [errW_none, errW_some] <;> rfl) | (simp only [← hji19]; first | rfl | (simp [errW_none, errW_some] <;> rfl)) | (simp [*, errW_none, errW_some] <;> rfl), by (with_reducible repeat (first | apply Kd.R_alloc | apply Kd.R_drewN | apply Kd.R_drew)); exact Kd.R_mono (Kd.R_far (p := ⟨gb198, 3, none⟩) (Kd.R_far (p := ⟨gb198, 2, none⟩) (Kd.R_far (p := ⟨gb198, 1, none⟩) (Kd.R_far (p := ⟨gb198, 0, none⟩) (Kd.R_types HO211.out BK198.out (by decide)) (fun _ hk => hk.2) (.int .i64 t207)) (fun _ hk => hk.2) (.int .i64 t208)) (fun _ hk => hk.2) (.slice Ao30 t209.length co30)) (fun _ hk => hk.2) (.int .i64 t212)) (fun _ hk => trivial), by repeat (first | (with_reducible first | exact HB.out | apply below_alloc | apply pw_below_drewN | apply below_drew1 | refine below_set ?_ GE198.out) | exact HB.out)⟩
                      · replace c26 := Bool.eq_false_iff.mpr c26
                        subst c26
                        have H1 : (if (wrap64 ((wrap64 (a1 + 1)) + t206)) < (a0.size : Int) then (if 0 ≤ (wrap64 ((wrap64 (a1 + 1)) + t206)) then (if (bt a0 (wrap64 ((wrap64 (a1 + 1)) + t206))) = 40 then ((sleuthref1_parts.f (sleuthref1_term.f kj22) kj22 a0 2 t205 ([] : List ByteArray) (wrap64 ((wrap64 (a1 + 1)) + t206)) (wrap64 ((wrap64 ((wrap64 (a1 + 1)) + t206)) + 1))).bind fun bt214 => (some (bt214.1, bt214.2.1, bt214.2.2.1, bt214.2.2.2))) else (some (2, t205, ([] : List ByteArray), wrap64 ((wrap64 (a1 + 1)) + t206)))) else (none)) else (some (2, t205, ([] : List ByteArray), wrap64 ((wrap64 (a1 + 1)) + t206)))) = some (r1, r2, r3, r4) := by rw [if_neg (show ¬ (false = true) by decide)] at H; exact H
                        clear H
                        have H := H1
                        clear H1
                        by_cases c31 : (wrap64 ((wrap64 (a1 + 1)) + t206)) < (a0.size : Int)
                        · rw [if_pos c31] at H
                          have c31b0 : decide ((wrap64 ((wrap64 (a1 + 1)) + t206)) < (a0.size : Int)) = true := decide_eq_true c31
                          clear c31
                          obtain ⟨ji32, hji32⟩ : ∃ j_ : Int, (wrap64 ((wrap64 (a1 + 1)) + t206)) = j_ := ⟨_, rfl⟩
                          replace H : (if 0 ≤ (ji32) then (if (bt a0 (ji32)) = 40 then ((sleuthref1_parts.f (sleuthref1_term.f kj22) kj22 a0 2 t205 ([] : List ByteArray) (ji32) (wrap64 ((ji32) + 1))).bind fun bt214 => (some (bt214.1, bt214.2.1, bt214.2.2.1, bt214.2.2.2))) else (some (2, t205, ([] : List ByteArray), ji32))) else (none)) = some (r1, r2, r3, r4) := by first | (rw [hji32] at H; exact H) | (simp only [hji32] at H ⊢; exact H)
                          (try rw [hji32] at c31b0)
                          have hji32w : (IntKind.i64.wrap ((wrap64 (a1 + 1)) + t206)) = ji32 := (i64_w _).trans hji32
                          (try simp only [hji19] at hji32w)
                          (try simp only [hji19] at hji32)
                          by_cases c33 : 0 ≤ (ji32)
                          · rw [if_pos c33] at H
                            have c33b0 : decide (0 ≤ (ji32)) = true := decide_eq_true c33
                            clear c33
                            by_cases c35 : (bt a0 (ji32)) = 40
                            · rw [if_pos c35] at H
                              have c35b0 : ((bt a0 (ji32)) == 40) = true := beq_iff_eq.mpr c35
                              have c35b1 : ((bt a0 (ji32)) != 40) = false := bne_eq_false_iff_eq.mpr c35
                              clear c35
                              replace H := Option.bind_eq_some_iff.mp H
                              obtain ⟨⟨t214, t215, t216, t219⟩, A360, H⟩ := H
                              replace H : (some (t214, t215, t216, t219)) = some (r1, r2, r3, r4) := H
                              have A36 := Aside0.mk A360
                              clear A360
                              simp only [Option.some.injEq, Prod.mk.injEq] at H
                              obtain ⟨rfl, rfl, rfl, rfl⟩ := H
                              go_wp2_with (first | ((with_reducible refine gate_dst (N := 7) rfl ?_); refine box_event ?hg (N := 7) ?hd (cs := #[.int .i64 0, .int .i64 0, .slice none 0 0, .int .i64 0]) (t := 134) ?hr ?_; (case hd => rfl); (case hg => rfl); (case hr => first | (go_simp; done) | (go_simp; rfl)); intro gb213 hg w37 hbox hb; have n0_ := Aside0.mk (blk_below (g := gb198) (o := .cells #[.int .i64 0, .int .i64 0, .slice none 0 0, .int .i64 0] 134 (0, 0)) (by (with_reducible repeat (first | refine blk_drewN ?_ _ | refine blk_drew ?_ | refine blk_alloc ?_ _)); exact BK198.out) hb); have n1_ := Aside0.mk (below_step (by repeat (first | (with_reducible first | exact HB.out | apply below_alloc | apply pw_below_drewN | apply below_drew1 | refine below_set ?_ GE198.out) | exact HB.out)) hb); have n2_ := Aside0.mk (hbox); have n3_ := Aside0.mk ((by rw [hg]; exact (below_size (by repeat (first | (with_reducible first | exact HB.out | apply below_alloc | apply pw_below_drewN | apply below_drew1 | refine below_set ?_ GE198.out) | exact HB.out))) : w.heap.size ≤ gb213)); have n4_ := Aside0.mk ((by rw [hg]; exact (below_size (by repeat (first | (with_reducible first | exact HB.out | apply below_alloc | apply pw_below_drewN | apply below_drew1 | refine below_set ?_ GE198.out) | exact HB.out))) : w.heap.size ≤ gb213)); have n5_ := Aside0.mk ((by rw [hg]; exact Nat.ne_of_lt (blk_lt (g := gb198) (o := .cells #[.int .i64 0, .int .i64 0, .slice none 0 0, .int .i64 0] 134 (0, 0)) (by (with_reducible repeat (first | refine blk_drewN ?_ _ | refine blk_drew ?_ | refine blk_alloc ?_ _)); exact BK198.out)) : gb198 ≠ gb213)); have n6_ := Aside0.mk ((by rw [hg]; exact Nat.ne_of_gt (blk_lt (g := gb198) (o := .cells #[.int .i64 0, .int .i64 0, .slice none 0 0, .int .i64 0] 134 (0, 0)) (by (with_reducible repeat (first | refine blk_drewN ?_ _ | refine blk_drew ?_ | refine blk_alloc ?_ _)); exact BK198.out)) : gb213 ≠ gb198)); clear BK198; clear HB; have BK198 := n0_; have HB := n1_; have BK213 := n2_; have GW213 := n3_; have GE213 := n4_; have NB198_213 := n5_; have NB213_198 := n6_; clear n0_ n1_ n2_ n3_ n4_ n5_ n6_; clear hb hbox hg; have hnb38 := NB213_198.out; have hnc38 := NB198_213.out; have hcz39_0 : w37.cell? ⟨gb213, 0, none⟩ = some (.int .i64 0) := (blk_cell BK213.out 0).trans rfl; have hcz39_1 : w37.cell? ⟨gb213, 1, none⟩ = some (.int .i64 0) := (blk_cell BK213.out 1).trans rfl; have hcz39_2 : w37.cell? ⟨gb213, 2, none⟩ = some (.slice none 0 0) := (blk_cell BK213.out 2).trans rfl; have hcz39_3 : w37.cell? ⟨gb213, 3, none⟩ = some (.int .i64 0) := (blk_cell BK213.out 3).trans rfl; have hfz39_0 := blk_frozen BK213.out 0; have hfz39_1 := blk_frozen BK213.out 1; have hfz39_2 := blk_frozen BK213.out 2; have hfz39_3 := blk_frozen BK213.out 3) | ((with_reducible refine gate_store (t := 134) (p := 7) rfl ?_); refine store_event (t := 134) (p := 7) (v := ?vo_w40) (w1 := ((((w37.setCell ⟨gb213, 0, none⟩ (.int .i64 2)).setCell ⟨gb213, 1, none⟩ (.int .i64 t205)).setCell ⟨gb213, 2, none⟩ (.slice none 0 0)).setCell ⟨gb213, 3, none⟩ (.int .i64 ji32))) ?hg ?ho ?hn ?hr ?_; (case ho => rfl); (case hg => rfl); (case hn => rfl); (case hr => first | (go_simp; done) | (go_simp; rfl)); intro w40 hw; have n0_ : Aside0 (w40.heap[gb198]? = some (.cells #[.int .i64 0, .int .i64 0, .slice none 0 0, .int .i64 0] 134 (0, 0))) := ⟨(by rw [hw]; exact (by (with_reducible repeat (first | refine blk_drewN ?_ _ | refine blk_drew ?_ | refine blk_alloc ?_ _)); refine blk_far ?_ NB198_213.out _; (with_reducible repeat (first | refine blk_drewN ?_ _ | refine blk_drew ?_ | refine blk_alloc ?_ _)); refine blk_far ?_ NB198_213.out _; (with_reducible repeat (first | refine blk_drewN ?_ _ | refine blk_drew ?_ | refine blk_alloc ?_ _)); refine blk_far ?_ NB198_213.out _; (with_reducible repeat (first | refine blk_drewN ?_ _ | refine blk_drew ?_ | refine blk_alloc ?_ _)); refine blk_far ?_ NB198_213.out _; (with_reducible repeat (first | refine blk_drewN ?_ _ | refine blk_drew ?_ | refine blk_alloc ?_ _)); exact BK198.out))⟩; have n1_ : Aside0 (w40.heap[gb213]? = some (.cells #[.int .i64 2, .int .i64 t205, .slice none 0 0, .int .i64 ji32] 134 (0, 0))) := ⟨(by rw [hw]; exact (by (with_reducible repeat (first | refine blk_drewN ?_ _ | refine blk_drew ?_ | refine blk_alloc ?_ _)); refine blk_put (cs := #[.int .i64 2, .int .i64 t205, .slice none 0 0, .int .i64 0]) ?_ 3 _ rfl; (with_reducible repeat (first | refine blk_drewN ?_ _ | refine blk_drew ?_ | refine blk_alloc ?_ _)); refine blk_put (cs := #[.int .i64 2, .int .i64 t205, .slice none 0 0, .int .i64 0]) ?_ 2 _ rfl; (with_reducible repeat (first | refine blk_drewN ?_ _ | refine blk_drew ?_ | refine blk_alloc ?_ _)); refine blk_put (cs := #[.int .i64 2, .int .i64 0, .slice none 0 0, .int .i64 0]) ?_ 1 _ rfl; (with_reducible repeat (first | refine blk_drewN ?_ _ | refine blk_drew ?_ | refine blk_alloc ?_ _)); refine blk_put (cs := #[.int .i64 0, .int .i64 0, .slice none 0 0, .int .i64 0]) ?_ 0 _ rfl; (with_reducible repeat (first | refine blk_drewN ?_ _ | refine blk_drew ?_ | refine blk_alloc ?_ _)); exact BK213.out))⟩; have n2_ : Aside0 (Below w.heap.size w w40) := ⟨(by rw [hw]; exact (by repeat (first | (with_reducible first | exact HB.out | apply below_alloc | apply pw_below_drewN | apply below_drew1 | refine below_set ?_ GE198.out | refine below_set ?_ GE213.out) | exact HB.out)))⟩; clear hw; clear BK198; clear BK213; clear HB; have BK198 := n0_; have BK213 := n1_; have HB := n2_; clear n0_ n1_ n2_; have hcz41_0 : w40.cell? ⟨gb213, 0, none⟩ = some (.int .i64 2) := (blk_cell BK213.out 0).trans rfl; have hcz41_1 : w40.cell? ⟨gb213, 1, none⟩ = some (.int .i64 t205) := (blk_cell BK213.out 1).trans rfl; have hcz41_2 : w40.cell? ⟨gb213, 2, none⟩ = some (.slice none 0 0) := (blk_cell BK213.out 2).trans rfl; have hcz41_3 : w40.cell? ⟨gb213, 3, none⟩ = some (.int .i64 ji32) := (blk_cell BK213.out 3).trans rfl; have hfz41_0 := blk_frozen BK213.out 0; have hfz41_1 := blk_frozen BK213.out 1; have hfz41_2 := blk_frozen BK213.out 2; have hfz41_3 := blk_frozen BK213.out 3; have p34 : 0 ≤ ((ji32) : Int) := of_decide_eq_true (by first | (with_reducible assumption) | assumption); have q34 : (ji32) < (a0.size : Int) := of_decide_eq_true (by first | (with_reducible assumption) | assumption); have hx34 := bt_at a0 (ji32); replace p34 := eq_true p34; replace q34 := eq_true q34) | ((with_reducible refine gate_callee (f := 109) rfl ?_); refine goesL_ (some 70) rfl rfl Tryd.func109 (by kernel_rfl) rfl #[.string a0, .agg #[.int .i64 2, .int .i64 t205, .slice none 0 0, .int .i64 ji32], .int .i64 (wrap64 ((ji32) + 1))] rfl (by (try simp only [List.map_toArray, List.map_cons, List.map_nil]); first | done | (simp only [hji32]; rfl) | rfl | (simp only [List.length_drop, List.length_take]; rfl)) ?_; (refine (sleuthref1_parts.calls (sleuthref1_term.f kj22) (ih kj22 (by have := HJ22.out; omega)) kj22 a0 2 t205 (fun k_ => some k_ = (.slice none 0 0 : Value).ownBlock) (.slice none 0 0) ([] : List ByteArray) ji32 (wrap64 ((ji32) + 1)) t214 t215 t216 t219 w _ ?side1 ?side2 A36.out).mono ?_); (case side1 => repeat (first | (with_reducible first | exact HB.out | apply below_alloc | apply pw_below_drewN | apply below_drew1 | refine below_set ?_ GE198.out | refine below_set ?_ GE213.out) | exact HB.out)); (case side2 => exact Kd.R_nil _ _ _ _ _); rintro e w42 ⟨v217, rfl, ho0, hb, hkp⟩; refine ⟨_, rfl, ?_⟩; have n0_ := Aside0.mk (blk_kept (by (with_reducible repeat (first | refine blk_drewN ?_ _ | refine blk_drew ?_ | refine blk_alloc ?_ _)); exact BK198.out) hkp (fun hs_ => (fun e_ => by simp [Value.ownBlock] at e_) hs_)); have n1_ := Aside0.mk (blk_kept (by (with_reducible repeat (first | refine blk_drewN ?_ _ | refine blk_drew ?_ | refine blk_alloc ?_ _)); exact BK213.out) hkp (fun hs_ => (fun e_ => by simp [Value.ownBlock] at e_) hs_)); have n2_ := Aside0.mk (Kd.R_mono (ok' := fun k_ => True) ho0 (fun k_ hk_ => trivial)); have n3_ := Aside0.mk (hb); clear BK198; clear BK213; clear HB; have BK198 := n0_; have BK213 := n1_; have HO218 := n2_; have HB := n3_; clear n0_ n1_ n2_ n3_; (try clear hb); (try clear hkp); (try clear ho0); have hcz43_0 : w42.cell? ⟨gb198, 0, none⟩ = some (.int .i64 0) := (blk_cell BK198.out 0).trans rfl; have hcz43_1 : w42.cell? ⟨gb198, 1, none⟩ = some (.int .i64 0) := (blk_cell BK198.out 1).trans rfl; have hcz43_2 : w42.cell? ⟨gb198, 2, none⟩ = some (.slice none 0 0) := (blk_cell BK198.out 2).trans rfl; have hcz43_3 : w42.cell? ⟨gb198, 3, none⟩ = some (.int .i64 0) := (blk_cell BK198.out 3).trans rfl; have hfz43_0 := blk_frozen BK198.out 0; have hfz43_1 := blk_frozen BK198.out 1; have hfz43_2 := blk_frozen BK198.out 2; have hfz43_3 := blk_frozen BK198.out 3; obtain ⟨Ao44, co44, eo44⟩ := Kd.R_slice HO218.out; subst eo44))
                              refine bodyPost_ret (results_cell_row rfl _ _ gb198 134 #[.int .i64 t214, .int .i64 t215, .slice Ao44 t216.length co44, .int .i64 t219] (0, 0) _ rfl (by (with_reducible repeat (first | refine blk_drewN ?_ _ | refine blk_drew ?_ | refine blk_alloc ?_ _)); refine blk_put (cs := #[.int .i64 t214, .int .i64 t215, .slice Ao44 t216.length co44, .int .i64 0]) ?_ 3 _ rfl; (with_reducible repeat (first | refine blk_drewN ?_ _ | refine blk_drew ?_ | refine blk_alloc ?_ _)); refine blk_put (cs := #[.int .i64 t214, .int .i64 t215, .slice none 0 0, .int .i64 0]) ?_ 2 _ rfl; (with_reducible repeat (first | refine blk_drewN ?_ _ | refine blk_drew ?_ | refine blk_alloc ?_ _)); refine blk_put (cs := #[.int .i64 t214, .int .i64 0, .slice none 0 0, .int .i64 0]) ?_ 1 _ rfl; (with_reducible repeat (first | refine blk_drewN ?_ _ | refine blk_drew ?_ | refine blk_alloc ?_ _)); refine blk_put (cs := #[.int .i64 0, .int .i64 0, .slice none 0 0, .int .i64 0]) ?_ 0 _ rfl; (with_reducible repeat (first | refine blk_drewN ?_ _ | refine blk_drew ?_ | refine blk_alloc ?_ _)); exact BK198.out) Tryd.underlying134 rfl (by kernel_rfl)) rfl ?_
                              exact ⟨_, by first | rfl | (simp [errW_none, errW_some] <;> rfl) | (simp only [← hji19, ← hji32]; first | rfl | (simp [errW_none, errW_some] <;> rfl)) | (simp [*, errW_none, errW_some] <;> rfl), by (with_reducible repeat (first | apply Kd.R_alloc | apply Kd.R_drewN | apply Kd.R_drew)); exact Kd.R_mono (Kd.R_far (p := ⟨gb198, 3, none⟩) (Kd.R_far (p := ⟨gb198, 2, none⟩) (Kd.R_far (p := ⟨gb198, 1, none⟩) (Kd.R_far (p := ⟨gb198, 0, none⟩) (Kd.R_types HO218.out BK198.out (by decide)) (fun _ hk => hk.2) (.int .i64 t214)) (fun _ hk => hk.2) (.int .i64 t215)) (fun _ hk => hk.2) (.slice Ao44 t216.length co44)) (fun _ hk => hk.2) (.int .i64 t219)) (fun _ hk => trivial), by repeat (first | (with_reducible first | exact HB.out | apply below_alloc | apply pw_below_drewN | apply below_drew1 | refine below_set ?_ GE198.out | refine below_set ?_ GE213.out) | exact HB.out)⟩
                            · rw [if_neg c35] at H
                              have c35b0 : ((bt a0 (ji32)) == 40) = false := beq_eq_false_iff_ne.mpr c35
                              have c35b1 : ((bt a0 (ji32)) != 40) = true := bne_iff_ne.mpr c35
                              simp only [Option.some.injEq, Prod.mk.injEq] at H
                              obtain ⟨rfl, rfl, rfl, rfl⟩ := H
                              go_wp2_with (first | ((with_reducible refine gate_dst (N := 7) rfl ?_); refine box_event ?hg (N := 7) ?hd (cs := #[.int .i64 0, .int .i64 0, .slice none 0 0, .int .i64 0]) (t := 134) ?hr ?_; (case hd => rfl); (case hg => rfl); (case hr => first | (go_simp; done) | (go_simp; rfl)); intro gb213 hg w45 hbox hb; have n0_ := Aside0.mk (blk_below (g := gb198) (o := .cells #[.int .i64 0, .int .i64 0, .slice none 0 0, .int .i64 0] 134 (0, 0)) (by (with_reducible repeat (first | refine blk_drewN ?_ _ | refine blk_drew ?_ | refine blk_alloc ?_ _)); exact BK198.out) hb); have n1_ := Aside0.mk (below_step (by repeat (first | (with_reducible first | exact HB.out | apply below_alloc | apply pw_below_drewN | apply below_drew1 | refine below_set ?_ GE198.out) | exact HB.out)) hb); have n2_ := Aside0.mk (hbox); have n3_ := Aside0.mk ((by rw [hg]; exact (below_size (by repeat (first | (with_reducible first | exact HB.out | apply below_alloc | apply pw_below_drewN | apply below_drew1 | refine below_set ?_ GE198.out) | exact HB.out))) : w.heap.size ≤ gb213)); have n4_ := Aside0.mk ((by rw [hg]; exact (below_size (by repeat (first | (with_reducible first | exact HB.out | apply below_alloc | apply pw_below_drewN | apply below_drew1 | refine below_set ?_ GE198.out) | exact HB.out))) : w.heap.size ≤ gb213)); have n5_ := Aside0.mk ((by rw [hg]; exact Nat.ne_of_lt (blk_lt (g := gb198) (o := .cells #[.int .i64 0, .int .i64 0, .slice none 0 0, .int .i64 0] 134 (0, 0)) (by (with_reducible repeat (first | refine blk_drewN ?_ _ | refine blk_drew ?_ | refine blk_alloc ?_ _)); exact BK198.out)) : gb198 ≠ gb213)); have n6_ := Aside0.mk ((by rw [hg]; exact Nat.ne_of_gt (blk_lt (g := gb198) (o := .cells #[.int .i64 0, .int .i64 0, .slice none 0 0, .int .i64 0] 134 (0, 0)) (by (with_reducible repeat (first | refine blk_drewN ?_ _ | refine blk_drew ?_ | refine blk_alloc ?_ _)); exact BK198.out)) : gb213 ≠ gb198)); clear BK198; clear HB; have BK198 := n0_; have HB := n1_; have BK213 := n2_; have GW213 := n3_; have GE213 := n4_; have NB198_213 := n5_; have NB213_198 := n6_; clear n0_ n1_ n2_ n3_ n4_ n5_ n6_; clear hb hbox hg; have hnb46 := NB213_198.out; have hnc46 := NB198_213.out; have hcz47_0 : w45.cell? ⟨gb213, 0, none⟩ = some (.int .i64 0) := (blk_cell BK213.out 0).trans rfl; have hcz47_1 : w45.cell? ⟨gb213, 1, none⟩ = some (.int .i64 0) := (blk_cell BK213.out 1).trans rfl; have hcz47_2 : w45.cell? ⟨gb213, 2, none⟩ = some (.slice none 0 0) := (blk_cell BK213.out 2).trans rfl; have hcz47_3 : w45.cell? ⟨gb213, 3, none⟩ = some (.int .i64 0) := (blk_cell BK213.out 3).trans rfl; have hfz47_0 := blk_frozen BK213.out 0; have hfz47_1 := blk_frozen BK213.out 1; have hfz47_2 := blk_frozen BK213.out 2; have hfz47_3 := blk_frozen BK213.out 3; have p34 : 0 ≤ ((ji32) : Int) := of_decide_eq_true (by first | (with_reducible assumption) | assumption); have q34 : (ji32) < (a0.size : Int) := of_decide_eq_true (by first | (with_reducible assumption) | assumption); have hx34 := bt_at a0 (ji32); replace p34 := eq_true p34; replace q34 := eq_true q34; have hcz48_0 : w45.cell? ⟨gb198, 0, none⟩ = some (.int .i64 0) := (blk_cell BK198.out 0).trans rfl; have hcz48_1 : w45.cell? ⟨gb198, 1, none⟩ = some (.int .i64 0) := (blk_cell BK198.out 1).trans rfl; have hcz48_2 : w45.cell? ⟨gb198, 2, none⟩ = some (.slice none 0 0) := (blk_cell BK198.out 2).trans rfl; have hcz48_3 : w45.cell? ⟨gb198, 3, none⟩ = some (.int .i64 0) := (blk_cell BK198.out 3).trans rfl; have hfz48_0 := blk_frozen BK198.out 0; have hfz48_1 := blk_frozen BK198.out 1; have hfz48_2 := blk_frozen BK198.out 2; have hfz48_3 := blk_frozen BK198.out 3))
                              refine bodyPost_ret (results_cell_row rfl _ _ gb198 134 #[.int .i64 2, .int .i64 t205, .slice none 0 0, .int .i64 ji32] (0, 0) _ rfl (by (with_reducible repeat (first | refine blk_drewN ?_ _ | refine blk_drew ?_ | refine blk_alloc ?_ _)); refine blk_put (cs := #[.int .i64 2, .int .i64 t205, .slice none 0 0, .int .i64 0]) ?_ 3 _ rfl; (with_reducible repeat (first | refine blk_drewN ?_ _ | refine blk_drew ?_ | refine blk_alloc ?_ _)); refine blk_put (cs := #[.int .i64 2, .int .i64 t205, .slice none 0 0, .int .i64 0]) ?_ 2 _ rfl; (with_reducible repeat (first | refine blk_drewN ?_ _ | refine blk_drew ?_ | refine blk_alloc ?_ _)); refine blk_put (cs := #[.int .i64 2, .int .i64 0, .slice none 0 0, .int .i64 0]) ?_ 1 _ rfl; (with_reducible repeat (first | refine blk_drewN ?_ _ | refine blk_drew ?_ | refine blk_alloc ?_ _)); refine blk_put (cs := #[.int .i64 0, .int .i64 0, .slice none 0 0, .int .i64 0]) ?_ 0 _ rfl; (with_reducible repeat (first | refine blk_drewN ?_ _ | refine blk_drew ?_ | refine blk_alloc ?_ _)); refine blk_far ?_ NB198_213.out _; (with_reducible repeat (first | refine blk_drewN ?_ _ | refine blk_drew ?_ | refine blk_alloc ?_ _)); refine blk_far ?_ NB198_213.out _; (with_reducible repeat (first | refine blk_drewN ?_ _ | refine blk_drew ?_ | refine blk_alloc ?_ _)); refine blk_far ?_ NB198_213.out _; (with_reducible repeat (first | refine blk_drewN ?_ _ | refine blk_drew ?_ | refine blk_alloc ?_ _)); refine blk_far ?_ NB198_213.out _; (with_reducible repeat (first | refine blk_drewN ?_ _ | refine blk_drew ?_ | refine blk_alloc ?_ _)); exact BK198.out) Tryd.underlying134 rfl (by kernel_rfl)) rfl ?_
                              exact ⟨_, by first | rfl | (simp [errW_none, errW_some] <;> rfl) | (simp only [← hji19, ← hji32]; first | rfl | (simp [errW_none, errW_some] <;> rfl)) | (simp [*, errW_none, errW_some] <;> rfl), by first | exact Kd.R_nil _ _ _ _ _ | exact Kd.N_nil _ _ _ _ _ | exact Kd.V_nil _ _ _ _ _ | exact Kd.Q_nil _ _ _ _ _ | exact Kd.S_nil _ _ _ _ _, by repeat (first | (with_reducible first | exact HB.out | apply below_alloc | apply pw_below_drewN | apply below_drew1 | refine below_set ?_ GE198.out | refine below_set ?_ GE213.out) | exact HB.out)⟩
                          · rw [if_neg c33] at H
                            exact absurd H (by simp)
                        · rw [if_neg c31] at H
                          have c31b0 : decide ((wrap64 ((wrap64 (a1 + 1)) + t206)) < (a0.size : Int)) = false := decide_eq_false c31
                          clear c31
                          simp only [Option.some.injEq, Prod.mk.injEq] at H
                          obtain ⟨rfl, rfl, rfl, rfl⟩ := H
                          go_wp2_with (first | ((with_reducible refine gate_dst (N := 7) rfl ?_); refine box_event ?hg (N := 7) ?hd (cs := #[.int .i64 0, .int .i64 0, .slice none 0 0, .int .i64 0]) (t := 134) ?hr ?_; (case hd => rfl); (case hg => rfl); (case hr => first | (go_simp; done) | (go_simp; rfl)); intro gb213 hg w49 hbox hb; have n0_ := Aside0.mk (blk_below (g := gb198) (o := .cells #[.int .i64 0, .int .i64 0, .slice none 0 0, .int .i64 0] 134 (0, 0)) (by (with_reducible repeat (first | refine blk_drewN ?_ _ | refine blk_drew ?_ | refine blk_alloc ?_ _)); exact BK198.out) hb); have n1_ := Aside0.mk (below_step (by repeat (first | (with_reducible first | exact HB.out | apply below_alloc | apply pw_below_drewN | apply below_drew1 | refine below_set ?_ GE198.out) | exact HB.out)) hb); have n2_ := Aside0.mk (hbox); have n3_ := Aside0.mk ((by rw [hg]; exact (below_size (by repeat (first | (with_reducible first | exact HB.out | apply below_alloc | apply pw_below_drewN | apply below_drew1 | refine below_set ?_ GE198.out) | exact HB.out))) : w.heap.size ≤ gb213)); have n4_ := Aside0.mk ((by rw [hg]; exact (below_size (by repeat (first | (with_reducible first | exact HB.out | apply below_alloc | apply pw_below_drewN | apply below_drew1 | refine below_set ?_ GE198.out) | exact HB.out))) : w.heap.size ≤ gb213)); have n5_ := Aside0.mk ((by rw [hg]; exact Nat.ne_of_lt (blk_lt (g := gb198) (o := .cells #[.int .i64 0, .int .i64 0, .slice none 0 0, .int .i64 0] 134 (0, 0)) (by (with_reducible repeat (first | refine blk_drewN ?_ _ | refine blk_drew ?_ | refine blk_alloc ?_ _)); exact BK198.out)) : gb198 ≠ gb213)); have n6_ := Aside0.mk ((by rw [hg]; exact Nat.ne_of_gt (blk_lt (g := gb198) (o := .cells #[.int .i64 0, .int .i64 0, .slice none 0 0, .int .i64 0] 134 (0, 0)) (by (with_reducible repeat (first | refine blk_drewN ?_ _ | refine blk_drew ?_ | refine blk_alloc ?_ _)); exact BK198.out)) : gb213 ≠ gb198)); clear BK198; clear HB; have BK198 := n0_; have HB := n1_; have BK213 := n2_; have GW213 := n3_; have GE213 := n4_; have NB198_213 := n5_; have NB213_198 := n6_; clear n0_ n1_ n2_ n3_ n4_ n5_ n6_; clear hb hbox hg; have hnb50 := NB213_198.out; have hnc50 := NB198_213.out; have hcz51_0 : w49.cell? ⟨gb213, 0, none⟩ = some (.int .i64 0) := (blk_cell BK213.out 0).trans rfl; have hcz51_1 : w49.cell? ⟨gb213, 1, none⟩ = some (.int .i64 0) := (blk_cell BK213.out 1).trans rfl; have hcz51_2 : w49.cell? ⟨gb213, 2, none⟩ = some (.slice none 0 0) := (blk_cell BK213.out 2).trans rfl; have hcz51_3 : w49.cell? ⟨gb213, 3, none⟩ = some (.int .i64 0) := (blk_cell BK213.out 3).trans rfl; have hfz51_0 := blk_frozen BK213.out 0; have hfz51_1 := blk_frozen BK213.out 1; have hfz51_2 := blk_frozen BK213.out 2; have hfz51_3 := blk_frozen BK213.out 3; have hcz52_0 : w49.cell? ⟨gb198, 0, none⟩ = some (.int .i64 0) := (blk_cell BK198.out 0).trans rfl; have hcz52_1 : w49.cell? ⟨gb198, 1, none⟩ = some (.int .i64 0) := (blk_cell BK198.out 1).trans rfl; have hcz52_2 : w49.cell? ⟨gb198, 2, none⟩ = some (.slice none 0 0) := (blk_cell BK198.out 2).trans rfl; have hcz52_3 : w49.cell? ⟨gb198, 3, none⟩ = some (.int .i64 0) := (blk_cell BK198.out 3).trans rfl; have hfz52_0 := blk_frozen BK198.out 0; have hfz52_1 := blk_frozen BK198.out 1; have hfz52_2 := blk_frozen BK198.out 2; have hfz52_3 := blk_frozen BK198.out 3))
                          refine bodyPost_ret (results_cell_row rfl _ _ gb198 134 #[.int .i64 2, .int .i64 t205, .slice none 0 0, .int .i64 (wrap64 ((wrap64 (a1 + 1)) + t206))] (0, 0) _ rfl (by (with_reducible repeat (first | refine blk_drewN ?_ _ | refine blk_drew ?_ | refine blk_alloc ?_ _)); refine blk_put (cs := #[.int .i64 2, .int .i64 t205, .slice none 0 0, .int .i64 0]) ?_ 3 _ rfl; (with_reducible repeat (first | refine blk_drewN ?_ _ | refine blk_drew ?_ | refine blk_alloc ?_ _)); refine blk_put (cs := #[.int .i64 2, .int .i64 t205, .slice none 0 0, .int .i64 0]) ?_ 2 _ rfl; (with_reducible repeat (first | refine blk_drewN ?_ _ | refine blk_drew ?_ | refine blk_alloc ?_ _)); refine blk_put (cs := #[.int .i64 2, .int .i64 0, .slice none 0 0, .int .i64 0]) ?_ 1 _ rfl; (with_reducible repeat (first | refine blk_drewN ?_ _ | refine blk_drew ?_ | refine blk_alloc ?_ _)); refine blk_put (cs := #[.int .i64 0, .int .i64 0, .slice none 0 0, .int .i64 0]) ?_ 0 _ rfl; (with_reducible repeat (first | refine blk_drewN ?_ _ | refine blk_drew ?_ | refine blk_alloc ?_ _)); refine blk_far ?_ NB198_213.out _; (with_reducible repeat (first | refine blk_drewN ?_ _ | refine blk_drew ?_ | refine blk_alloc ?_ _)); refine blk_far ?_ NB198_213.out _; (with_reducible repeat (first | refine blk_drewN ?_ _ | refine blk_drew ?_ | refine blk_alloc ?_ _)); refine blk_far ?_ NB198_213.out _; (with_reducible repeat (first | refine blk_drewN ?_ _ | refine blk_drew ?_ | refine blk_alloc ?_ _)); refine blk_far ?_ NB198_213.out _; (with_reducible repeat (first | refine blk_drewN ?_ _ | refine blk_drew ?_ | refine blk_alloc ?_ _)); exact BK198.out) Tryd.underlying134 rfl (by kernel_rfl)) rfl ?_
                          exact ⟨_, by first | rfl | (simp [errW_none, errW_some] <;> rfl) | (simp only [← hji19]; first | rfl | (simp [errW_none, errW_some] <;> rfl)) | (simp [*, errW_none, errW_some] <;> rfl), by first | exact Kd.R_nil _ _ _ _ _ | exact Kd.N_nil _ _ _ _ _ | exact Kd.V_nil _ _ _ _ _ | exact Kd.Q_nil _ _ _ _ _ | exact Kd.S_nil _ _ _ _ _, by repeat (first | (with_reducible first | exact HB.out | apply below_alloc | apply pw_below_drewN | apply below_drew1 | refine below_set ?_ GE198.out | refine below_set ?_ GE213.out) | exact HB.out)⟩
                · rw [if_neg c21] at H
                  exact absurd H (by simp)
              · rw [if_neg c20] at H
                exact absurd H (by simp)
            · rw [if_neg c18] at H
              have c18b0 : ((bt a0 a1) == 64) = false := beq_eq_false_iff_ne.mpr c18
              have c18b1 : ((bt a0 a1) != 64) = true := bne_iff_ne.mpr c18
              by_cases c53 : (bt a0 a1) = 45
              · rw [if_pos c53] at H
                have c53b0 : ((bt a0 a1) == 45) = true := beq_iff_eq.mpr c53
                have c53b1 : ((bt a0 a1) != 45) = false := bne_eq_false_iff_eq.mpr c53
                clear c53
                obtain ⟨ji54, hji54⟩ : ∃ j_ : Int, (wrap64 (a1 + 1)) = j_ := ⟨_, rfl⟩
                replace H : (if 0 ≤ (ji54) then (if (ji54) ≤ (a0.size : Int) then ((sleuthref1_digits.f k (a0.extract ((ji54) : Int).toNat a0.size)).bind fun bt220 => (if bt220.2 = 0 then ((sleuthref1_bad.f).bind fun bt222 => (some (bt222.1, bt222.2.1, bt222.2.2.1, bt222.2.2.2))) else (if bt220.1 = 0 then ((sleuthref1_bad.f).bind fun bt228 => (some (bt228.1, bt228.2.1, bt228.2.2.1, bt228.2.2.2))) else ((sleuthref1_NumMay.f (wrap64 (-bt220.1))).bind fun t234 => (if t234 = true then (some (1, wrap64 (-bt220.1), ([] : List ByteArray), wrap64 ((ji54) + bt220.2))) else ((sleuthref1_bad.f).bind fun bt235 => (some (bt235.1, bt235.2.1, bt235.2.2.1, bt235.2.2.2)))))))) else (none)) else (none)) = some (r1, r2, r3, r4) := by first | (rw [hji54] at H; exact H) | (simp only [hji54] at H ⊢; exact H)
                have hji54w : (IntKind.i64.wrap (a1 + 1)) = ji54 := (i64_w _).trans hji54
                (try simp only [hji19, hji32] at hji54w)
                (try simp only [hji19, hji32] at hji54)
                by_cases c55 : 0 ≤ (ji54)
                · rw [if_pos c55] at H
                  have c55b0 := eq_true c55
                  have c55b1 : decide (0 ≤ (ji54)) = true := decide_eq_true c55
                  clear c55
                  by_cases c56 : (ji54) ≤ (a0.size : Int)
                  · rw [if_pos c56] at H
                    have c56b0 := eq_true c56
                    have c56b1 : decide ((ji54) ≤ (a0.size : Int)) = true := decide_eq_true c56
                    clear c56
                    replace H := Option.bind_eq_some_iff.mp H
                    obtain ⟨⟨t220, t221⟩, A570, H⟩ := H
                    replace H : (if t221 = 0 then ((sleuthref1_bad.f).bind fun bt222 => (some (bt222.1, bt222.2.1, bt222.2.2.1, bt222.2.2.2))) else (if t220 = 0 then ((sleuthref1_bad.f).bind fun bt228 => (some (bt228.1, bt228.2.1, bt228.2.2.1, bt228.2.2.2))) else ((sleuthref1_NumMay.f (wrap64 (-t220))).bind fun t234 => (if t234 = true then (some (1, wrap64 (-t220), ([] : List ByteArray), wrap64 ((ji54) + t221))) else ((sleuthref1_bad.f).bind fun bt235 => (some (bt235.1, bt235.2.1, bt235.2.2.1, bt235.2.2.2))))))) = some (r1, r2, r3, r4) := H
                    have A57 := Aside0.mk A570
                    clear A570
                    by_cases c58 : t221 = 0
                    · rw [if_pos c58] at H
                      have c58b0 : (t221 == 0) = true := beq_iff_eq.mpr c58
                      have c58b1 : (t221 != 0) = false := bne_eq_false_iff_eq.mpr c58
                      clear c58
                      replace H := Option.bind_eq_some_iff.mp H
                      obtain ⟨⟨t222, t223, t224, t227⟩, A590, H⟩ := H
                      replace H : (some (t222, t223, t224, t227)) = some (r1, r2, r3, r4) := H
                      have A59 := Aside0.mk A590
                      clear A590
                      simp only [Option.some.injEq, Prod.mk.injEq] at H
                      obtain ⟨rfl, rfl, rfl, rfl⟩ := H
                      go_enter Tryd.func99, Tryd.ntmps99
                      go_wp2_with (first | ((with_reducible refine gate_dst (N := 4) rfl ?_); refine box_event ?hg (N := 4) ?hd (cs := #[.int .i64 0, .int .i64 0, .slice none 0 0, .int .i64 0]) (t := 134) ?hr ?_; (case hd => rfl); (case hg => rfl); (case hr => first | (go_simp; done) | (go_simp; rfl)); intro gb198 hg w60 hbox hb; have n0_ := Aside0.mk (below_step (by repeat (first | (with_reducible first | exact HB.out | apply below_alloc | apply pw_below_drewN | apply below_drew1) | exact HB.out)) hb); have n1_ := Aside0.mk (hbox); have n2_ := Aside0.mk ((by rw [hg]; exact (below_size (by repeat (first | (with_reducible first | exact HB.out | apply below_alloc | apply pw_below_drewN | apply below_drew1) | exact HB.out))) : w.heap.size ≤ gb198)); have n3_ := Aside0.mk ((by rw [hg]; exact (below_size (by repeat (first | (with_reducible first | exact HB.out | apply below_alloc | apply pw_below_drewN | apply below_drew1) | exact HB.out))) : w.heap.size ≤ gb198)); clear HB; have HB := n0_; have BK198 := n1_; have GW198 := n2_; have GE198 := n3_; clear n0_ n1_ n2_ n3_; clear hb hbox hg; have p11 : 0 ≤ (a1 : Int) := of_decide_eq_true (by first | (with_reducible assumption) | assumption); have q11 : a1 < (a0.size : Int) := of_decide_eq_true (by first | (with_reducible assumption) | assumption); have hx11 := bt_at a0 a1; replace p11 := eq_true p11; replace q11 := eq_true q11) | ((with_reducible refine gate_callee (f := 108) rfl ?_); refine goesL_ (some 79) rfl rfl Tryd.func108 (by kernel_rfl) rfl #[.string (a0.extract ((ji54) : Int).toNat a0.size)] rfl (by (try simp only [List.map_toArray, List.map_cons, List.map_nil]); first | done | (simp only [hji54]; rfl) | rfl | (simp only [List.length_drop, List.length_take]; rfl)) ?_; (with_reducible refine (sleuthref1_digits.calls k (a0.extract ((ji54) : Int).toNat a0.size) t220 t221 _ A57.out).mono ?_); rintro e w' ⟨rfl, ⟨nd, rfl⟩⟩; refine ⟨_, rfl, ?_⟩; (try (rw [drewN_self w60]; generalize hq_ : World.drewN w60 _ = w60; have n0_ : Aside0 (w60.heap[gb198]? = some (.cells #[.int .i64 0, .int .i64 0, .slice none 0 0, .int .i64 0] 134 (0, 0))) := ⟨by rw [← hq_]; exact (by (with_reducible repeat (first | refine blk_drewN ?_ _ | refine blk_drew ?_ | refine blk_alloc ?_ _)); exact BK198.out)⟩; have n1_ : Aside0 (Below w.heap.size w w60) := ⟨by rw [← hq_]; exact (by repeat (first | (with_reducible first | exact HB.out | apply below_alloc | apply pw_below_drewN | apply below_drew1 | refine below_set ?_ GE198.out) | exact HB.out))⟩; clear BK198 HB hq_; have BK198 := n0_; have HB := n1_; clear n0_ n1_))) | ((with_reducible refine gate_callee (f := 107) rfl ?_); refine goesL_ (some 94) rfl rfl Tryd.func107 (by kernel_rfl) rfl #[] rfl (by (try simp only [List.map_toArray, List.map_cons, List.map_nil]); first | done | rfl | (simp only [List.length_drop, List.length_take]; rfl)) ?_; (with_reducible refine (sleuthref1_bad.calls  t222 t223 t224 t227 _ A59.out).mono ?_); rintro e w61 ⟨v225, rfl, ho0, hb⟩; refine ⟨_, rfl, ?_⟩; have n0_ := Aside0.mk (Kd.R_lower ho0 (below_size (by repeat (first | (with_reducible first | exact HB.out | apply below_alloc | apply pw_below_drewN | apply below_drew1 | refine below_set ?_ GE198.out) | exact HB.out)))); have n1_ := Aside0.mk (blk_below (g := gb198) (o := .cells #[.int .i64 0, .int .i64 0, .slice none 0 0, .int .i64 0] 134 (0, 0)) (by (with_reducible repeat (first | refine blk_drewN ?_ _ | refine blk_drew ?_ | refine blk_alloc ?_ _)); exact BK198.out) hb); have n2_ := Aside0.mk (below_step (by repeat (first | (with_reducible first | exact HB.out | apply below_alloc | apply pw_below_drewN | apply below_drew1 | refine below_set ?_ GE198.out) | exact HB.out)) hb); clear BK198; clear HB; have HO226 := n0_; have BK198 := n1_; have HB := n2_; clear n0_ n1_ n2_; (try clear hb); (try clear hb2); (try clear hk); (try clear hi); (try clear ho0); have hcz62_0 : w61.cell? ⟨gb198, 0, none⟩ = some (.int .i64 0) := (blk_cell BK198.out 0).trans rfl; have hcz62_1 : w61.cell? ⟨gb198, 1, none⟩ = some (.int .i64 0) := (blk_cell BK198.out 1).trans rfl; have hcz62_2 : w61.cell? ⟨gb198, 2, none⟩ = some (.slice none 0 0) := (blk_cell BK198.out 2).trans rfl; have hcz62_3 : w61.cell? ⟨gb198, 3, none⟩ = some (.int .i64 0) := (blk_cell BK198.out 3).trans rfl; have hfz62_0 := blk_frozen BK198.out 0; have hfz62_1 := blk_frozen BK198.out 1; have hfz62_2 := blk_frozen BK198.out 2; have hfz62_3 := blk_frozen BK198.out 3; obtain ⟨Ao63, co63, eo63⟩ := Kd.R_slice HO226.out; subst eo63))
                      refine bodyPost_ret (results_cell_row rfl _ _ gb198 134 #[.int .i64 t222, .int .i64 t223, .slice Ao63 t224.length co63, .int .i64 t227] (0, 0) _ rfl (by (with_reducible repeat (first | refine blk_drewN ?_ _ | refine blk_drew ?_ | refine blk_alloc ?_ _)); refine blk_put (cs := #[.int .i64 t222, .int .i64 t223, .slice Ao63 t224.length co63, .int .i64 0]) ?_ 3 _ rfl; (with_reducible repeat (first | refine blk_drewN ?_ _ | refine blk_drew ?_ | refine blk_alloc ?_ _)); refine blk_put (cs := #[.int .i64 t222, .int .i64 t223, .slice none 0 0, .int .i64 0]) ?_ 2 _ rfl; (with_reducible repeat (first | refine blk_drewN ?_ _ | refine blk_drew ?_ | refine blk_alloc ?_ _)); refine blk_put (cs := #[.int .i64 t222, .int .i64 0, .slice none 0 0, .int .i64 0]) ?_ 1 _ rfl; (with_reducible repeat (first | refine blk_drewN ?_ _ | refine blk_drew ?_ | refine blk_alloc ?_ _)); refine blk_put (cs := #[.int .i64 0, .int .i64 0, .slice none 0 0, .int .i64 0]) ?_ 0 _ rfl; (with_reducible repeat (first | refine blk_drewN ?_ _ | refine blk_drew ?_ | refine blk_alloc ?_ _)); exact BK198.out) Tryd.underlying134 rfl (by kernel_rfl)) rfl ?_
                      exact ⟨_, by first | rfl | (simp [errW_none, errW_some] <;> rfl) | (simp only [← hji54]; first | rfl | (simp [errW_none, errW_some] <;> rfl)) | (simp [*, errW_none, errW_some] <;> rfl), by (with_reducible repeat (first | apply Kd.R_alloc | apply Kd.R_drewN | apply Kd.R_drew)); exact Kd.R_mono (Kd.R_far (p := ⟨gb198, 3, none⟩) (Kd.R_far (p := ⟨gb198, 2, none⟩) (Kd.R_far (p := ⟨gb198, 1, none⟩) (Kd.R_far (p := ⟨gb198, 0, none⟩) (Kd.R_types HO226.out BK198.out (by decide)) (fun _ hk => hk.2) (.int .i64 t222)) (fun _ hk => hk.2) (.int .i64 t223)) (fun _ hk => hk.2) (.slice Ao63 t224.length co63)) (fun _ hk => hk.2) (.int .i64 t227)) (fun _ hk => trivial), by repeat (first | (with_reducible first | exact HB.out | apply below_alloc | apply pw_below_drewN | apply below_drew1 | refine below_set ?_ GE198.out) | exact HB.out)⟩
                    · rw [if_neg c58] at H
                      have c58b0 : (t221 == 0) = false := beq_eq_false_iff_ne.mpr c58
                      have c58b1 : (t221 != 0) = true := bne_iff_ne.mpr c58
                      by_cases c64 : t220 = 0
                      · rw [if_pos c64] at H
                        have c64b0 : (t220 == 0) = true := beq_iff_eq.mpr c64
                        have c64b1 : (t220 != 0) = false := bne_eq_false_iff_eq.mpr c64
                        clear c64
                        replace H := Option.bind_eq_some_iff.mp H
                        obtain ⟨⟨t228, t229, t230, t233⟩, A650, H⟩ := H
                        replace H : (some (t228, t229, t230, t233)) = some (r1, r2, r3, r4) := H
                        have A65 := Aside0.mk A650
                        clear A650
                        simp only [Option.some.injEq, Prod.mk.injEq] at H
                        obtain ⟨rfl, rfl, rfl, rfl⟩ := H
                        go_enter Tryd.func99, Tryd.ntmps99
                        go_wp2_with (first | ((with_reducible refine gate_dst (N := 4) rfl ?_); refine box_event ?hg (N := 4) ?hd (cs := #[.int .i64 0, .int .i64 0, .slice none 0 0, .int .i64 0]) (t := 134) ?hr ?_; (case hd => rfl); (case hg => rfl); (case hr => first | (go_simp; done) | (go_simp; rfl)); intro gb198 hg w66 hbox hb; have n0_ := Aside0.mk (below_step (by repeat (first | (with_reducible first | exact HB.out | apply below_alloc | apply pw_below_drewN | apply below_drew1) | exact HB.out)) hb); have n1_ := Aside0.mk (hbox); have n2_ := Aside0.mk ((by rw [hg]; exact (below_size (by repeat (first | (with_reducible first | exact HB.out | apply below_alloc | apply pw_below_drewN | apply below_drew1) | exact HB.out))) : w.heap.size ≤ gb198)); have n3_ := Aside0.mk ((by rw [hg]; exact (below_size (by repeat (first | (with_reducible first | exact HB.out | apply below_alloc | apply pw_below_drewN | apply below_drew1) | exact HB.out))) : w.heap.size ≤ gb198)); clear HB; have HB := n0_; have BK198 := n1_; have GW198 := n2_; have GE198 := n3_; clear n0_ n1_ n2_ n3_; clear hb hbox hg; have p11 : 0 ≤ (a1 : Int) := of_decide_eq_true (by first | (with_reducible assumption) | assumption); have q11 : a1 < (a0.size : Int) := of_decide_eq_true (by first | (with_reducible assumption) | assumption); have hx11 := bt_at a0 a1; replace p11 := eq_true p11; replace q11 := eq_true q11) | ((with_reducible refine gate_callee (f := 108) rfl ?_); refine goesL_ (some 79) rfl rfl Tryd.func108 (by kernel_rfl) rfl #[.string (a0.extract ((ji54) : Int).toNat a0.size)] rfl (by (try simp only [List.map_toArray, List.map_cons, List.map_nil]); first | done | (simp only [hji54]; rfl) | rfl | (simp only [List.length_drop, List.length_take]; rfl)) ?_; (with_reducible refine (sleuthref1_digits.calls k (a0.extract ((ji54) : Int).toNat a0.size) t220 t221 _ A57.out).mono ?_); rintro e w' ⟨rfl, ⟨nd, rfl⟩⟩; refine ⟨_, rfl, ?_⟩; (try (rw [drewN_self w66]; generalize hq_ : World.drewN w66 _ = w66; have n0_ : Aside0 (w66.heap[gb198]? = some (.cells #[.int .i64 0, .int .i64 0, .slice none 0 0, .int .i64 0] 134 (0, 0))) := ⟨by rw [← hq_]; exact (by (with_reducible repeat (first | refine blk_drewN ?_ _ | refine blk_drew ?_ | refine blk_alloc ?_ _)); exact BK198.out)⟩; have n1_ : Aside0 (Below w.heap.size w w66) := ⟨by rw [← hq_]; exact (by repeat (first | (with_reducible first | exact HB.out | apply below_alloc | apply pw_below_drewN | apply below_drew1 | refine below_set ?_ GE198.out) | exact HB.out))⟩; clear BK198 HB hq_; have BK198 := n0_; have HB := n1_; clear n0_ n1_))) | ((with_reducible refine gate_callee (f := 107) rfl ?_); refine goesL_ (some 94) rfl rfl Tryd.func107 (by kernel_rfl) rfl #[] rfl (by (try simp only [List.map_toArray, List.map_cons, List.map_nil]); first | done | rfl | (simp only [List.length_drop, List.length_take]; rfl)) ?_; (with_reducible refine (sleuthref1_bad.calls  t228 t229 t230 t233 _ A65.out).mono ?_); rintro e w67 ⟨v231, rfl, ho0, hb⟩; refine ⟨_, rfl, ?_⟩; have n0_ := Aside0.mk (Kd.R_lower ho0 (below_size (by repeat (first | (with_reducible first | exact HB.out | apply below_alloc | apply pw_below_drewN | apply below_drew1 | refine below_set ?_ GE198.out) | exact HB.out)))); have n1_ := Aside0.mk (blk_below (g := gb198) (o := .cells #[.int .i64 0, .int .i64 0, .slice none 0 0, .int .i64 0] 134 (0, 0)) (by (with_reducible repeat (first | refine blk_drewN ?_ _ | refine blk_drew ?_ | refine blk_alloc ?_ _)); exact BK198.out) hb); have n2_ := Aside0.mk (below_step (by repeat (first | (with_reducible first | exact HB.out | apply below_alloc | apply pw_below_drewN | apply below_drew1 | refine below_set ?_ GE198.out) | exact HB.out)) hb); clear BK198; clear HB; have HO232 := n0_; have BK198 := n1_; have HB := n2_; clear n0_ n1_ n2_; (try clear hb); (try clear hb2); (try clear hk); (try clear hi); (try clear ho0); have hcz68_0 : w67.cell? ⟨gb198, 0, none⟩ = some (.int .i64 0) := (blk_cell BK198.out 0).trans rfl; have hcz68_1 : w67.cell? ⟨gb198, 1, none⟩ = some (.int .i64 0) := (blk_cell BK198.out 1).trans rfl; have hcz68_2 : w67.cell? ⟨gb198, 2, none⟩ = some (.slice none 0 0) := (blk_cell BK198.out 2).trans rfl; have hcz68_3 : w67.cell? ⟨gb198, 3, none⟩ = some (.int .i64 0) := (blk_cell BK198.out 3).trans rfl; have hfz68_0 := blk_frozen BK198.out 0; have hfz68_1 := blk_frozen BK198.out 1; have hfz68_2 := blk_frozen BK198.out 2; have hfz68_3 := blk_frozen BK198.out 3; obtain ⟨Ao69, co69, eo69⟩ := Kd.R_slice HO232.out; subst eo69))
                        refine bodyPost_ret (results_cell_row rfl _ _ gb198 134 #[.int .i64 t228, .int .i64 t229, .slice Ao69 t230.length co69, .int .i64 t233] (0, 0) _ rfl (by (with_reducible repeat (first | refine blk_drewN ?_ _ | refine blk_drew ?_ | refine blk_alloc ?_ _)); refine blk_put (cs := #[.int .i64 t228, .int .i64 t229, .slice Ao69 t230.length co69, .int .i64 0]) ?_ 3 _ rfl; (with_reducible repeat (first | refine blk_drewN ?_ _ | refine blk_drew ?_ | refine blk_alloc ?_ _)); refine blk_put (cs := #[.int .i64 t228, .int .i64 t229, .slice none 0 0, .int .i64 0]) ?_ 2 _ rfl; (with_reducible repeat (first | refine blk_drewN ?_ _ | refine blk_drew ?_ | refine blk_alloc ?_ _)); refine blk_put (cs := #[.int .i64 t228, .int .i64 0, .slice none 0 0, .int .i64 0]) ?_ 1 _ rfl; (with_reducible repeat (first | refine blk_drewN ?_ _ | refine blk_drew ?_ | refine blk_alloc ?_ _)); refine blk_put (cs := #[.int .i64 0, .int .i64 0, .slice none 0 0, .int .i64 0]) ?_ 0 _ rfl; (with_reducible repeat (first | refine blk_drewN ?_ _ | refine blk_drew ?_ | refine blk_alloc ?_ _)); exact BK198.out) Tryd.underlying134 rfl (by kernel_rfl)) rfl ?_
                        exact ⟨_, by first | rfl | (simp [errW_none, errW_some] <;> rfl) | (simp only [← hji54]; first | rfl | (simp [errW_none, errW_some] <;> rfl)) | (simp [*, errW_none, errW_some] <;> rfl), by (with_reducible repeat (first | apply Kd.R_alloc | apply Kd.R_drewN | apply Kd.R_drew)); exact Kd.R_mono (Kd.R_far (p := ⟨gb198, 3, none⟩) (Kd.R_far (p := ⟨gb198, 2, none⟩) (Kd.R_far (p := ⟨gb198, 1, none⟩) (Kd.R_far (p := ⟨gb198, 0, none⟩) (Kd.R_types HO232.out BK198.out (by decide)) (fun _ hk => hk.2) (.int .i64 t228)) (fun _ hk => hk.2) (.int .i64 t229)) (fun _ hk => hk.2) (.slice Ao69 t230.length co69)) (fun _ hk => hk.2) (.int .i64 t233)) (fun _ hk => trivial), by repeat (first | (with_reducible first | exact HB.out | apply below_alloc | apply pw_below_drewN | apply below_drew1 | refine below_set ?_ GE198.out) | exact HB.out)⟩
                      · rw [if_neg c64] at H
                        have c64b0 : (t220 == 0) = false := beq_eq_false_iff_ne.mpr c64
                        have c64b1 : (t220 != 0) = true := bne_iff_ne.mpr c64
                        replace H := Option.bind_eq_some_iff.mp H
                        obtain ⟨t234, A700, H⟩ := H
                        replace H : (if t234 = true then (some (1, wrap64 (-t220), ([] : List ByteArray), wrap64 ((ji54) + t221))) else ((sleuthref1_bad.f).bind fun bt235 => (some (bt235.1, bt235.2.1, bt235.2.2.1, bt235.2.2.2)))) = some (r1, r2, r3, r4) := H
                        have A70 := Aside0.mk A700
                        clear A700
                        by_cases c71 : t234 = true
                        · subst c71
                          have H1 : (some (1, wrap64 (-t220), ([] : List ByteArray), wrap64 ((ji54) + t221))) = some (r1, r2, r3, r4) := by rw [if_pos rfl] at H; exact H
                          clear H
                          have H := H1
                          clear H1
                          simp only [Option.some.injEq, Prod.mk.injEq] at H
                          obtain ⟨rfl, rfl, rfl, rfl⟩ := H
                          go_enter Tryd.func99, Tryd.ntmps99
                          go_wp2_with (first | ((with_reducible refine gate_dst (N := 4) rfl ?_); refine box_event ?hg (N := 4) ?hd (cs := #[.int .i64 0, .int .i64 0, .slice none 0 0, .int .i64 0]) (t := 134) ?hr ?_; (case hd => rfl); (case hg => rfl); (case hr => first | (go_simp; done) | (go_simp; rfl)); intro gb198 hg w72 hbox hb; have n0_ := Aside0.mk (below_step (by repeat (first | (with_reducible first | exact HB.out | apply below_alloc | apply pw_below_drewN | apply below_drew1) | exact HB.out)) hb); have n1_ := Aside0.mk (hbox); have n2_ := Aside0.mk ((by rw [hg]; exact (below_size (by repeat (first | (with_reducible first | exact HB.out | apply below_alloc | apply pw_below_drewN | apply below_drew1) | exact HB.out))) : w.heap.size ≤ gb198)); have n3_ := Aside0.mk ((by rw [hg]; exact (below_size (by repeat (first | (with_reducible first | exact HB.out | apply below_alloc | apply pw_below_drewN | apply below_drew1) | exact HB.out))) : w.heap.size ≤ gb198)); clear HB; have HB := n0_; have BK198 := n1_; have GW198 := n2_; have GE198 := n3_; clear n0_ n1_ n2_ n3_; clear hb hbox hg; have p11 : 0 ≤ (a1 : Int) := of_decide_eq_true (by first | (with_reducible assumption) | assumption); have q11 : a1 < (a0.size : Int) := of_decide_eq_true (by first | (with_reducible assumption) | assumption); have hx11 := bt_at a0 a1; replace p11 := eq_true p11; replace q11 := eq_true q11) | ((with_reducible refine gate_callee (f := 108) rfl ?_); refine goesL_ (some 79) rfl rfl Tryd.func108 (by kernel_rfl) rfl #[.string (a0.extract ((ji54) : Int).toNat a0.size)] rfl (by (try simp only [List.map_toArray, List.map_cons, List.map_nil]); first | done | (simp only [hji54]; rfl) | rfl | (simp only [List.length_drop, List.length_take]; rfl)) ?_; (with_reducible refine (sleuthref1_digits.calls k (a0.extract ((ji54) : Int).toNat a0.size) t220 t221 _ A57.out).mono ?_); rintro e w' ⟨rfl, ⟨nd, rfl⟩⟩; refine ⟨_, rfl, ?_⟩; (try (rw [drewN_self w72]; generalize hq_ : World.drewN w72 _ = w72; have n0_ : Aside0 (w72.heap[gb198]? = some (.cells #[.int .i64 0, .int .i64 0, .slice none 0 0, .int .i64 0] 134 (0, 0))) := ⟨by rw [← hq_]; exact (by (with_reducible repeat (first | refine blk_drewN ?_ _ | refine blk_drew ?_ | refine blk_alloc ?_ _)); exact BK198.out)⟩; have n1_ : Aside0 (Below w.heap.size w w72) := ⟨by rw [← hq_]; exact (by repeat (first | (with_reducible first | exact HB.out | apply below_alloc | apply pw_below_drewN | apply below_drew1 | refine below_set ?_ GE198.out) | exact HB.out))⟩; clear BK198 HB hq_; have BK198 := n0_; have HB := n1_; clear n0_ n1_))) | (go_at_call 110; (with_reducible refine (sleuthref1_NumMay.calls (wrap64 (-t220)) true _ A70.out).mono ?_); rintro e w' ⟨rfl, ⟨nd, rfl⟩⟩; (try (rw [drewN_self w72]; generalize hq_ : World.drewN w72 _ = w72; have n0_ : Aside0 (w72.heap[gb198]? = some (.cells #[.int .i64 0, .int .i64 0, .slice none 0 0, .int .i64 0] 134 (0, 0))) := ⟨by rw [← hq_]; exact (by (with_reducible repeat (first | refine blk_drewN ?_ _ | refine blk_drew ?_ | refine blk_alloc ?_ _)); exact BK198.out)⟩; have n1_ : Aside0 (Below w.heap.size w w72) := ⟨by rw [← hq_]; exact (by repeat (first | (with_reducible first | exact HB.out | apply below_alloc | apply pw_below_drewN | apply below_drew1 | refine below_set ?_ GE198.out) | exact HB.out))⟩; clear BK198 HB hq_; have BK198 := n0_; have HB := n1_; clear n0_ n1_)); have hcz73_0 : w72.cell? ⟨gb198, 0, none⟩ = some (.int .i64 0) := (blk_cell BK198.out 0).trans rfl; have hcz73_1 : w72.cell? ⟨gb198, 1, none⟩ = some (.int .i64 0) := (blk_cell BK198.out 1).trans rfl; have hcz73_2 : w72.cell? ⟨gb198, 2, none⟩ = some (.slice none 0 0) := (blk_cell BK198.out 2).trans rfl; have hcz73_3 : w72.cell? ⟨gb198, 3, none⟩ = some (.int .i64 0) := (blk_cell BK198.out 3).trans rfl; have hfz73_0 := blk_frozen BK198.out 0; have hfz73_1 := blk_frozen BK198.out 1; have hfz73_2 := blk_frozen BK198.out 2; have hfz73_3 := blk_frozen BK198.out 3))
                          refine bodyPost_ret (results_cell_row rfl _ _ gb198 134 #[.int .i64 1, .int .i64 (wrap64 (-t220)), .slice none 0 0, .int .i64 (wrap64 ((ji54) + t221))] (0, 0) _ rfl (by (with_reducible repeat (first | refine blk_drewN ?_ _ | refine blk_drew ?_ | refine blk_alloc ?_ _)); refine blk_put (cs := #[.int .i64 1, .int .i64 (wrap64 (-t220)), .slice none 0 0, .int .i64 0]) ?_ 3 _ rfl; (with_reducible repeat (first | refine blk_drewN ?_ _ | refine blk_drew ?_ | refine blk_alloc ?_ _)); refine blk_put (cs := #[.int .i64 1, .int .i64 (wrap64 (-t220)), .slice none 0 0, .int .i64 0]) ?_ 2 _ rfl; (with_reducible repeat (first | refine blk_drewN ?_ _ | refine blk_drew ?_ | refine blk_alloc ?_ _)); refine blk_put (cs := #[.int .i64 1, .int .i64 0, .slice none 0 0, .int .i64 0]) ?_ 1 _ rfl; (with_reducible repeat (first | refine blk_drewN ?_ _ | refine blk_drew ?_ | refine blk_alloc ?_ _)); refine blk_put (cs := #[.int .i64 0, .int .i64 0, .slice none 0 0, .int .i64 0]) ?_ 0 _ rfl; (with_reducible repeat (first | refine blk_drewN ?_ _ | refine blk_drew ?_ | refine blk_alloc ?_ _)); exact BK198.out) Tryd.underlying134 rfl (by kernel_rfl)) rfl ?_
                          exact ⟨_, by first | rfl | (simp [errW_none, errW_some] <;> rfl) | (simp only [← hji54]; first | rfl | (simp [errW_none, errW_some] <;> rfl)) | (simp [*, errW_none, errW_some] <;> rfl), by first | exact Kd.R_nil _ _ _ _ _ | exact Kd.N_nil _ _ _ _ _ | exact Kd.V_nil _ _ _ _ _ | exact Kd.Q_nil _ _ _ _ _ | exact Kd.S_nil _ _ _ _ _, by repeat (first | (with_reducible first | exact HB.out | apply below_alloc | apply pw_below_drewN | apply below_drew1 | refine below_set ?_ GE198.out) | exact HB.out)⟩
                        · replace c71 := Bool.eq_false_iff.mpr c71
                          subst c71
                          have H1 : ((sleuthref1_bad.f).bind fun bt235 => (some (bt235.1, bt235.2.1, bt235.2.2.1, bt235.2.2.2))) = some (r1, r2, r3, r4) := by rw [if_neg (show ¬ (false = true) by decide)] at H; exact H
                          clear H
                          have H := H1
                          clear H1
                          replace H := Option.bind_eq_some_iff.mp H
                          obtain ⟨⟨t235, t236, t237, t240⟩, A740, H⟩ := H
                          replace H : (some (t235, t236, t237, t240)) = some (r1, r2, r3, r4) := H
                          have A74 := Aside0.mk A740
                          clear A740
                          simp only [Option.some.injEq, Prod.mk.injEq] at H
                          obtain ⟨rfl, rfl, rfl, rfl⟩ := H
                          go_enter Tryd.func99, Tryd.ntmps99
                          go_wp2_with (first | ((with_reducible refine gate_dst (N := 4) rfl ?_); refine box_event ?hg (N := 4) ?hd (cs := #[.int .i64 0, .int .i64 0, .slice none 0 0, .int .i64 0]) (t := 134) ?hr ?_; (case hd => rfl); (case hg => rfl); (case hr => first | (go_simp; done) | (go_simp; rfl)); intro gb198 hg w75 hbox hb; have n0_ := Aside0.mk (below_step (by repeat (first | (with_reducible first | exact HB.out | apply below_alloc | apply pw_below_drewN | apply below_drew1) | exact HB.out)) hb); have n1_ := Aside0.mk (hbox); have n2_ := Aside0.mk ((by rw [hg]; exact (below_size (by repeat (first | (with_reducible first | exact HB.out | apply below_alloc | apply pw_below_drewN | apply below_drew1) | exact HB.out))) : w.heap.size ≤ gb198)); have n3_ := Aside0.mk ((by rw [hg]; exact (below_size (by repeat (first | (with_reducible first | exact HB.out | apply below_alloc | apply pw_below_drewN | apply below_drew1) | exact HB.out))) : w.heap.size ≤ gb198)); clear HB; have HB := n0_; have BK198 := n1_; have GW198 := n2_; have GE198 := n3_; clear n0_ n1_ n2_ n3_; clear hb hbox hg; have p11 : 0 ≤ (a1 : Int) := of_decide_eq_true (by first | (with_reducible assumption) | assumption); have q11 : a1 < (a0.size : Int) := of_decide_eq_true (by first | (with_reducible assumption) | assumption); have hx11 := bt_at a0 a1; replace p11 := eq_true p11; replace q11 := eq_true q11) | ((with_reducible refine gate_callee (f := 108) rfl ?_); refine goesL_ (some 79) rfl rfl Tryd.func108 (by kernel_rfl) rfl #[.string (a0.extract ((ji54) : Int).toNat a0.size)] rfl (by (try simp only [List.map_toArray, List.map_cons, List.map_nil]); first | done | (simp only [hji54]; rfl) | rfl | (simp only [List.length_drop, List.length_take]; rfl)) ?_; (with_reducible refine (sleuthref1_digits.calls k (a0.extract ((ji54) : Int).toNat a0.size) t220 t221 _ A57.out).mono ?_); rintro e w' ⟨rfl, ⟨nd, rfl⟩⟩; refine ⟨_, rfl, ?_⟩; (try (rw [drewN_self w75]; generalize hq_ : World.drewN w75 _ = w75; have n0_ : Aside0 (w75.heap[gb198]? = some (.cells #[.int .i64 0, .int .i64 0, .slice none 0 0, .int .i64 0] 134 (0, 0))) := ⟨by rw [← hq_]; exact (by (with_reducible repeat (first | refine blk_drewN ?_ _ | refine blk_drew ?_ | refine blk_alloc ?_ _)); exact BK198.out)⟩; have n1_ : Aside0 (Below w.heap.size w w75) := ⟨by rw [← hq_]; exact (by repeat (first | (with_reducible first | exact HB.out | apply below_alloc | apply pw_below_drewN | apply below_drew1 | refine below_set ?_ GE198.out) | exact HB.out))⟩; clear BK198 HB hq_; have BK198 := n0_; have HB := n1_; clear n0_ n1_))) | (go_at_call 110; (with_reducible refine (sleuthref1_NumMay.calls (wrap64 (-t220)) false _ A70.out).mono ?_); rintro e w' ⟨rfl, ⟨nd, rfl⟩⟩; (try (rw [drewN_self w75]; generalize hq_ : World.drewN w75 _ = w75; have n0_ : Aside0 (w75.heap[gb198]? = some (.cells #[.int .i64 0, .int .i64 0, .slice none 0 0, .int .i64 0] 134 (0, 0))) := ⟨by rw [← hq_]; exact (by (with_reducible repeat (first | refine blk_drewN ?_ _ | refine blk_drew ?_ | refine blk_alloc ?_ _)); exact BK198.out)⟩; have n1_ : Aside0 (Below w.heap.size w w75) := ⟨by rw [← hq_]; exact (by repeat (first | (with_reducible first | exact HB.out | apply below_alloc | apply pw_below_drewN | apply below_drew1 | refine below_set ?_ GE198.out) | exact HB.out))⟩; clear BK198 HB hq_; have BK198 := n0_; have HB := n1_; clear n0_ n1_))) | ((with_reducible refine gate_callee (f := 107) rfl ?_); refine goesL_ (some 94) rfl rfl Tryd.func107 (by kernel_rfl) rfl #[] rfl (by (try simp only [List.map_toArray, List.map_cons, List.map_nil]); first | done | rfl | (simp only [List.length_drop, List.length_take]; rfl)) ?_; (with_reducible refine (sleuthref1_bad.calls  t235 t236 t237 t240 _ A74.out).mono ?_); rintro e w76 ⟨v238, rfl, ho0, hb⟩; refine ⟨_, rfl, ?_⟩; have n0_ := Aside0.mk (Kd.R_lower ho0 (below_size (by repeat (first | (with_reducible first | exact HB.out | apply below_alloc | apply pw_below_drewN | apply below_drew1 | refine below_set ?_ GE198.out) | exact HB.out)))); have n1_ := Aside0.mk (blk_below (g := gb198) (o := .cells #[.int .i64 0, .int .i64 0, .slice none 0 0, .int .i64 0] 134 (0, 0)) (by (with_reducible repeat (first | refine blk_drewN ?_ _ | refine blk_drew ?_ | refine blk_alloc ?_ _)); exact BK198.out) hb); have n2_ := Aside0.mk (below_step (by repeat (first | (with_reducible first | exact HB.out | apply below_alloc | apply pw_below_drewN | apply below_drew1 | refine below_set ?_ GE198.out) | exact HB.out)) hb); clear BK198; clear HB; have HO239 := n0_; have BK198 := n1_; have HB := n2_; clear n0_ n1_ n2_; (try clear hb); (try clear hb2); (try clear hk); (try clear hi); (try clear ho0); have hcz77_0 : w76.cell? ⟨gb198, 0, none⟩ = some (.int .i64 0) := (blk_cell BK198.out 0).trans rfl; have hcz77_1 : w76.cell? ⟨gb198, 1, none⟩ = some (.int .i64 0) := (blk_cell BK198.out 1).trans rfl; have hcz77_2 : w76.cell? ⟨gb198, 2, none⟩ = some (.slice none 0 0) := (blk_cell BK198.out 2).trans rfl; have hcz77_3 : w76.cell? ⟨gb198, 3, none⟩ = some (.int .i64 0) := (blk_cell BK198.out 3).trans rfl; have hfz77_0 := blk_frozen BK198.out 0; have hfz77_1 := blk_frozen BK198.out 1; have hfz77_2 := blk_frozen BK198.out 2; have hfz77_3 := blk_frozen BK198.out 3; obtain ⟨Ao78, co78, eo78⟩ := Kd.R_slice HO239.out; subst eo78))
                          refine bodyPost_ret (results_cell_row rfl _ _ gb198 134 #[.int .i64 t235, .int .i64 t236, .slice Ao78 t237.length co78, .int .i64 t240] (0, 0) _ rfl (by (with_reducible repeat (first | refine blk_drewN ?_ _ | refine blk_drew ?_ | refine blk_alloc ?_ _)); refine blk_put (cs := #[.int .i64 t235, .int .i64 t236, .slice Ao78 t237.length co78, .int .i64 0]) ?_ 3 _ rfl; (with_reducible repeat (first | refine blk_drewN ?_ _ | refine blk_drew ?_ | refine blk_alloc ?_ _)); refine blk_put (cs := #[.int .i64 t235, .int .i64 t236, .slice none 0 0, .int .i64 0]) ?_ 2 _ rfl; (with_reducible repeat (first | refine blk_drewN ?_ _ | refine blk_drew ?_ | refine blk_alloc ?_ _)); refine blk_put (cs := #[.int .i64 t235, .int .i64 0, .slice none 0 0, .int .i64 0]) ?_ 1 _ rfl; (with_reducible repeat (first | refine blk_drewN ?_ _ | refine blk_drew ?_ | refine blk_alloc ?_ _)); refine blk_put (cs := #[.int .i64 0, .int .i64 0, .slice none 0 0, .int .i64 0]) ?_ 0 _ rfl; (with_reducible repeat (first | refine blk_drewN ?_ _ | refine blk_drew ?_ | refine blk_alloc ?_ _)); exact BK198.out) Tryd.underlying134 rfl (by kernel_rfl)) rfl ?_
                          exact ⟨_, by first | rfl | (simp [errW_none, errW_some] <;> rfl) | (simp only [← hji54]; first | rfl | (simp [errW_none, errW_some] <;> rfl)) | (simp [*, errW_none, errW_some] <;> rfl), by (with_reducible repeat (first | apply Kd.R_alloc | apply Kd.R_drewN | apply Kd.R_drew)); exact Kd.R_mono (Kd.R_far (p := ⟨gb198, 3, none⟩) (Kd.R_far (p := ⟨gb198, 2, none⟩) (Kd.R_far (p := ⟨gb198, 1, none⟩) (Kd.R_far (p := ⟨gb198, 0, none⟩) (Kd.R_types HO239.out BK198.out (by decide)) (fun _ hk => hk.2) (.int .i64 t235)) (fun _ hk => hk.2) (.int .i64 t236)) (fun _ hk => hk.2) (.slice Ao78 t237.length co78)) (fun _ hk => hk.2) (.int .i64 t240)) (fun _ hk => trivial), by repeat (first | (with_reducible first | exact HB.out | apply below_alloc | apply pw_below_drewN | apply below_drew1 | refine below_set ?_ GE198.out) | exact HB.out)⟩
                  · rw [if_neg c56] at H
                    exact absurd H (by simp)
                · rw [if_neg c55] at H
                  exact absurd H (by simp)
              · rw [if_neg c53] at H
                have c53b0 : ((bt a0 a1) == 45) = false := beq_eq_false_iff_ne.mpr c53
                have c53b1 : ((bt a0 a1) != 45) = true := bne_iff_ne.mpr c53
                have c79b0 := eq_true (of_decide_eq_true (by first | (with_reducible assumption) | assumption) : 0 ≤ a1)
                by_cases c80 : a1 ≤ (a0.size : Int)
                · rw [if_pos c80] at H
                  have c80b0 := eq_true c80
                  have c80b1 : decide (a1 ≤ (a0.size : Int)) = true := decide_eq_true c80
                  clear c80
                  replace H := Option.bind_eq_some_iff.mp H
                  obtain ⟨⟨t241, t242⟩, A810, H⟩ := H
                  replace H : (if t242 = 0 then ((sleuthref1_bad.f).bind fun bt243 => (some (bt243.1, bt243.2.1, bt243.2.2.1, bt243.2.2.2))) else ((sleuthref1_NumMay.f t241).bind fun t249 => (if t249 = true then (some (1, t241, ([] : List ByteArray), wrap64 (a1 + t242))) else ((sleuthref1_bad.f).bind fun bt250 => (some (bt250.1, bt250.2.1, bt250.2.2.1, bt250.2.2.2)))))) = some (r1, r2, r3, r4) := H
                  have A81 := Aside0.mk A810
                  clear A810
                  by_cases c82 : t242 = 0
                  · rw [if_pos c82] at H
                    have c82b0 : (t242 == 0) = true := beq_iff_eq.mpr c82
                    have c82b1 : (t242 != 0) = false := bne_eq_false_iff_eq.mpr c82
                    clear c82
                    replace H := Option.bind_eq_some_iff.mp H
                    obtain ⟨⟨t243, t244, t245, t248⟩, A830, H⟩ := H
                    replace H : (some (t243, t244, t245, t248)) = some (r1, r2, r3, r4) := H
                    have A83 := Aside0.mk A830
                    clear A830
                    simp only [Option.some.injEq, Prod.mk.injEq] at H
                    obtain ⟨rfl, rfl, rfl, rfl⟩ := H
                    go_enter Tryd.func99, Tryd.ntmps99
                    go_wp2_with (first | ((with_reducible refine gate_dst (N := 4) rfl ?_); refine box_event ?hg (N := 4) ?hd (cs := #[.int .i64 0, .int .i64 0, .slice none 0 0, .int .i64 0]) (t := 134) ?hr ?_; (case hd => rfl); (case hg => rfl); (case hr => first | (go_simp; done) | (go_simp; rfl)); intro gb198 hg w84 hbox hb; have n0_ := Aside0.mk (below_step (by repeat (first | (with_reducible first | exact HB.out | apply below_alloc | apply pw_below_drewN | apply below_drew1) | exact HB.out)) hb); have n1_ := Aside0.mk (hbox); have n2_ := Aside0.mk ((by rw [hg]; exact (below_size (by repeat (first | (with_reducible first | exact HB.out | apply below_alloc | apply pw_below_drewN | apply below_drew1) | exact HB.out))) : w.heap.size ≤ gb198)); have n3_ := Aside0.mk ((by rw [hg]; exact (below_size (by repeat (first | (with_reducible first | exact HB.out | apply below_alloc | apply pw_below_drewN | apply below_drew1) | exact HB.out))) : w.heap.size ≤ gb198)); clear HB; have HB := n0_; have BK198 := n1_; have GW198 := n2_; have GE198 := n3_; clear n0_ n1_ n2_ n3_; clear hb hbox hg; have p11 : 0 ≤ (a1 : Int) := of_decide_eq_true (by first | (with_reducible assumption) | assumption); have q11 : a1 < (a0.size : Int) := of_decide_eq_true (by first | (with_reducible assumption) | assumption); have hx11 := bt_at a0 a1; replace p11 := eq_true p11; replace q11 := eq_true q11) | ((with_reducible refine gate_callee (f := 108) rfl ?_); refine goesL_ (some 106) rfl rfl Tryd.func108 (by kernel_rfl) rfl #[.string (a0.extract (a1 : Int).toNat a0.size)] rfl (by (try simp only [List.map_toArray, List.map_cons, List.map_nil]); first | done | rfl | (simp only [List.length_drop, List.length_take]; rfl)) ?_; (with_reducible refine (sleuthref1_digits.calls k (a0.extract (a1 : Int).toNat a0.size) t241 t242 _ A81.out).mono ?_); rintro e w' ⟨rfl, ⟨nd, rfl⟩⟩; refine ⟨_, rfl, ?_⟩; (try (rw [drewN_self w84]; generalize hq_ : World.drewN w84 _ = w84; have n0_ : Aside0 (w84.heap[gb198]? = some (.cells #[.int .i64 0, .int .i64 0, .slice none 0 0, .int .i64 0] 134 (0, 0))) := ⟨by rw [← hq_]; exact (by (with_reducible repeat (first | refine blk_drewN ?_ _ | refine blk_drew ?_ | refine blk_alloc ?_ _)); exact BK198.out)⟩; have n1_ : Aside0 (Below w.heap.size w w84) := ⟨by rw [← hq_]; exact (by repeat (first | (with_reducible first | exact HB.out | apply below_alloc | apply pw_below_drewN | apply below_drew1 | refine below_set ?_ GE198.out) | exact HB.out))⟩; clear BK198 HB hq_; have BK198 := n0_; have HB := n1_; clear n0_ n1_))) | ((with_reducible refine gate_callee (f := 107) rfl ?_); refine goesL_ (some 116) rfl rfl Tryd.func107 (by kernel_rfl) rfl #[] rfl (by (try simp only [List.map_toArray, List.map_cons, List.map_nil]); first | done | rfl | (simp only [List.length_drop, List.length_take]; rfl)) ?_; (with_reducible refine (sleuthref1_bad.calls  t243 t244 t245 t248 _ A83.out).mono ?_); rintro e w85 ⟨v246, rfl, ho0, hb⟩; refine ⟨_, rfl, ?_⟩; have n0_ := Aside0.mk (Kd.R_lower ho0 (below_size (by repeat (first | (with_reducible first | exact HB.out | apply below_alloc | apply pw_below_drewN | apply below_drew1 | refine below_set ?_ GE198.out) | exact HB.out)))); have n1_ := Aside0.mk (blk_below (g := gb198) (o := .cells #[.int .i64 0, .int .i64 0, .slice none 0 0, .int .i64 0] 134 (0, 0)) (by (with_reducible repeat (first | refine blk_drewN ?_ _ | refine blk_drew ?_ | refine blk_alloc ?_ _)); exact BK198.out) hb); have n2_ := Aside0.mk (below_step (by repeat (first | (with_reducible first | exact HB.out | apply below_alloc | apply pw_below_drewN | apply below_drew1 | refine below_set ?_ GE198.out) | exact HB.out)) hb); clear BK198; clear HB; have HO247 := n0_; have BK198 := n1_; have HB := n2_; clear n0_ n1_ n2_; (try clear hb); (try clear hb2); (try clear hk); (try clear hi); (try clear ho0); have hcz86_0 : w85.cell? ⟨gb198, 0, none⟩ = some (.int .i64 0) := (blk_cell BK198.out 0).trans rfl; have hcz86_1 : w85.cell? ⟨gb198, 1, none⟩ = some (.int .i64 0) := (blk_cell BK198.out 1).trans rfl; have hcz86_2 : w85.cell? ⟨gb198, 2, none⟩ = some (.slice none 0 0) := (blk_cell BK198.out 2).trans rfl; have hcz86_3 : w85.cell? ⟨gb198, 3, none⟩ = some (.int .i64 0) := (blk_cell BK198.out 3).trans rfl; have hfz86_0 := blk_frozen BK198.out 0; have hfz86_1 := blk_frozen BK198.out 1; have hfz86_2 := blk_frozen BK198.out 2; have hfz86_3 := blk_frozen BK198.out 3; obtain ⟨Ao87, co87, eo87⟩ := Kd.R_slice HO247.out; subst eo87))
                    refine bodyPost_ret (results_cell_row rfl _ _ gb198 134 #[.int .i64 t243, .int .i64 t244, .slice Ao87 t245.length co87, .int .i64 t248] (0, 0) _ rfl (by (with_reducible repeat (first | refine blk_drewN ?_ _ | refine blk_drew ?_ | refine blk_alloc ?_ _)); refine blk_put (cs := #[.int .i64 t243, .int .i64 t244, .slice Ao87 t245.length co87, .int .i64 0]) ?_ 3 _ rfl; (with_reducible repeat (first | refine blk_drewN ?_ _ | refine blk_drew ?_ | refine blk_alloc ?_ _)); refine blk_put (cs := #[.int .i64 t243, .int .i64 t244, .slice none 0 0, .int .i64 0]) ?_ 2 _ rfl; (with_reducible repeat (first | refine blk_drewN ?_ _ | refine blk_drew ?_ | refine blk_alloc ?_ _)); refine blk_put (cs := #[.int .i64 t243, .int .i64 0, .slice none 0 0, .int .i64 0]) ?_ 1 _ rfl; (with_reducible repeat (first | refine blk_drewN ?_ _ | refine blk_drew ?_ | refine blk_alloc ?_ _)); refine blk_put (cs := #[.int .i64 0, .int .i64 0, .slice none 0 0, .int .i64 0]) ?_ 0 _ rfl; (with_reducible repeat (first | refine blk_drewN ?_ _ | refine blk_drew ?_ | refine blk_alloc ?_ _)); exact BK198.out) Tryd.underlying134 rfl (by kernel_rfl)) rfl ?_
                    exact ⟨_, by first | rfl | (simp [errW_none, errW_some] <;> rfl) | (simp [*, errW_none, errW_some] <;> rfl), by (with_reducible repeat (first | apply Kd.R_alloc | apply Kd.R_drewN | apply Kd.R_drew)); exact Kd.R_mono (Kd.R_far (p := ⟨gb198, 3, none⟩) (Kd.R_far (p := ⟨gb198, 2, none⟩) (Kd.R_far (p := ⟨gb198, 1, none⟩) (Kd.R_far (p := ⟨gb198, 0, none⟩) (Kd.R_types HO247.out BK198.out (by decide)) (fun _ hk => hk.2) (.int .i64 t243)) (fun _ hk => hk.2) (.int .i64 t244)) (fun _ hk => hk.2) (.slice Ao87 t245.length co87)) (fun _ hk => hk.2) (.int .i64 t248)) (fun _ hk => trivial), by repeat (first | (with_reducible first | exact HB.out | apply below_alloc | apply pw_below_drewN | apply below_drew1 | refine below_set ?_ GE198.out) | exact HB.out)⟩
                  · rw [if_neg c82] at H
                    have c82b0 : (t242 == 0) = false := beq_eq_false_iff_ne.mpr c82
                    have c82b1 : (t242 != 0) = true := bne_iff_ne.mpr c82
                    replace H := Option.bind_eq_some_iff.mp H
                    obtain ⟨t249, A880, H⟩ := H
                    replace H : (if t249 = true then (some (1, t241, ([] : List ByteArray), wrap64 (a1 + t242))) else ((sleuthref1_bad.f).bind fun bt250 => (some (bt250.1, bt250.2.1, bt250.2.2.1, bt250.2.2.2)))) = some (r1, r2, r3, r4) := H
                    have A88 := Aside0.mk A880
                    clear A880
                    by_cases c89 : t249 = true
                    · subst c89
                      have H1 : (some (1, t241, ([] : List ByteArray), wrap64 (a1 + t242))) = some (r1, r2, r3, r4) := by rw [if_pos rfl] at H; exact H
                      clear H
                      have H := H1
                      clear H1
                      simp only [Option.some.injEq, Prod.mk.injEq] at H
                      obtain ⟨rfl, rfl, rfl, rfl⟩ := H
                      go_enter Tryd.func99, Tryd.ntmps99
                      go_wp2_with (first | ((with_reducible refine gate_dst (N := 4) rfl ?_); refine box_event ?hg (N := 4) ?hd (cs := #[.int .i64 0, .int .i64 0, .slice none 0 0, .int .i64 0]) (t := 134) ?hr ?_; (case hd => rfl); (case hg => rfl); (case hr => first | (go_simp; done) | (go_simp; rfl)); intro gb198 hg w90 hbox hb; have n0_ := Aside0.mk (below_step (by repeat (first | (with_reducible first | exact HB.out | apply below_alloc | apply pw_below_drewN | apply below_drew1) | exact HB.out)) hb); have n1_ := Aside0.mk (hbox); have n2_ := Aside0.mk ((by rw [hg]; exact (below_size (by repeat (first | (with_reducible first | exact HB.out | apply below_alloc | apply pw_below_drewN | apply below_drew1) | exact HB.out))) : w.heap.size ≤ gb198)); have n3_ := Aside0.mk ((by rw [hg]; exact (below_size (by repeat (first | (with_reducible first | exact HB.out | apply below_alloc | apply pw_below_drewN | apply below_drew1) | exact HB.out))) : w.heap.size ≤ gb198)); clear HB; have HB := n0_; have BK198 := n1_; have GW198 := n2_; have GE198 := n3_; clear n0_ n1_ n2_ n3_; clear hb hbox hg; have p11 : 0 ≤ (a1 : Int) := of_decide_eq_true (by first | (with_reducible assumption) | assumption); have q11 : a1 < (a0.size : Int) := of_decide_eq_true (by first | (with_reducible assumption) | assumption); have hx11 := bt_at a0 a1; replace p11 := eq_true p11; replace q11 := eq_true q11) | ((with_reducible refine gate_callee (f := 108) rfl ?_); refine goesL_ (some 106) rfl rfl Tryd.func108 (by kernel_rfl) rfl #[.string (a0.extract (a1 : Int).toNat a0.size)] rfl (by (try simp only [List.map_toArray, List.map_cons, List.map_nil]); first | done | rfl | (simp only [List.length_drop, List.length_take]; rfl)) ?_; (with_reducible refine (sleuthref1_digits.calls k (a0.extract (a1 : Int).toNat a0.size) t241 t242 _ A81.out).mono ?_); rintro e w' ⟨rfl, ⟨nd, rfl⟩⟩; refine ⟨_, rfl, ?_⟩; (try (rw [drewN_self w90]; generalize hq_ : World.drewN w90 _ = w90; have n0_ : Aside0 (w90.heap[gb198]? = some (.cells #[.int .i64 0, .int .i64 0, .slice none 0 0, .int .i64 0] 134 (0, 0))) := ⟨by rw [← hq_]; exact (by (with_reducible repeat (first | refine blk_drewN ?_ _ | refine blk_drew ?_ | refine blk_alloc ?_ _)); exact BK198.out)⟩; have n1_ : Aside0 (Below w.heap.size w w90) := ⟨by rw [← hq_]; exact (by repeat (first | (with_reducible first | exact HB.out | apply below_alloc | apply pw_below_drewN | apply below_drew1 | refine below_set ?_ GE198.out) | exact HB.out))⟩; clear BK198 HB hq_; have BK198 := n0_; have HB := n1_; clear n0_ n1_))) | (go_at_call 110; (with_reducible refine (sleuthref1_NumMay.calls t241 true _ A88.out).mono ?_); rintro e w' ⟨rfl, ⟨nd, rfl⟩⟩; (try (rw [drewN_self w90]; generalize hq_ : World.drewN w90 _ = w90; have n0_ : Aside0 (w90.heap[gb198]? = some (.cells #[.int .i64 0, .int .i64 0, .slice none 0 0, .int .i64 0] 134 (0, 0))) := ⟨by rw [← hq_]; exact (by (with_reducible repeat (first | refine blk_drewN ?_ _ | refine blk_drew ?_ | refine blk_alloc ?_ _)); exact BK198.out)⟩; have n1_ : Aside0 (Below w.heap.size w w90) := ⟨by rw [← hq_]; exact (by repeat (first | (with_reducible first | exact HB.out | apply below_alloc | apply pw_below_drewN | apply below_drew1 | refine below_set ?_ GE198.out) | exact HB.out))⟩; clear BK198 HB hq_; have BK198 := n0_; have HB := n1_; clear n0_ n1_)); have hcz91_0 : w90.cell? ⟨gb198, 0, none⟩ = some (.int .i64 0) := (blk_cell BK198.out 0).trans rfl; have hcz91_1 : w90.cell? ⟨gb198, 1, none⟩ = some (.int .i64 0) := (blk_cell BK198.out 1).trans rfl; have hcz91_2 : w90.cell? ⟨gb198, 2, none⟩ = some (.slice none 0 0) := (blk_cell BK198.out 2).trans rfl; have hcz91_3 : w90.cell? ⟨gb198, 3, none⟩ = some (.int .i64 0) := (blk_cell BK198.out 3).trans rfl; have hfz91_0 := blk_frozen BK198.out 0; have hfz91_1 := blk_frozen BK198.out 1; have hfz91_2 := blk_frozen BK198.out 2; have hfz91_3 := blk_frozen BK198.out 3))
                      refine bodyPost_ret (results_cell_row rfl _ _ gb198 134 #[.int .i64 1, .int .i64 t241, .slice none 0 0, .int .i64 (wrap64 (a1 + t242))] (0, 0) _ rfl (by (with_reducible repeat (first | refine blk_drewN ?_ _ | refine blk_drew ?_ | refine blk_alloc ?_ _)); refine blk_put (cs := #[.int .i64 1, .int .i64 t241, .slice none 0 0, .int .i64 0]) ?_ 3 _ rfl; (with_reducible repeat (first | refine blk_drewN ?_ _ | refine blk_drew ?_ | refine blk_alloc ?_ _)); refine blk_put (cs := #[.int .i64 1, .int .i64 t241, .slice none 0 0, .int .i64 0]) ?_ 2 _ rfl; (with_reducible repeat (first | refine blk_drewN ?_ _ | refine blk_drew ?_ | refine blk_alloc ?_ _)); refine blk_put (cs := #[.int .i64 1, .int .i64 0, .slice none 0 0, .int .i64 0]) ?_ 1 _ rfl; (with_reducible repeat (first | refine blk_drewN ?_ _ | refine blk_drew ?_ | refine blk_alloc ?_ _)); refine blk_put (cs := #[.int .i64 0, .int .i64 0, .slice none 0 0, .int .i64 0]) ?_ 0 _ rfl; (with_reducible repeat (first | refine blk_drewN ?_ _ | refine blk_drew ?_ | refine blk_alloc ?_ _)); exact BK198.out) Tryd.underlying134 rfl (by kernel_rfl)) rfl ?_
                      exact ⟨_, by first | rfl | (simp [errW_none, errW_some] <;> rfl) | (simp [*, errW_none, errW_some] <;> rfl), by first | exact Kd.R_nil _ _ _ _ _ | exact Kd.N_nil _ _ _ _ _ | exact Kd.V_nil _ _ _ _ _ | exact Kd.Q_nil _ _ _ _ _ | exact Kd.S_nil _ _ _ _ _, by repeat (first | (with_reducible first | exact HB.out | apply below_alloc | apply pw_below_drewN | apply below_drew1 | refine below_set ?_ GE198.out) | exact HB.out)⟩
                    · replace c89 := Bool.eq_false_iff.mpr c89
                      subst c89
                      have H1 : ((sleuthref1_bad.f).bind fun bt250 => (some (bt250.1, bt250.2.1, bt250.2.2.1, bt250.2.2.2))) = some (r1, r2, r3, r4) := by rw [if_neg (show ¬ (false = true) by decide)] at H; exact H
                      clear H
                      have H := H1
                      clear H1
                      replace H := Option.bind_eq_some_iff.mp H
                      obtain ⟨⟨t250, t251, t252, t255⟩, A920, H⟩ := H
                      replace H : (some (t250, t251, t252, t255)) = some (r1, r2, r3, r4) := H
                      have A92 := Aside0.mk A920
                      clear A920
                      simp only [Option.some.injEq, Prod.mk.injEq] at H
                      obtain ⟨rfl, rfl, rfl, rfl⟩ := H
                      go_enter Tryd.func99, Tryd.ntmps99
                      go_wp2_with (first | ((with_reducible refine gate_dst (N := 4) rfl ?_); refine box_event ?hg (N := 4) ?hd (cs := #[.int .i64 0, .int .i64 0, .slice none 0 0, .int .i64 0]) (t := 134) ?hr ?_; (case hd => rfl); (case hg => rfl); (case hr => first | (go_simp; done) | (go_simp; rfl)); intro gb198 hg w93 hbox hb; have n0_ := Aside0.mk (below_step (by repeat (first | (with_reducible first | exact HB.out | apply below_alloc | apply pw_below_drewN | apply below_drew1) | exact HB.out)) hb); have n1_ := Aside0.mk (hbox); have n2_ := Aside0.mk ((by rw [hg]; exact (below_size (by repeat (first | (with_reducible first | exact HB.out | apply below_alloc | apply pw_below_drewN | apply below_drew1) | exact HB.out))) : w.heap.size ≤ gb198)); have n3_ := Aside0.mk ((by rw [hg]; exact (below_size (by repeat (first | (with_reducible first | exact HB.out | apply below_alloc | apply pw_below_drewN | apply below_drew1) | exact HB.out))) : w.heap.size ≤ gb198)); clear HB; have HB := n0_; have BK198 := n1_; have GW198 := n2_; have GE198 := n3_; clear n0_ n1_ n2_ n3_; clear hb hbox hg; have p11 : 0 ≤ (a1 : Int) := of_decide_eq_true (by first | (with_reducible assumption) | assumption); have q11 : a1 < (a0.size : Int) := of_decide_eq_true (by first | (with_reducible assumption) | assumption); have hx11 := bt_at a0 a1; replace p11 := eq_true p11; replace q11 := eq_true q11) | ((with_reducible refine gate_callee (f := 108) rfl ?_); refine goesL_ (some 106) rfl rfl Tryd.func108 (by kernel_rfl) rfl #[.string (a0.extract (a1 : Int).toNat a0.size)] rfl (by (try simp only [List.map_toArray, List.map_cons, List.map_nil]); first | done | rfl | (simp only [List.length_drop, List.length_take]; rfl)) ?_; (with_reducible refine (sleuthref1_digits.calls k (a0.extract (a1 : Int).toNat a0.size) t241 t242 _ A81.out).mono ?_); rintro e w' ⟨rfl, ⟨nd, rfl⟩⟩; refine ⟨_, rfl, ?_⟩; (try (rw [drewN_self w93]; generalize hq_ : World.drewN w93 _ = w93; have n0_ : Aside0 (w93.heap[gb198]? = some (.cells #[.int .i64 0, .int .i64 0, .slice none 0 0, .int .i64 0] 134 (0, 0))) := ⟨by rw [← hq_]; exact (by (with_reducible repeat (first | refine blk_drewN ?_ _ | refine blk_drew ?_ | refine blk_alloc ?_ _)); exact BK198.out)⟩; have n1_ : Aside0 (Below w.heap.size w w93) := ⟨by rw [← hq_]; exact (by repeat (first | (with_reducible first | exact HB.out | apply below_alloc | apply pw_below_drewN | apply below_drew1 | refine below_set ?_ GE198.out) | exact HB.out))⟩; clear BK198 HB hq_; have BK198 := n0_; have HB := n1_; clear n0_ n1_))) | (go_at_call 110; (with_reducible refine (sleuthref1_NumMay.calls t241 false _ A88.out).mono ?_); rintro e w' ⟨rfl, ⟨nd, rfl⟩⟩; (try (rw [drewN_self w93]; generalize hq_ : World.drewN w93 _ = w93; have n0_ : Aside0 (w93.heap[gb198]? = some (.cells #[.int .i64 0, .int .i64 0, .slice none 0 0, .int .i64 0] 134 (0, 0))) := ⟨by rw [← hq_]; exact (by (with_reducible repeat (first | refine blk_drewN ?_ _ | refine blk_drew ?_ | refine blk_alloc ?_ _)); exact BK198.out)⟩; have n1_ : Aside0 (Below w.heap.size w w93) := ⟨by rw [← hq_]; exact (by repeat (first | (with_reducible first | exact HB.out | apply below_alloc | apply pw_below_drewN | apply below_drew1 | refine below_set ?_ GE198.out) | exact HB.out))⟩; clear BK198 HB hq_; have BK198 := n0_; have HB := n1_; clear n0_ n1_))) | ((with_reducible refine gate_callee (f := 107) rfl ?_); refine goesL_ (some 116) rfl rfl Tryd.func107 (by kernel_rfl) rfl #[] rfl (by (try simp only [List.map_toArray, List.map_cons, List.map_nil]); first | done | rfl | (simp only [List.length_drop, List.length_take]; rfl)) ?_; (with_reducible refine (sleuthref1_bad.calls  t250 t251 t252 t255 _ A92.out).mono ?_); rintro e w94 ⟨v253, rfl, ho0, hb⟩; refine ⟨_, rfl, ?_⟩; have n0_ := Aside0.mk (Kd.R_lower ho0 (below_size (by repeat (first | (with_reducible first | exact HB.out | apply below_alloc | apply pw_below_drewN | apply below_drew1 | refine below_set ?_ GE198.out) | exact HB.out)))); have n1_ := Aside0.mk (blk_below (g := gb198) (o := .cells #[.int .i64 0, .int .i64 0, .slice none 0 0, .int .i64 0] 134 (0, 0)) (by (with_reducible repeat (first | refine blk_drewN ?_ _ | refine blk_drew ?_ | refine blk_alloc ?_ _)); exact BK198.out) hb); have n2_ := Aside0.mk (below_step (by repeat (first | (with_reducible first | exact HB.out | apply below_alloc | apply pw_below_drewN | apply below_drew1 | refine below_set ?_ GE198.out) | exact HB.out)) hb); clear BK198; clear HB; have HO254 := n0_; have BK198 := n1_; have HB := n2_; clear n0_ n1_ n2_; (try clear hb); (try clear hb2); (try clear hk); (try clear hi); (try clear ho0); have hcz95_0 : w94.cell? ⟨gb198, 0, none⟩ = some (.int .i64 0) := (blk_cell BK198.out 0).trans rfl; have hcz95_1 : w94.cell? ⟨gb198, 1, none⟩ = some (.int .i64 0) := (blk_cell BK198.out 1).trans rfl; have hcz95_2 : w94.cell? ⟨gb198, 2, none⟩ = some (.slice none 0 0) := (blk_cell BK198.out 2).trans rfl; have hcz95_3 : w94.cell? ⟨gb198, 3, none⟩ = some (.int .i64 0) := (blk_cell BK198.out 3).trans rfl; have hfz95_0 := blk_frozen BK198.out 0; have hfz95_1 := blk_frozen BK198.out 1; have hfz95_2 := blk_frozen BK198.out 2; have hfz95_3 := blk_frozen BK198.out 3; obtain ⟨Ao96, co96, eo96⟩ := Kd.R_slice HO254.out; subst eo96))
                      refine bodyPost_ret (results_cell_row rfl _ _ gb198 134 #[.int .i64 t250, .int .i64 t251, .slice Ao96 t252.length co96, .int .i64 t255] (0, 0) _ rfl (by (with_reducible repeat (first | refine blk_drewN ?_ _ | refine blk_drew ?_ | refine blk_alloc ?_ _)); refine blk_put (cs := #[.int .i64 t250, .int .i64 t251, .slice Ao96 t252.length co96, .int .i64 0]) ?_ 3 _ rfl; (with_reducible repeat (first | refine blk_drewN ?_ _ | refine blk_drew ?_ | refine blk_alloc ?_ _)); refine blk_put (cs := #[.int .i64 t250, .int .i64 t251, .slice none 0 0, .int .i64 0]) ?_ 2 _ rfl; (with_reducible repeat (first | refine blk_drewN ?_ _ | refine blk_drew ?_ | refine blk_alloc ?_ _)); refine blk_put (cs := #[.int .i64 t250, .int .i64 0, .slice none 0 0, .int .i64 0]) ?_ 1 _ rfl; (with_reducible repeat (first | refine blk_drewN ?_ _ | refine blk_drew ?_ | refine blk_alloc ?_ _)); refine blk_put (cs := #[.int .i64 0, .int .i64 0, .slice none 0 0, .int .i64 0]) ?_ 0 _ rfl; (with_reducible repeat (first | refine blk_drewN ?_ _ | refine blk_drew ?_ | refine blk_alloc ?_ _)); exact BK198.out) Tryd.underlying134 rfl (by kernel_rfl)) rfl ?_
                      exact ⟨_, by first | rfl | (simp [errW_none, errW_some] <;> rfl) | (simp [*, errW_none, errW_some] <;> rfl), by (with_reducible repeat (first | apply Kd.R_alloc | apply Kd.R_drewN | apply Kd.R_drew)); exact Kd.R_mono (Kd.R_far (p := ⟨gb198, 3, none⟩) (Kd.R_far (p := ⟨gb198, 2, none⟩) (Kd.R_far (p := ⟨gb198, 1, none⟩) (Kd.R_far (p := ⟨gb198, 0, none⟩) (Kd.R_types HO254.out BK198.out (by decide)) (fun _ hk => hk.2) (.int .i64 t250)) (fun _ hk => hk.2) (.int .i64 t251)) (fun _ hk => hk.2) (.slice Ao96 t252.length co96)) (fun _ hk => hk.2) (.int .i64 t255)) (fun _ hk => trivial), by repeat (first | (with_reducible first | exact HB.out | apply below_alloc | apply pw_below_drewN | apply below_drew1 | refine below_set ?_ GE198.out) | exact HB.out)⟩
                · rw [if_neg c80] at H
                  exact absurd H (by simp)
      · rw [if_neg c10] at H
        exact absurd H (by simp)
    · rw [if_neg c9] at H
      exact absurd H (by simp)

end Go.Proofs.YtkbaelhcijibiaaDoor.Px

/- Of each function of this text: a plain Lean function and a proof that the machine's call comes to its answers; printed by this session's program. -/
namespace Go.Proofs.YtkbaelhcijibiaaDoor.Px
open Go.RowKit Go.Proofs.YtkbaelhcijibiaaDoorW.PrintWords Go.Proofs.YtkbaelhcijibiaaDoorW.PrintLast Go.Proofs.YtkbaelhcijibiaaDoorW.PrintMore
attribute [local go_sem] max2_int min2_int max_two min_two max_three min_three max_four min_four   -- for this text's walks alone
set_option linter.unusedVariables false
set_option linter.unusedSimpArgs false

/-! ### sleuthref1_Cut: function 91 -/
def sleuthref1_Cut.f (k : Nat) (a0 : ByteArray) : Option (Int × Int × List ByteArray × Int) := if (a0.size : Int) > 1024 then (some (0, 0, ([] : List ByteArray), 200)) else ((sleuthref1_term.f k a0 0).bind fun bt256 => (if bt256.2.2.2 = (a0.size : Int) then (some (bt256.1, bt256.2.1, bt256.2.2.1, 0)) else (some (0, 0, ([] : List ByteArray), 200))))
theorem sleuthref1_Cut.mono : ∀ a0 k, LeO (sleuthref1_Cut.f k a0) (sleuthref1_Cut.f (k + 1) a0) := by
  intro a0 k
  unfold sleuthref1_Cut.f
  repeat' first
      | (with_reducible exact sleuthref1_term.mono _ _ _)
      | (with_reducible exact LeO.refl _)
      | (with_reducible exact LeO.none _)
      | (with_reducible refine LeO.ite ?_ ?_)
      | (with_reducible refine LeO.bind ?_ (fun _ => ?_))
      | exact sleuthref1_term.mono _ _ _
      | exact LeO.none _
      | refine LeO.ite ?_ ?_
      | refine LeO.bind ?_ (fun _ => ?_)
set_option maxHeartbeats 8000000 in
set_option maxRecDepth 100000 in
theorem sleuthref1_Cut.calls (k : Nat) (a0 : ByteArray) (r1 : Int) (r2 : Int) (r3 : List ByteArray) (r4 : Int) (w : World) (h : sleuthref1_Cut.f k a0 = some (r1, r2, r3, r4)) :
    Calls Tryd.prog 91 #[.string a0] w fun e w' => ∃ v2_ : Value, e = .returned (.tuple #[.int .i64 r1, .int .i64 r2, v2_, .int .i64 r4]) ∧ Kd.R Kd.string 9 w' w.heap.size (fun _ => True) v2_ r3 ∧ Below w.heap.size w w' := by
  have hu134 := Tryd.underlying134
  have HB := Aside0.mk (Below.refl w.heap.size w)
  have H : (if (a0.size : Int) > 1024 then (some (0, 0, ([] : List ByteArray), 200)) else ((sleuthref1_term.f k a0 0).bind fun bt256 => (if bt256.2.2.2 = (a0.size : Int) then (some (bt256.1, bt256.2.1, bt256.2.2.1, 0)) else (some (0, 0, ([] : List ByteArray), 200))))) = some (r1, r2, r3, r4) := h
  clear h
  by_cases c2 : (a0.size : Int) > 1024
  · rw [if_pos c2] at H
    have c2b0 : decide (1024 < (a0.size : Int)) = true := decide_eq_true c2
    have c2b1 : decide (1024 < a0.size) = true := decide_eq_true (by omega)
    clear c2
    simp only [Option.some.injEq, Prod.mk.injEq] at H
    obtain ⟨rfl, rfl, rfl, rfl⟩ := H
    go_enter Tryd.func91, Tryd.ntmps91
    go_wp2
    repeat (go_quiet (fail); try go_wp2)
    refine bodyPost_ret (results_list (rs := [.tmp 2, .tmp 3, .tmp 4, .tmp 5]) rfl (by simp) (.tmp (.tmp (.tmp (.tmp .nil))))) rfl ?_
    exact ⟨_, by first | rfl | (simp [errW_none, errW_some] <;> rfl) | (simp [*, errW_none, errW_some] <;> rfl), by first | exact Kd.R_nil _ _ _ _ _ | exact Kd.N_nil _ _ _ _ _ | exact Kd.V_nil _ _ _ _ _ | exact Kd.Q_nil _ _ _ _ _ | exact Kd.S_nil _ _ _ _ _, by repeat (first | (with_reducible first | exact HB.out | apply below_alloc | apply pw_below_drewN | apply below_drew1) | exact HB.out)⟩
  · rw [if_neg c2] at H
    have c2b0 : decide (1024 < (a0.size : Int)) = false := decide_eq_false c2
    have c2b1 : decide (1024 < a0.size) = false := decide_eq_false (by omega)
    clear c2
    replace H := Option.bind_eq_some_iff.mp H
    obtain ⟨⟨t256, t257, t258, t261⟩, A30, H⟩ := H
    replace H : (if t261 = (a0.size : Int) then (some (t256, t257, t258, 0)) else (some (0, 0, ([] : List ByteArray), 200))) = some (r1, r2, r3, r4) := H
    have A3 := Aside0.mk A30
    clear A30
    by_cases c4 : t261 = (a0.size : Int)
    · rw [if_pos c4] at H
      have c4b0 : (t261 == (a0.size : Int)) = true := beq_iff_eq.mpr c4
      have c4b1 : (t261 != (a0.size : Int)) = false := bne_eq_false_iff_eq.mpr c4
      clear c4
      simp only [Option.some.injEq, Prod.mk.injEq] at H
      obtain ⟨rfl, rfl, rfl, rfl⟩ := H
      go_enter Tryd.func91, Tryd.ntmps91
      go_wp2_with (first | (go_at_call 99; (with_reducible refine (sleuthref1_term.calls k a0 0 t256 t257 t258 t261 _ A3.out).mono ?_); rintro e w5 ⟨v259, rfl, ho0, hb⟩; have n0_ := Aside0.mk (Kd.R_lower ho0 (below_size (by repeat (first | (with_reducible first | exact HB.out | apply below_alloc | apply pw_below_drewN | apply below_drew1) | exact HB.out)))); have n1_ := Aside0.mk (below_step (by repeat (first | (with_reducible first | exact HB.out | apply below_alloc | apply pw_below_drewN | apply below_drew1) | exact HB.out)) hb); clear HB; have HO260 := n0_; have HB := n1_; clear n0_ n1_; (try clear hb); (try clear hb2); (try clear hk); (try clear hi); (try clear ho0)) | ((with_reducible refine gate_dst (N := 6) rfl ?_); refine box_event ?hg (N := 6) ?hd (cs := #[.int .i64 0, .int .i64 0, .slice none 0 0, .int .i64 0]) (t := 134) ?hr ?_; (case hd => rfl); (case hg => rfl); (case hr => first | (go_simp; done) | (go_simp; rfl)); intro gb262 hg w6 hbox hb; have n0_ := Aside0.mk (Kd.R_below (by (with_reducible repeat (first | apply Kd.R_alloc | apply Kd.R_drewN | apply Kd.R_drew)); exact HO260.out) hb); have n1_ := Aside0.mk (below_step (by repeat (first | (with_reducible first | exact HB.out | apply below_alloc | apply pw_below_drewN | apply below_drew1) | exact HB.out)) hb); have n2_ := Aside0.mk (hbox); have n3_ := Aside0.mk ((by rw [hg]; exact (below_size (by repeat (first | (with_reducible first | exact HB.out | apply below_alloc | apply pw_below_drewN | apply below_drew1) | exact HB.out))) : w.heap.size ≤ gb262)); have n4_ := Aside0.mk ((by rw [hg]; exact (below_size (by repeat (first | (with_reducible first | exact HB.out | apply below_alloc | apply pw_below_drewN | apply below_drew1) | exact HB.out))) : w.heap.size ≤ gb262)); clear HO260; clear HB; have HO260 := n0_; have HB := n1_; have BK262 := n2_; have GW262 := n3_; have GE262 := n4_; clear n0_ n1_ n2_ n3_ n4_; clear hb hbox hg; have hcz7_0 : w6.cell? ⟨gb262, 0, none⟩ = some (.int .i64 0) := (blk_cell BK262.out 0).trans rfl; have hcz7_1 : w6.cell? ⟨gb262, 1, none⟩ = some (.int .i64 0) := (blk_cell BK262.out 1).trans rfl; have hcz7_2 : w6.cell? ⟨gb262, 2, none⟩ = some (.slice none 0 0) := (blk_cell BK262.out 2).trans rfl; have hcz7_3 : w6.cell? ⟨gb262, 3, none⟩ = some (.int .i64 0) := (blk_cell BK262.out 3).trans rfl; have hfz7_0 := blk_frozen BK262.out 0; have hfz7_1 := blk_frozen BK262.out 1; have hfz7_2 := blk_frozen BK262.out 2; have hfz7_3 := blk_frozen BK262.out 3; obtain ⟨Ao8, co8, eo8⟩ := Kd.R_slice HO260.out; subst eo8))
      repeat (go_quiet (first | (go_at_call 99; (with_reducible refine (sleuthref1_term.calls k a0 0 t256 t257 t258 t261 _ A3.out).mono ?_); rintro e w5 ⟨v259, rfl, ho0, hb⟩; have n0_ := Aside0.mk (Kd.R_lower ho0 (below_size (by repeat (first | (with_reducible first | exact HB.out | apply below_alloc | apply pw_below_drewN | apply below_drew1) | exact HB.out)))); have n1_ := Aside0.mk (below_step (by repeat (first | (with_reducible first | exact HB.out | apply below_alloc | apply pw_below_drewN | apply below_drew1) | exact HB.out)) hb); clear HB; have HO260 := n0_; have HB := n1_; clear n0_ n1_; (try clear hb); (try clear hb2); (try clear hk); (try clear hi); (try clear ho0)) | ((with_reducible refine gate_dst (N := 6) rfl ?_); refine box_event ?hg (N := 6) ?hd (cs := #[.int .i64 0, .int .i64 0, .slice none 0 0, .int .i64 0]) (t := 134) ?hr ?_; (case hd => rfl); (case hg => rfl); (case hr => first | (go_simp; done) | (go_simp; rfl)); intro gb262 hg w6 hbox hb; have n0_ := Aside0.mk (Kd.R_below (by (with_reducible repeat (first | apply Kd.R_alloc | apply Kd.R_drewN | apply Kd.R_drew)); exact HO260.out) hb); have n1_ := Aside0.mk (below_step (by repeat (first | (with_reducible first | exact HB.out | apply below_alloc | apply pw_below_drewN | apply below_drew1) | exact HB.out)) hb); have n2_ := Aside0.mk (hbox); have n3_ := Aside0.mk ((by rw [hg]; exact (below_size (by repeat (first | (with_reducible first | exact HB.out | apply below_alloc | apply pw_below_drewN | apply below_drew1) | exact HB.out))) : w.heap.size ≤ gb262)); have n4_ := Aside0.mk ((by rw [hg]; exact (below_size (by repeat (first | (with_reducible first | exact HB.out | apply below_alloc | apply pw_below_drewN | apply below_drew1) | exact HB.out))) : w.heap.size ≤ gb262)); clear HO260; clear HB; have HO260 := n0_; have HB := n1_; have BK262 := n2_; have GW262 := n3_; have GE262 := n4_; clear n0_ n1_ n2_ n3_ n4_; clear hb hbox hg; have hcz7_0 : w6.cell? ⟨gb262, 0, none⟩ = some (.int .i64 0) := (blk_cell BK262.out 0).trans rfl; have hcz7_1 : w6.cell? ⟨gb262, 1, none⟩ = some (.int .i64 0) := (blk_cell BK262.out 1).trans rfl; have hcz7_2 : w6.cell? ⟨gb262, 2, none⟩ = some (.slice none 0 0) := (blk_cell BK262.out 2).trans rfl; have hcz7_3 : w6.cell? ⟨gb262, 3, none⟩ = some (.int .i64 0) := (blk_cell BK262.out 3).trans rfl; have hfz7_0 := blk_frozen BK262.out 0; have hfz7_1 := blk_frozen BK262.out 1; have hfz7_2 := blk_frozen BK262.out 2; have hfz7_3 := blk_frozen BK262.out 3; obtain ⟨Ao8, co8, eo8⟩ := Kd.R_slice HO260.out; subst eo8)); try go_wp2_with (first | (go_at_call 99; (with_reducible refine (sleuthref1_term.calls k a0 0 t256 t257 t258 t261 _ A3.out).mono ?_); rintro e w5 ⟨v259, rfl, ho0, hb⟩; have n0_ := Aside0.mk (Kd.R_lower ho0 (below_size (by repeat (first | (with_reducible first | exact HB.out | apply below_alloc | apply pw_below_drewN | apply below_drew1) | exact HB.out)))); have n1_ := Aside0.mk (below_step (by repeat (first | (with_reducible first | exact HB.out | apply below_alloc | apply pw_below_drewN | apply below_drew1) | exact HB.out)) hb); clear HB; have HO260 := n0_; have HB := n1_; clear n0_ n1_; (try clear hb); (try clear hb2); (try clear hk); (try clear hi); (try clear ho0)) | ((with_reducible refine gate_dst (N := 6) rfl ?_); refine box_event ?hg (N := 6) ?hd (cs := #[.int .i64 0, .int .i64 0, .slice none 0 0, .int .i64 0]) (t := 134) ?hr ?_; (case hd => rfl); (case hg => rfl); (case hr => first | (go_simp; done) | (go_simp; rfl)); intro gb262 hg w6 hbox hb; have n0_ := Aside0.mk (Kd.R_below (by (with_reducible repeat (first | apply Kd.R_alloc | apply Kd.R_drewN | apply Kd.R_drew)); exact HO260.out) hb); have n1_ := Aside0.mk (below_step (by repeat (first | (with_reducible first | exact HB.out | apply below_alloc | apply pw_below_drewN | apply below_drew1) | exact HB.out)) hb); have n2_ := Aside0.mk (hbox); have n3_ := Aside0.mk ((by rw [hg]; exact (below_size (by repeat (first | (with_reducible first | exact HB.out | apply below_alloc | apply pw_below_drewN | apply below_drew1) | exact HB.out))) : w.heap.size ≤ gb262)); have n4_ := Aside0.mk ((by rw [hg]; exact (below_size (by repeat (first | (with_reducible first | exact HB.out | apply below_alloc | apply pw_below_drewN | apply below_drew1) | exact HB.out))) : w.heap.size ≤ gb262)); clear HO260; clear HB; have HO260 := n0_; have HB := n1_; have BK262 := n2_; have GW262 := n3_; have GE262 := n4_; clear n0_ n1_ n2_ n3_ n4_; clear hb hbox hg; have hcz7_0 : w6.cell? ⟨gb262, 0, none⟩ = some (.int .i64 0) := (blk_cell BK262.out 0).trans rfl; have hcz7_1 : w6.cell? ⟨gb262, 1, none⟩ = some (.int .i64 0) := (blk_cell BK262.out 1).trans rfl; have hcz7_2 : w6.cell? ⟨gb262, 2, none⟩ = some (.slice none 0 0) := (blk_cell BK262.out 2).trans rfl; have hcz7_3 : w6.cell? ⟨gb262, 3, none⟩ = some (.int .i64 0) := (blk_cell BK262.out 3).trans rfl; have hfz7_0 := blk_frozen BK262.out 0; have hfz7_1 := blk_frozen BK262.out 1; have hfz7_2 := blk_frozen BK262.out 2; have hfz7_3 := blk_frozen BK262.out 3; obtain ⟨Ao8, co8, eo8⟩ := Kd.R_slice HO260.out; subst eo8)))
      refine bodyPost_ret (results_list (rs := [.tmp 2, .tmp 3, .tmp 4, .tmp 5]) rfl (by simp) (.tmp (.tmp (.tmp (.tmp .nil))))) rfl ?_
      exact ⟨_, by first | rfl | (simp [errW_none, errW_some] <;> rfl) | (simp [*, errW_none, errW_some] <;> rfl), by (with_reducible repeat (first | apply Kd.R_alloc | apply Kd.R_drewN | apply Kd.R_drew)); exact Kd.R_mono (Kd.R_far (p := ⟨gb262, 3, none⟩) (Kd.R_far (p := ⟨gb262, 2, none⟩) (Kd.R_far (p := ⟨gb262, 1, none⟩) (Kd.R_far (p := ⟨gb262, 0, none⟩) (Kd.R_types HO260.out BK262.out (by decide)) (fun _ hk => hk.2) (.int .i64 t256)) (fun _ hk => hk.2) (.int .i64 t257)) (fun _ hk => hk.2) (.slice Ao8 t258.length co8)) (fun _ hk => hk.2) (.int .i64 t261)) (fun _ hk => trivial), by repeat (first | (with_reducible first | exact HB.out | apply below_alloc | apply pw_below_drewN | apply below_drew1 | refine below_set ?_ GE262.out) | exact HB.out)⟩
    · rw [if_neg c4] at H
      have c4b0 : (t261 == (a0.size : Int)) = false := beq_eq_false_iff_ne.mpr c4
      have c4b1 : (t261 != (a0.size : Int)) = true := bne_iff_ne.mpr c4
      simp only [Option.some.injEq, Prod.mk.injEq] at H
      obtain ⟨rfl, rfl, rfl, rfl⟩ := H
      go_enter Tryd.func91, Tryd.ntmps91
      go_wp2_with (first | (go_at_call 99; (with_reducible refine (sleuthref1_term.calls k a0 0 t256 t257 t258 t261 _ A3.out).mono ?_); rintro e w9 ⟨v259, rfl, ho0, hb⟩; have n0_ := Aside0.mk (Kd.R_lower ho0 (below_size (by repeat (first | (with_reducible first | exact HB.out | apply below_alloc | apply pw_below_drewN | apply below_drew1) | exact HB.out)))); have n1_ := Aside0.mk (below_step (by repeat (first | (with_reducible first | exact HB.out | apply below_alloc | apply pw_below_drewN | apply below_drew1) | exact HB.out)) hb); clear HB; have HO260 := n0_; have HB := n1_; clear n0_ n1_; (try clear hb); (try clear hb2); (try clear hk); (try clear hi); (try clear ho0)) | ((with_reducible refine gate_dst (N := 6) rfl ?_); refine box_event ?hg (N := 6) ?hd (cs := #[.int .i64 0, .int .i64 0, .slice none 0 0, .int .i64 0]) (t := 134) ?hr ?_; (case hd => rfl); (case hg => rfl); (case hr => first | (go_simp; done) | (go_simp; rfl)); intro gb262 hg w10 hbox hb; have n0_ := Aside0.mk (Kd.R_below (by (with_reducible repeat (first | apply Kd.R_alloc | apply Kd.R_drewN | apply Kd.R_drew)); exact HO260.out) hb); have n1_ := Aside0.mk (below_step (by repeat (first | (with_reducible first | exact HB.out | apply below_alloc | apply pw_below_drewN | apply below_drew1) | exact HB.out)) hb); have n2_ := Aside0.mk (hbox); have n3_ := Aside0.mk ((by rw [hg]; exact (below_size (by repeat (first | (with_reducible first | exact HB.out | apply below_alloc | apply pw_below_drewN | apply below_drew1) | exact HB.out))) : w.heap.size ≤ gb262)); have n4_ := Aside0.mk ((by rw [hg]; exact (below_size (by repeat (first | (with_reducible first | exact HB.out | apply below_alloc | apply pw_below_drewN | apply below_drew1) | exact HB.out))) : w.heap.size ≤ gb262)); clear HO260; clear HB; have HO260 := n0_; have HB := n1_; have BK262 := n2_; have GW262 := n3_; have GE262 := n4_; clear n0_ n1_ n2_ n3_ n4_; clear hb hbox hg; have hcz11_0 : w10.cell? ⟨gb262, 0, none⟩ = some (.int .i64 0) := (blk_cell BK262.out 0).trans rfl; have hcz11_1 : w10.cell? ⟨gb262, 1, none⟩ = some (.int .i64 0) := (blk_cell BK262.out 1).trans rfl; have hcz11_2 : w10.cell? ⟨gb262, 2, none⟩ = some (.slice none 0 0) := (blk_cell BK262.out 2).trans rfl; have hcz11_3 : w10.cell? ⟨gb262, 3, none⟩ = some (.int .i64 0) := (blk_cell BK262.out 3).trans rfl; have hfz11_0 := blk_frozen BK262.out 0; have hfz11_1 := blk_frozen BK262.out 1; have hfz11_2 := blk_frozen BK262.out 2; have hfz11_3 := blk_frozen BK262.out 3; obtain ⟨Ao12, co12, eo12⟩ := Kd.R_slice HO260.out; subst eo12))
      repeat (go_quiet (first | (go_at_call 99; (with_reducible refine (sleuthref1_term.calls k a0 0 t256 t257 t258 t261 _ A3.out).mono ?_); rintro e w9 ⟨v259, rfl, ho0, hb⟩; have n0_ := Aside0.mk (Kd.R_lower ho0 (below_size (by repeat (first | (with_reducible first | exact HB.out | apply below_alloc | apply pw_below_drewN | apply below_drew1) | exact HB.out)))); have n1_ := Aside0.mk (below_step (by repeat (first | (with_reducible first | exact HB.out | apply below_alloc | apply pw_below_drewN | apply below_drew1) | exact HB.out)) hb); clear HB; have HO260 := n0_; have HB := n1_; clear n0_ n1_; (try clear hb); (try clear hb2); (try clear hk); (try clear hi); (try clear ho0)) | ((with_reducible refine gate_dst (N := 6) rfl ?_); refine box_event ?hg (N := 6) ?hd (cs := #[.int .i64 0, .int .i64 0, .slice none 0 0, .int .i64 0]) (t := 134) ?hr ?_; (case hd => rfl); (case hg => rfl); (case hr => first | (go_simp; done) | (go_simp; rfl)); intro gb262 hg w10 hbox hb; have n0_ := Aside0.mk (Kd.R_below (by (with_reducible repeat (first | apply Kd.R_alloc | apply Kd.R_drewN | apply Kd.R_drew)); exact HO260.out) hb); have n1_ := Aside0.mk (below_step (by repeat (first | (with_reducible first | exact HB.out | apply below_alloc | apply pw_below_drewN | apply below_drew1) | exact HB.out)) hb); have n2_ := Aside0.mk (hbox); have n3_ := Aside0.mk ((by rw [hg]; exact (below_size (by repeat (first | (with_reducible first | exact HB.out | apply below_alloc | apply pw_below_drewN | apply below_drew1) | exact HB.out))) : w.heap.size ≤ gb262)); have n4_ := Aside0.mk ((by rw [hg]; exact (below_size (by repeat (first | (with_reducible first | exact HB.out | apply below_alloc | apply pw_below_drewN | apply below_drew1) | exact HB.out))) : w.heap.size ≤ gb262)); clear HO260; clear HB; have HO260 := n0_; have HB := n1_; have BK262 := n2_; have GW262 := n3_; have GE262 := n4_; clear n0_ n1_ n2_ n3_ n4_; clear hb hbox hg; have hcz11_0 : w10.cell? ⟨gb262, 0, none⟩ = some (.int .i64 0) := (blk_cell BK262.out 0).trans rfl; have hcz11_1 : w10.cell? ⟨gb262, 1, none⟩ = some (.int .i64 0) := (blk_cell BK262.out 1).trans rfl; have hcz11_2 : w10.cell? ⟨gb262, 2, none⟩ = some (.slice none 0 0) := (blk_cell BK262.out 2).trans rfl; have hcz11_3 : w10.cell? ⟨gb262, 3, none⟩ = some (.int .i64 0) := (blk_cell BK262.out 3).trans rfl; have hfz11_0 := blk_frozen BK262.out 0; have hfz11_1 := blk_frozen BK262.out 1; have hfz11_2 := blk_frozen BK262.out 2; have hfz11_3 := blk_frozen BK262.out 3; obtain ⟨Ao12, co12, eo12⟩ := Kd.R_slice HO260.out; subst eo12)); try go_wp2_with (first | (go_at_call 99; (with_reducible refine (sleuthref1_term.calls k a0 0 t256 t257 t258 t261 _ A3.out).mono ?_); rintro e w9 ⟨v259, rfl, ho0, hb⟩; have n0_ := Aside0.mk (Kd.R_lower ho0 (below_size (by repeat (first | (with_reducible first | exact HB.out | apply below_alloc | apply pw_below_drewN | apply below_drew1) | exact HB.out)))); have n1_ := Aside0.mk (below_step (by repeat (first | (with_reducible first | exact HB.out | apply below_alloc | apply pw_below_drewN | apply below_drew1) | exact HB.out)) hb); clear HB; have HO260 := n0_; have HB := n1_; clear n0_ n1_; (try clear hb); (try clear hb2); (try clear hk); (try clear hi); (try clear ho0)) | ((with_reducible refine gate_dst (N := 6) rfl ?_); refine box_event ?hg (N := 6) ?hd (cs := #[.int .i64 0, .int .i64 0, .slice none 0 0, .int .i64 0]) (t := 134) ?hr ?_; (case hd => rfl); (case hg => rfl); (case hr => first | (go_simp; done) | (go_simp; rfl)); intro gb262 hg w10 hbox hb; have n0_ := Aside0.mk (Kd.R_below (by (with_reducible repeat (first | apply Kd.R_alloc | apply Kd.R_drewN | apply Kd.R_drew)); exact HO260.out) hb); have n1_ := Aside0.mk (below_step (by repeat (first | (with_reducible first | exact HB.out | apply below_alloc | apply pw_below_drewN | apply below_drew1) | exact HB.out)) hb); have n2_ := Aside0.mk (hbox); have n3_ := Aside0.mk ((by rw [hg]; exact (below_size (by repeat (first | (with_reducible first | exact HB.out | apply below_alloc | apply pw_below_drewN | apply below_drew1) | exact HB.out))) : w.heap.size ≤ gb262)); have n4_ := Aside0.mk ((by rw [hg]; exact (below_size (by repeat (first | (with_reducible first | exact HB.out | apply below_alloc | apply pw_below_drewN | apply below_drew1) | exact HB.out))) : w.heap.size ≤ gb262)); clear HO260; clear HB; have HO260 := n0_; have HB := n1_; have BK262 := n2_; have GW262 := n3_; have GE262 := n4_; clear n0_ n1_ n2_ n3_ n4_; clear hb hbox hg; have hcz11_0 : w10.cell? ⟨gb262, 0, none⟩ = some (.int .i64 0) := (blk_cell BK262.out 0).trans rfl; have hcz11_1 : w10.cell? ⟨gb262, 1, none⟩ = some (.int .i64 0) := (blk_cell BK262.out 1).trans rfl; have hcz11_2 : w10.cell? ⟨gb262, 2, none⟩ = some (.slice none 0 0) := (blk_cell BK262.out 2).trans rfl; have hcz11_3 : w10.cell? ⟨gb262, 3, none⟩ = some (.int .i64 0) := (blk_cell BK262.out 3).trans rfl; have hfz11_0 := blk_frozen BK262.out 0; have hfz11_1 := blk_frozen BK262.out 1; have hfz11_2 := blk_frozen BK262.out 2; have hfz11_3 := blk_frozen BK262.out 3; obtain ⟨Ao12, co12, eo12⟩ := Kd.R_slice HO260.out; subst eo12)))
      refine bodyPost_ret (results_list (rs := [.tmp 2, .tmp 3, .tmp 4, .tmp 5]) rfl (by simp) (.tmp (.tmp (.tmp (.tmp .nil))))) rfl ?_
      exact ⟨_, by first | rfl | (simp [errW_none, errW_some] <;> rfl) | (simp [*, errW_none, errW_some] <;> rfl), by first | exact Kd.R_nil _ _ _ _ _ | exact Kd.N_nil _ _ _ _ _ | exact Kd.V_nil _ _ _ _ _ | exact Kd.Q_nil _ _ _ _ _ | exact Kd.S_nil _ _ _ _ _, by repeat (first | (with_reducible first | exact HB.out | apply below_alloc | apply pw_below_drewN | apply below_drew1 | refine below_set ?_ GE262.out) | exact HB.out)⟩

end Go.Proofs.YtkbaelhcijibiaaDoor.Px

/- Of each function of this text: a plain Lean function and a proof that the machine's call comes to its answers; printed by this session's program. -/
namespace Go.Proofs.YtkbaelhcijibiaaDoor.Px
open Go.RowKit Go.Proofs.YtkbaelhcijibiaaDoorW.PrintWords Go.Proofs.YtkbaelhcijibiaaDoorW.PrintLast Go.Proofs.YtkbaelhcijibiaaDoorW.PrintMore
attribute [local go_sem] max2_int min2_int max_two min_two max_three min_three max_four min_four   -- for this text's walks alone
set_option linter.unusedVariables false
set_option linter.unusedSimpArgs false

/-! ### sleuthref1_TermMay: function 73 -/
def sleuthref1_TermMay.f (k : Nat) (a0 : ByteArray) : Option (Bool) := (sleuthref1_Cut.f k a0).bind fun bt263 => (some (bt263.2.2.2 == 0))
theorem sleuthref1_TermMay.mono : ∀ a0 k, LeO (sleuthref1_TermMay.f k a0) (sleuthref1_TermMay.f (k + 1) a0) := by
  intro a0 k
  unfold sleuthref1_TermMay.f
  repeat' first
      | (with_reducible exact sleuthref1_Cut.mono _ _)
      | (with_reducible exact LeO.refl _)
      | (with_reducible exact LeO.none _)
      | (with_reducible refine LeO.ite ?_ ?_)
      | (with_reducible refine LeO.bind ?_ (fun _ => ?_))
      | exact sleuthref1_Cut.mono _ _
      | exact LeO.none _
      | refine LeO.ite ?_ ?_
      | refine LeO.bind ?_ (fun _ => ?_)
set_option maxHeartbeats 8000000 in
set_option maxRecDepth 100000 in
theorem sleuthref1_TermMay.calls (k : Nat) (a0 : ByteArray) (r : Bool) (w : World) (h : sleuthref1_TermMay.f k a0 = some r) :
    Calls Tryd.prog 73 #[.string a0] w fun e w' => e = .returned (.bool r) ∧ Below w.heap.size w w' := by
  have HB := Aside0.mk (Below.refl w.heap.size w)
  have H : ((sleuthref1_Cut.f k a0).bind fun bt263 => (some (bt263.2.2.2 == 0))) = some r := h
  clear h
  replace H := Option.bind_eq_some_iff.mp H
  obtain ⟨⟨t263, t264, t265, t266⟩, A20, H⟩ := H
  replace H : (some (t266 == 0)) = some r := H
  have A2 := Aside0.mk A20
  clear A20
  obtain rfl := Option.some.inj H
  go_enter Tryd.func73, Tryd.ntmps73
  go_wp2_with (first | ((with_reducible refine gate_callee (f := 91) rfl ?_); refine goesL_ (some 9) rfl rfl Tryd.func91 (by kernel_rfl) rfl #[.string a0] rfl (by (try simp only [List.map_toArray, List.map_cons, List.map_nil]); first | done | rfl | (simp only [List.length_drop, List.length_take]; rfl)) ?_; (with_reducible refine (sleuthref1_Cut.calls k a0 t263 t264 t265 t266 _ A2.out).mono ?_); rintro e w3 ⟨v267, rfl, ho0, hb⟩; refine ⟨_, rfl, ?_⟩; have n0_ := Aside0.mk (Kd.R_lower ho0 (below_size (by repeat (first | (with_reducible first | exact HB.out | apply below_alloc | apply pw_below_drewN | apply below_drew1) | exact HB.out)))); have n1_ := Aside0.mk (below_step (by repeat (first | (with_reducible first | exact HB.out | apply below_alloc | apply pw_below_drewN | apply below_drew1) | exact HB.out)) hb); clear HB; have HO268 := n0_; have HB := n1_; clear n0_ n1_; (try clear hb); (try clear hb2); (try clear hk); (try clear hi); (try clear ho0)))
  go_ret
  exact ⟨by first | rfl | (simp [errW_none, errW_some] <;> rfl) | (simp [*, errW_none, errW_some] <;> rfl), by repeat (first | (with_reducible first | exact HB.out | apply below_alloc | apply pw_below_drewN | apply below_drew1) | exact HB.out)⟩

end Go.Proofs.YtkbaelhcijibiaaDoor.Px

/-
  Numerals: what both readers of a number tell of them.
-/
namespace Go.Proofs.YtkbaelhcijibiaaDoor.Px
open Go.RowKit Go.Proofs.YtkbaelhcijibiaaDoorW.PrintWords Go.Proofs.YtkbaelhcijibiaaDoorW.PrintLast Go.Proofs.YtkbaelhcijibiaaDoorW.PrintMore
set_option linter.unusedVariables false
set_option linter.unusedSimpArgs false

/-- The number that digits tell. -/
def valD (l : List UInt8) : Nat := l.foldl (fun a c => 10 * a + (c.toNat - 48)) 0
def isDg (c : UInt8) : Bool := decide (48 ≤ c.toNat) && decide (c.toNat ≤ 57)
theorem isDg_iff (c : UInt8) : isDg c = true ↔ 48 ≤ c.toNat ∧ c.toNat ≤ 57 := by simp [isDg]
theorem valD_snoc (l : List UInt8) (c : UInt8) : valD (l ++ [c]) = 10 * valD l + (c.toNat - 48) := by simp [valD]
theorem u8_of (d : UInt8) (h : isDg d = true) : UInt8.ofNat (48 + (d.toNat - 48)) = d := by
  rw [isDg_iff] at h
  rw [show 48 + (d.toNat - 48) = d.toNat by omega]
  simp
theorem snoc_of {α : Type} : ∀ (n : Nat) (l : List α), l.length = n + 1 → ∃ i d, l = i ++ [d] ∧ i.length = n
  | n, l, h => by
    have hne : l ≠ [] := by rintro rfl; simp at h
    exact ⟨l.dropLast, l.getLast hne, (List.dropLast_concat_getLast hne).symm, by simp [h]⟩
theorem valD_pos : ∀ (n : Nat) (l : List UInt8), l.length = n + 1 → l.all isDg = true → l.head? ≠ some 48 → 1 ≤ valD l
  | 0, l, h, ha, hh => by
    match l, h with
    | [d], _ =>
      simp only [List.all_cons, List.all_nil, Bool.and_true] at ha
      rw [isDg_iff] at ha
      have : d.toNat ≠ 48 := fun e => hh (by simp; exact UInt8.toNat_inj.1 e)
      simp only [valD, List.foldl]
      omega
  | n + 1, l, h, ha, hh => by
    obtain ⟨i, d, rfl, hi⟩ := snoc_of _ l h
    rw [List.all_append, Bool.and_eq_true] at ha
    have hh' : i.head? ≠ some 48 := by
      cases i with
      | nil => simp at hi
      | cons a i => simpa using hh
    have := valD_pos n i hi ha.1 hh'
    rw [valD_snoc]
    omega
theorem dec_val : ∀ (n : Nat) (l : List UInt8), l.length = n + 1 → l.all isDg = true → (n = 0 ∨ l.head? ≠ some 48) → Lib.decDigits (valD l) = l
  | 0, l, h, ha, _ => by
    match l, h with
    | [d], _ =>
      simp only [List.all_cons, List.all_nil, Bool.and_true] at ha
      have h1 := (isDg_iff d).1 ha
      rw [Lib.decDigits, dif_pos (by simp only [valD, List.foldl]; omega)]
      simp only [valD, List.foldl, Nat.mul_zero, Nat.zero_add]
      rw [u8_of d ha]
  | n + 1, l, h, ha, hh => by
    obtain ⟨i, d, rfl, hi⟩ := snoc_of _ l h
    rw [List.all_append, Bool.and_eq_true] at ha
    have hd : isDg d = true := by simpa using ha.2
    have h1 := (isDg_iff d).1 hd
    have hh' : i.head? ≠ some 48 := by
      cases i with
      | nil => simp at hi
      | cons a i => simpa using hh
    have hp := valD_pos n i hi ha.1 hh'
    have ih := dec_val n i hi ha.1 (.inr hh')
    rw [valD_snoc, Lib.decDigits, dif_neg (by omega), show (10 * valD i + (d.toNat - 48)) / 10 = valD i by omega, show (10 * valD i + (d.toNat - 48)) % 10 = d.toNat - 48 by omega, ih, u8_of d hd]
theorem dec_all (n : Nat) : (Lib.decDigits n).all isDg = true ∧ valD (Lib.decDigits n) = n ∧ Lib.decDigits n ≠ [] := by
  induction n using Nat.strongRecOn with
  | _ n ih =>
    by_cases h : n < 10
    · rw [Lib.decDigits, dif_pos h]
      have h2 : (UInt8.ofNat (48 + n)).toNat = 48 + n := by simp; omega
      refine ⟨?_, ?_, by simp⟩
      · simp only [List.all_cons, List.all_nil, Bool.and_true]
        rw [isDg_iff, h2]
        omega
      · simp only [valD, List.foldl, h2]
        omega
    · obtain ⟨h1, h2, h3⟩ := ih (n / 10) (by omega)
      rw [Lib.decDigits, dif_neg h]
      have h4 : (UInt8.ofNat (48 + n % 10)).toNat = 48 + n % 10 := by simp; omega
      refine ⟨?_, ?_, by simp⟩
      · rw [List.all_append, h1]
        simp only [List.all_cons, List.all_nil, Bool.and_true, Bool.true_and]
        rw [isDg_iff, h4]
        omega
      · rw [valD_snoc, h2, h4]
        omega
theorem dec_head (n : Nat) : 10 ≤ n → (Lib.decDigits n).head? ≠ some 48 := by
  induction n using Nat.strongRecOn with
  | _ n ih =>
    intro h
    rw [Lib.decDigits, dif_neg (by omega)]
    by_cases h2 : n / 10 < 10
    · rw [Lib.decDigits, dif_pos h2]
      have h4 : (UInt8.ofNat (48 + n / 10)).toNat = 48 + n / 10 := by simp; omega
      intro e
      simp only [List.cons_append, List.head?_cons, Option.some.injEq] at e
      rw [e] at h4
      simp at h4
      omega
    · have := ih (n / 10) (by omega) (by omega)
      have h5 := (dec_all (n / 10)).2.2
      cases hd : Lib.decDigits (n / 10) with
      | nil => exact absurd hd h5
      | cons a t => rw [hd] at this; simpa using this
theorem dec_len : ∀ (k n : Nat), n < 10 ^ (k + 1) → (Lib.decDigits n).length ≤ k + 1
  | 0, n, h => by rw [Lib.decDigits, dif_pos (by omega)]; simp
  | k + 1, n, h => by
    rw [Lib.decDigits]
    split
    · simp
    · have := dec_len k (n / 10) (by rw [Nat.pow_succ] at h; omega)
      simp
      omega
theorem dec_short (n : Nat) (h : n < 10) : (Lib.decDigits n).length = 1 := by rw [Lib.decDigits, dif_pos h]; rfl

/-! ### strconv's reading -/
theorem parse_digits : ∀ (l : List UInt8) (acc : Nat), l.all isDg = true → (acc + 1) * 10 ^ l.length ≤ 1000000000000000000 → Lib.parseUint10 acc l = .ok (l.foldl (fun a c => 10 * a + (c.toNat - 48)) acc)
  | [], acc, _, _ => rfl
  | c :: r, acc, ha, hb => by
    simp only [List.all_cons, Bool.and_eq_true] at ha
    have h1 := (isDg_iff c).1 ha.1
    have hp : 1 ≤ 10 ^ r.length := Nat.one_le_pow _ _ (by decide)
    rw [List.length_cons, Nat.pow_succ] at hb
    have hb2 : (10 * acc + (c.toNat - 48) + 1) * 10 ^ r.length ≤ 1000000000000000000 := by
      have h3 : (10 * acc + (c.toNat - 48) + 1) * 10 ^ r.length ≤ (10 * (acc + 1)) * 10 ^ r.length := Nat.mul_le_mul_right _ (by omega)
      have h4 : (10 * (acc + 1)) * 10 ^ r.length = (acc + 1) * (10 ^ r.length * 10) := by rw [Nat.mul_comm 10 (acc + 1), Nat.mul_assoc, Nat.mul_comm 10 (10 ^ r.length)]
      omega
    have hacc : acc + 1 ≤ 1000000000000000000 := by
      have : (acc + 1) * 1 ≤ (acc + 1) * (10 ^ r.length * 10) := Nat.mul_le_mul_left _ (by omega)
      omega
    have hacc2 : (10 * acc + (c.toNat - 48) + 1) * 1 ≤ (10 * acc + (c.toNat - 48) + 1) * 10 ^ r.length := Nat.mul_le_mul_left _ hp
    simp only [Lib.parseUint10, List.foldl_cons]
    rw [if_pos h1, if_neg (by omega), if_neg (by omega), show acc * 10 + (c.toNat - 48) = 10 * acc + (c.toNat - 48) by omega]
    exact parse_digits r _ ha.2 hb2
theorem parse_dec (n : Nat) (h : n < 1000000) : Lib.parseMag (Lib.decDigits n) = .ok n := by
  obtain ⟨h1, h2, h3⟩ := dec_all n
  have hl := dec_len 5 n (by omega)
  unfold Lib.parseMag
  rw [if_neg h3, parse_digits _ 0 h1 (by
    have : 10 ^ (Lib.decDigits n).length ≤ 10 ^ 6 := Nat.pow_le_pow_right (by decide) hl
    omega)]
  exact congrArg _ h2
theorem dec_cons (n : Nat) : ∃ c r, Lib.decDigits n = c :: r ∧ isDg c = true := by
  obtain ⟨h1, h2, h3⟩ := dec_all n
  cases hd : Lib.decDigits n with
  | nil => exact absurd hd h3
  | cons c r =>
    rw [hd] at h1
    simp only [List.all_cons, Bool.and_eq_true] at h1
    exact ⟨c, r, rfl, h1.1⟩
theorem atoi_dec (n : Nat) (h : n < 1000000) : Lib.atoiAll (Lib.decDigits n) = .ok (n : Int) := by
  obtain ⟨c, r, hd, hc⟩ := dec_cons n
  have h1 := (isDg_iff c).1 hc
  have hp := parse_dec n h
  rw [hd] at hp ⊢
  rw [Lib.atoiAll_plain c r (by omega) (by omega), hp]
  simp only [Lib.signless]
  rw [if_neg (by omega)]
theorem atoi_neg (n : Nat) (h : n < 1000000) : Lib.atoiAll (45 :: Lib.decDigits n) = .ok (-(n : Int)) := by
  rw [Lib.atoiAll_minus, parse_dec n h]
  simp only [Lib.signed]
  rw [if_neg (by omega)]

/-- A numeral that a term may be. -/
def Numeral (l : List UInt8) : Prop := ∃ n : Nat, (n ≤ 32767 ∧ l = Lib.decDigits n) ∨ (1 ≤ n ∧ n ≤ 32768 ∧ l = 45 :: Lib.decDigits n)
theorem number_iff (w : ByteArray) : numberOk w = true ↔ Numeral w.data.toList := by
  unfold numberOk atoiOk atoiNum
  constructor
  · intro h
    simp only [Bool.and_eq_true, decide_eq_true_eq, beq_iff_eq] at h
    obtain ⟨h1, h2, h3⟩ := h
    cases hv : Lib.atoiAll w.data.toList with
    | ok v =>
      rw [hv] at h2 h3
      simp only at h2 h3
      unfold Lib.itoa at h3
      by_cases hn : v < 0
      · rw [if_pos hn] at h3
        exact ⟨v.natAbs, .inr ⟨by omega, by omega, h3.symm⟩⟩
      · rw [if_neg hn] at h3
        exact ⟨v.toNat, .inl ⟨by omega, h3.symm⟩⟩
    | _ => rw [hv] at h1; simp at h1
  · rintro ⟨n, ⟨h1, h2⟩ | ⟨h0, h1, h2⟩⟩
    · rw [h2, atoi_dec n (by omega)]
      simp only [Bool.and_eq_true, decide_eq_true_eq, beq_iff_eq, true_and]
      refine ⟨by omega, ?_⟩
      unfold Lib.itoa
      rw [if_neg (by omega), Int.toNat_natCast]
    · rw [h2, atoi_neg n (by omega)]
      simp only [Bool.and_eq_true, decide_eq_true_eq, beq_iff_eq, true_and]
      refine ⟨by omega, ?_⟩
      unfold Lib.itoa
      rw [if_pos (by omega), Int.natAbs_neg, Int.natAbs_natCast]
theorem digits_iff (w : ByteArray) : digitsOk w 99 = true ↔ ∃ n : Nat, n ≤ 99 ∧ w.data.toList = Lib.decDigits n := by
  unfold digitsOk atoiOk atoiNum
  constructor
  · intro h
    simp only [Bool.and_eq_true, decide_eq_true_eq, beq_iff_eq] at h
    obtain ⟨h1, h2, h3, h4⟩ := h
    cases hv : Lib.atoiAll w.data.toList with
    | ok v =>
      rw [hv] at h2 h3 h4
      simp only at h2 h3 h4
      unfold Lib.itoa at h4
      rw [if_neg (by omega)] at h4
      exact ⟨v.toNat, by omega, h4.symm⟩
    | _ => rw [hv] at h1; simp at h1
  · rintro ⟨n, h1, h2⟩
    rw [h2, atoi_dec n (by omega)]
    simp only [Bool.and_eq_true, decide_eq_true_eq, beq_iff_eq, true_and]
    refine ⟨by omega, by omega, ?_⟩
    unfold Lib.itoa
    rw [if_neg (by omega), Int.toNat_natCast]
end Go.Proofs.YtkbaelhcijibiaaDoor.Px

/-
  The words of a term, and the reference's reading of digits, on lists of bytes.
-/
namespace Go.Proofs.YtkbaelhcijibiaaDoor.Px
open Go.RowKit Go.Proofs.YtkbaelhcijibiaaDoorW.PrintWords Go.Proofs.YtkbaelhcijibiaaDoorW.PrintLast Go.Proofs.YtkbaelhcijibiaaDoorW.PrintMore
set_option linter.unusedVariables false
set_option linter.unusedSimpArgs false

/-- A text's bytes. -/
def bys (s : ByteArray) : List UInt8 := s.data.toList
theorem bys_size (s : ByteArray) : s.size = (bys s).length := bsizeT s where
  bsizeT (t : ByteArray) : t.size = t.data.toList.length := by rw [Array.length_toList]; rfl
theorem bys_extract (s : ByteArray) (a b : Nat) : bys (s.extract a b) = ((bys s).take b).drop a := by
  unfold bys
  rw [ByteArray.data_extract, Array.toList_extract, List.extract_eq_take_drop, List.drop_take]
theorem bys_from (s : ByteArray) (a : Nat) : bys (s.extract a s.size) = (bys s).drop a := by
  rw [bys_extract, bys_size, List.take_of_length_le (Nat.le_refl _)]
theorem bys_to (s : ByteArray) (b : Nat) : bys (s.extract 0 b) = (bys s).take b := by rw [bys_extract]; rfl
theorem bys_inj {a b : ByteArray} (h : bys a = bys b) : a = b := ByteArray.ext (Array.toList_inj.1 h)
theorem toList_bys (s : ByteArray) : s.toList = bys s := Lib.toList_data s
theorem bt_bys (s : ByteArray) (i : Nat) (h : i < (bys s).length) : bt s (i : Int) = (((bys s)[i]).toNat : Int) := by
  unfold bt
  rw [dif_pos (by rw [Int.toNat_natCast, bys_size]; exact h)]
  rfl

/-- Does a byte end a word? -/
def isCl (c : UInt8) : Bool := Lib.indexAny [c] cl3 == 0
theorem isCl_iff (c : UInt8) : isCl c = true ↔ c = 32 ∨ c = 40 ∨ c = 41 := by
  unfold isCl Lib.indexAny cl3
  by_cases h : [32, 40, 41].contains c = true
  · rw [if_pos h]
    simp at h
    simp [h]
  · rw [if_neg h]
    simp only [Lib.indexAny]
    simp at h
    simp [h]
/-- Nothing follows, or what ends a word. -/
def Bnd (v : List UInt8) : Prop := ∀ c, v.head? = some c → isCl c = true
theorem bnd_nil : Bnd [] := fun c h => by cases h
theorem dg_not_cl {c : UInt8} (h : isDg c = true) : isCl c = false := by
  rw [isDg_iff] at h
  rw [Bool.eq_false_iff]
  intro e
  rw [isCl_iff] at e
  rcases e with rfl | rfl | rfl <;> simp at h
theorem dec_not_cl (n : Nat) : (Lib.decDigits n).all (fun c => !isCl c) = true := by
  rw [List.all_eq_true]
  intro c hc
  have := List.all_eq_true.1 (dec_all n).1 c hc
  rw [dg_not_cl this]
  rfl
/-- How long a text's first word is. -/
def wlen (l : List UInt8) : Nat := if Lib.indexAny l cl3 < 0 then l.length else (Lib.indexAny l cl3).toNat
theorem wlen_end (s : ByteArray) : wordEnd s = wlen (bys s) := by unfold wordEnd wlen; rw [bys_size]; rfl
theorem wlen_nil : wlen [] = 0 := rfl
theorem wlen_cons (c : UInt8) (l : List UInt8) : wlen (c :: l) = if isCl c = true then 0 else wlen l + 1 := by
  have h2 := Lib.indexAny_ge cl3 l
  unfold wlen
  by_cases h : cl3.contains c = true
  · have e : isCl c = true := by unfold isCl Lib.indexAny; rw [if_pos h]; rfl
    have e2 : Lib.indexAny (c :: l) cl3 = 0 := by rw [Lib.indexAny, if_pos h]
    rw [if_pos e, e2]
    rfl
  · have e : ¬ isCl c = true := by unfold isCl Lib.indexAny; rw [if_neg h]; simp [Lib.indexAny]
    rw [if_neg e]
    by_cases h3 : Lib.indexAny l cl3 = -1
    · have e2 : Lib.indexAny (c :: l) cl3 = -1 := by rw [Lib.indexAny, if_neg h, if_pos (by rw [h3]; rfl)]
      rw [e2, h3]
      simp
    · have e2 : Lib.indexAny (c :: l) cl3 = Lib.indexAny l cl3 + 1 := by rw [Lib.indexAny, if_neg h, if_neg (by simpa using h3)]
      rw [e2, if_neg (by omega), if_neg (by omega)]
      omega
theorem wlen_spec : ∀ l : List UInt8, wlen l ≤ l.length ∧ (l.take (wlen l)).all (fun c => !isCl c) = true ∧ Bnd (l.drop (wlen l))
  | [] => ⟨Nat.le_refl _, rfl, bnd_nil⟩
  | c :: l => by
    obtain ⟨h1, h2, h3⟩ := wlen_spec l
    rw [wlen_cons]
    by_cases h : isCl c = true
    · rw [if_pos h]
      exact ⟨Nat.zero_le _, rfl, fun d hd => by simp at hd; rw [← hd]; exact h⟩
    · rw [if_neg h]
      refine ⟨by simp; exact h1, ?_, by simpa using h3⟩
      rw [List.take_succ_cons, List.all_cons, h2]
      simpa using h
theorem wlen_unique : ∀ (a v : List UInt8), a.all (fun c => !isCl c) = true → Bnd v → wlen (a ++ v) = a.length
  | [], v, _, hv => by
    cases v with
    | nil => rfl
    | cons c v => rw [List.nil_append, wlen_cons, if_pos (hv c rfl)]; rfl
  | c :: a, v, ha, hv => by
    simp only [List.all_cons, Bool.and_eq_true] at ha
    have h : ¬ isCl c = true := by have := ha.1; simpa using this
    rw [List.cons_append, wlen_cons, if_neg h, wlen_unique a v ha.2 hv]
    rfl
/-- The first word. -/
def wrd (l : List UInt8) : List UInt8 := l.take (wlen l)
def rst (l : List UInt8) : List UInt8 := l.drop (wlen l)
theorem wrd_rst (l : List UInt8) : wrd l ++ rst l = l := List.take_append_drop _ _
theorem wrd_unique {a v : List UInt8} (ha : a.all (fun c => !isCl c) = true) (hv : Bnd v) : wrd (a ++ v) = a ∧ rst (a ++ v) = v := by
  unfold wrd rst
  rw [wlen_unique a v ha hv]
  exact ⟨List.take_left' rfl, List.drop_left' rfl⟩

/-! ### the reference's digits -/
theorem valD_bound : ∀ (j : Nat) (l : List UInt8), l.length ≤ j → l.all isDg = true → valD l < 10 ^ j
  | 0, l, hl, _ => by have : l = [] := List.length_eq_zero_iff.1 (by omega); subst this; decide
  | j + 1, l, hl, ha => by
    cases hl0 : l.length with
    | zero => have : l = [] := List.length_eq_zero_iff.1 hl0; subst this; exact Nat.lt_of_lt_of_le (by decide) (Nat.one_le_pow (j + 1) 10 (by decide))
    | succ n =>
      obtain ⟨i, e, rfl, hi⟩ := snoc_of n l hl0
      rw [List.all_append, Bool.and_eq_true] at ha
      have h5 := valD_bound j i (by omega) ha.1
      have h6 : isDg e = true := by simpa using ha.2
      rw [isDg_iff] at h6
      rw [valD_snoc, Nat.pow_succ]
      omega
theorem valD_lt (l : List UInt8) (h : l.length ≤ 6) (ha : l.all isDg = true) : valD l < 1000000 := valD_bound 6 l h ha
theorem step_val (v c : Nat) (hv : v < 1000000) (h1 : 48 ≤ c) (h2 : c ≤ 57) : wrap64 (wrap64 (10 * (v : Int)) + (((c : Int) - 48) % 256)) = ((10 * v + (c - 48) : Nat) : Int) := by
  unfold wrap64
  omega
/-- Where the reference's digits end. -/
structure DigEnd (l : List UInt8) (m : Nat) : Prop where
  le : m ≤ l.length
  six : m ≤ 6
  all : (l.take m).all isDg = true
  head : 2 ≤ m → l.head? ≠ some 48
  stop : m = l.length ∨ m = 6 ∨ (∃ c, (l.drop m).head? = some c ∧ isDg c = false) ∨ (1 ≤ m ∧ l.head? = some 48)
/-- One look. -/
theorem dig_round (s : ByteArray) (hs : s.size ≤ 1000000000) (k m : Nat) (hm : m ≤ 5) (hml : m ≤ (bys s).length) (hall : ((bys s).take m).all isDg = true) :
    (sleuthref1_digits.l0 (k + 1) s (valD ((bys s).take m) : Int) (m : Int) = some ((valD ((bys s).take m) : Int), (m : Int)) ∧ (m = (bys s).length ∨ (∃ c, ((bys s).drop m).head? = some c ∧ isDg c = false) ∨ (1 ≤ m ∧ (bys s).head? = some 48))) ∨
    (sleuthref1_digits.l0 (k + 1) s (valD ((bys s).take m) : Int) (m : Int) = sleuthref1_digits.l0 k s (valD ((bys s).take (m + 1)) : Int) ((m + 1 : Nat) : Int) ∧ m + 1 ≤ (bys s).length ∧ ((bys s).take (m + 1)).all isDg = true ∧ (1 ≤ m → (bys s).head? ≠ some 48)) := by
  have hsz := bys_size s
  rw [sleuthref1_digits.l0]
  by_cases h1 : (m : Int) < (s.size : Int)
  · have hml2 : m < (bys s).length := by omega
    have hb := bt_bys s m hml2
    have hdrop : ((bys s).drop m).head? = some (bys s)[m] := by rw [List.head?_drop]; exact List.getElem?_eq_getElem hml2
    generalize hc : (bys s)[m] = c at hb hdrop
    rw [if_pos h1, if_pos (by omega), if_pos (by omega), hb]
    by_cases h3 : (c.toNat : Int) ≥ 48
    · rw [if_pos h3]
      by_cases h4 : (c.toNat : Int) ≤ 57
      · rw [if_pos h4]
        have hdg : isDg c = true := by rw [isDg_iff]; omega
        have htake : (bys s).take (m + 1) = (bys s).take m ++ [c] := by rw [List.take_succ_eq_append_getElem hml2, hc]
        have hbd := valD_lt ((bys s).take m) (by rw [List.length_take]; omega) hall
        have hall2 : ((bys s).take (m + 1)).all isDg = true := by rw [htake, List.all_append, hall]; simp [hdg]
        rw [step_val _ _ hbd (by omega) (by omega), ← valD_snoc, ← htake, show wrap64 ((m : Int) + 1) = ((m + 1 : Nat) : Int) by rw [wrap64_of (by omega) (by omega)]; omega]
        by_cases h5 : (m : Int) = 0
        · rw [if_pos h5]
          exact .inr ⟨rfl, hml2, hall2, fun h => by omega⟩
        · rw [if_neg h5, if_pos (by omega)]
          have h0 : 0 < (bys s).length := by omega
          have hb0 : bt s 0 = (((bys s)[0]).toNat : Int) := bt_bys s 0 h0
          have hhd : (bys s).head? = some (bys s)[0] := by rw [List.head?_eq_getElem?]; exact List.getElem?_eq_getElem h0
          obtain ⟨z, hz⟩ : ∃ z, z = (bys s)[0] := ⟨_, rfl⟩
          rw [← hz] at hb0 hhd
          by_cases h6 : bt s 0 = 48
          · rw [if_pos h6]
            refine .inl ⟨rfl, .inr (.inr ⟨by omega, ?_⟩)⟩
            rw [hhd]
            rw [hb0] at h6
            exact congrArg some (UInt8.toNat_inj.1 (show z.toNat = 48 by omega))
          · rw [if_neg h6]
            refine .inr ⟨rfl, hml2, hall2, fun _ e => h6 ?_⟩
            rw [hhd] at e
            rw [hb0, Option.some.inj e]
            rfl
      · rw [if_neg h4]
        refine .inl ⟨rfl, .inr (.inl ⟨c, hdrop, ?_⟩)⟩
        rw [Bool.eq_false_iff]
        intro e
        rw [isDg_iff] at e
        omega
    · rw [if_neg h3]
      refine .inl ⟨rfl, .inr (.inl ⟨c, hdrop, ?_⟩)⟩
      rw [Bool.eq_false_iff]
      intro e
      rw [isDg_iff] at e
      omega
  · rw [if_neg h1]
    exact .inl ⟨rfl, .inl (by omega)⟩
theorem digits_l0 (s : ByteArray) (hs : s.size ≤ 1000000000) : ∀ (d k m : Nat), m + d = 6 → d < k → m ≤ (bys s).length → ((bys s).take m).all isDg = true → (2 ≤ m → (bys s).head? ≠ some 48) →
    ∃ m', sleuthref1_digits.l0 k s (valD ((bys s).take m) : Int) (m : Int) = some ((valD ((bys s).take m') : Int), (m' : Int)) ∧ DigEnd (bys s) m'
  | 0, k, m, hm, hk, hml, hall, hh => by
    obtain ⟨k, rfl⟩ : ∃ j, k = j + 1 := ⟨k - 1, by omega⟩
    refine ⟨m, ?_, ⟨hml, by omega, hall, hh, .inr (.inl (by omega))⟩⟩
    rw [sleuthref1_digits.l0]
    split
    · rw [if_neg (by omega)]
    · rfl
  | d + 1, k, m, hm, hk, hml, hall, hh => by
    obtain ⟨k, rfl⟩ : ∃ j, k = j + 1 := ⟨k - 1, by omega⟩
    rcases dig_round s hs k m (by omega) hml hall with ⟨h1, h2⟩ | ⟨h1, h2, h3, h4⟩
    · refine ⟨m, h1, ⟨hml, by omega, hall, hh, ?_⟩⟩
      rcases h2 with h2 | h2
      · exact .inl h2
      · exact .inr (.inr h2)
    · rw [h1]
      exact digits_l0 s hs d k (m + 1) (by omega) (by omega) h2 h3 (fun h => h4 (by omega))
theorem digits_f (s : ByteArray) (hs : s.size ≤ 1000000000) (k : Nat) (hk : 7 ≤ k) : ∃ m, sleuthref1_digits.f k s = some ((valD ((bys s).take m) : Int), (m : Int)) ∧ DigEnd (bys s) m := by
  unfold sleuthref1_digits.f
  exact digits_l0 s hs 6 k 0 (by omega) (by omega) (Nat.zero_le _) rfl (fun h => by omega)
/-- What was read is the number's own numeral. -/
theorem dig_back {l : List UInt8} {m : Nat} (h : DigEnd l m) (hm : 0 < m) : l.take m = Lib.decDigits (valD (l.take m)) := by
  have hlen : (l.take m).length = (m - 1) + 1 := by rw [List.length_take]; have := h.le; omega
  refine (dec_val (m - 1) (l.take m) hlen h.all ?_).symm
  by_cases h2 : 2 ≤ m
  · right
    have := h.head h2
    cases l with
    | nil => simp
    | cons a t =>
      obtain ⟨j, rfl⟩ : ∃ j, m = j + 1 := ⟨m - 1, by omega⟩
      simpa using this
  · left; omega
/-- A numeral that stands ahead of what ends a word is read whole. -/
theorem dig_fwd {n : Nat} {v : List UInt8} {m : Nat} (hn : n ≤ 99999) (hv : Bnd v) (h : DigEnd (Lib.decDigits n ++ v) m) : m = (Lib.decDigits n).length := by
  obtain ⟨h1, h2, h3⟩ := dec_all n
  have hl := dec_len 4 n (by omega)
  have hpos : 0 < (Lib.decDigits n).length := by cases hd : Lib.decDigits n with | nil => exact absurd hd h3 | cons a t => simp
  have hge : (Lib.decDigits n).length ≤ m := by
    apply Nat.le_of_not_lt
    intro hlt
    rcases h.stop with e | e | ⟨c, hc, hd⟩ | ⟨e, hh⟩
    · rw [List.length_append] at e; omega
    · omega
    · rw [List.drop_append_of_le_length (by omega), List.head?_append, List.head?_drop, List.getElem?_eq_getElem hlt] at hc
      simp only [Option.some_or, Option.some.injEq] at hc
      have := List.all_eq_true.1 h1 _ (List.getElem_mem hlt)
      rw [hc, hd] at this
      cases this
    · by_cases h10 : n < 10
      · have := dec_short n h10; omega
      · refine dec_head n (by omega) ?_
        rw [List.head?_append] at hh
        cases hd : Lib.decDigits n with
        | nil => exact absurd hd h3
        | cons a t => rw [hd] at hh; simpa using hh
  have hle : m ≤ (Lib.decDigits n).length := by
    apply Nat.le_of_not_lt
    intro hlt
    have hm := h.le
    rw [List.length_append] at hm
    have hv0 : 0 < v.length := by omega
    cases v with
    | nil => simp at hv0
    | cons c v =>
      have hcl := hv c rfl
      have hmem : c ∈ (Lib.decDigits n ++ c :: v).take m := by
        rw [List.take_append, List.mem_append]
        right
        obtain ⟨j, hj⟩ : ∃ j, m - (Lib.decDigits n).length = j + 1 := ⟨m - (Lib.decDigits n).length - 1, by omega⟩
        rw [hj, List.take_succ_cons]
        exact List.mem_cons_self
      have := List.all_eq_true.1 h.all c hmem
      rw [dg_not_cl this] at hcl
      cases hcl
  omega
end Go.Proofs.YtkbaelhcijibiaaDoor.Px

/-
  Both readers of a constructor's parts agree, where their readers of a term do.
-/
namespace Go.Proofs.YtkbaelhcijibiaaDoor.Px
open Go.RowKit Go.Proofs.YtkbaelhcijibiaaDoorW.PrintWords Go.Proofs.YtkbaelhcijibiaaDoorW.PrintLast Go.Proofs.YtkbaelhcijibiaaDoorW.PrintMore
set_option linter.unusedVariables false
set_option linter.unusedSimpArgs false

theorem one_size (c : UInt8) : (⟨#[c]⟩ : ByteArray).size = 1 := rfl
theorem hp_is (s : ByteArray) (c : UInt8) : strings_HasPrefix.f s ⟨#[c]⟩ = some (decide ((bys s).head? = some c)) := by
  have hsz := bys_size s
  unfold strings_HasPrefix.f stringslite_HasPrefix.f
  rw [one_size]
  by_cases h : (s.size : Int) ≥ ((1 : Nat) : Int)
  · rw [if_pos h, if_pos (by omega), if_pos (by omega)]
    simp only [Option.bind_some]
    rw [toList_bys, toList_bys, show (((1 : Nat) : Int)).toNat = 1 from rfl, bys_to, show bys (⟨#[c]⟩ : ByteArray) = [c] from rfl]
    cases hb : bys s with
    | nil => rw [hb, List.length_nil] at hsz; omega
    | cons a t =>
      simp only [List.take_succ_cons, List.take_zero, List.head?_cons, Option.some.injEq]
      congr 1
      by_cases e : a = c <;> simp [e]
  · rw [if_neg h]
    simp only [Option.bind_some]
    have : bys s = [] := List.length_eq_zero_iff.1 (by omega)
    rw [this]
    rfl
theorem cp_is (s : ByteArray) (c : UInt8) : strings_CutPrefix.f s ⟨#[c]⟩ = some (if (bys s).head? = some c then (s.extract 1 s.size, true) else (s, false)) := by
  have hsz := bys_size s
  have h0 := hp_is s c
  unfold strings_HasPrefix.f at h0
  have h1 : stringslite_HasPrefix.f s ⟨#[c]⟩ = some (decide ((bys s).head? = some c)) := by
    cases h2 : stringslite_HasPrefix.f s ⟨#[c]⟩ with
    | none => rw [h2] at h0; cases h0
    | some t => rw [h2] at h0; exact h0
  unfold strings_CutPrefix.f stringslite_CutPrefix.f
  rw [h1]
  simp only [Option.bind_some]
  by_cases h : (bys s).head? = some c
  · have hpos : 1 ≤ (bys s).length := by cases hb : bys s with | nil => rw [hb] at h; cases h | cons a t => simp
    rw [decide_eq_true h, if_pos rfl, one_size, if_pos (by omega), if_pos (by omega), if_pos h]
    rfl
  · rw [decide_eq_false h, if_neg (by simp), if_neg h]
    rfl

/-- What a cutter's answer leaves behind; nothing, if it took no term. -/
def beh (r : Int × Int × List ByteArray × ByteArray × Bool) : Option (List UInt8) := if r.2.2.2.2 = true then some (bys r.2.2.2.1) else none
/-- How the reference's reader ends. -/
def Out (s : ByteArray) (at_ : Nat) (res : Option (Int × Int × List ByteArray × Int)) : Option (List UInt8) → Prop
  | none => ∃ a b c, res = some (a, b, c, -1)
  | some v => ∃ a b c m, res = some (a, b, c, ((m : Nat) : Int)) ∧ at_ < m ∧ m ≤ (bys s).length ∧ v = (bys s).drop m
/-- Both read alike, but that the reference may end within a word. -/
def Alike (p q : Option (List UInt8)) : Prop := p = q ∨ (p = none ∧ ∃ v, q = some v ∧ ¬ Bnd v)

set_option maxHeartbeats 1000000 in
theorem parts_alike (s : ByteArray) (hs : s.size ≤ 1000000000) (T_ : ByteArray → Int → Option (Int × Int × List ByteArray × Int)) (n K : Nat)
    (HT : ∀ (a : Nat) (u : ByteArray) (k : Nat), a ≤ (bys s).length → bys u = (bys s).drop a → u.size ≤ n → K ≤ k → ∃ p q, (∃ r, term_cut.f k u = some r ∧ beh r = p) ∧ Out s a (T_ s (a : Int)) q ∧ Alike p q) :
    ∀ (j : Nat) (xs cs : List ByteArray) (u : ByteArray) (c0 : UInt8) (at_ k1 k2 : Nat) (x a b to0 : Int), xs.length + j = 3 → cs.length = xs.length → at_ ≤ (bys s).length → bys u = c0 :: (bys s).drop at_ → (j = 0 → c0 = 32) → u.size ≤ n + 1 → K + j + 1 ≤ k1 → 2 * j + 2 ≤ k2 →
      ∃ p, (∃ r, term_cut.l0 k1 u x xs = some r ∧ beh r = p) ∧ Out s at_ (sleuthref1_parts.l0 T_ k2 s (at_ : Int) a b cs to0) p
  | 0, xs, cs, u, c0, at_, k1, k2, x, a, b, to0, hx, hcs, hat, hu, h32, hn, hk1, hk2 => by
    obtain ⟨k1, rfl⟩ : ∃ j, k1 = j + 1 := ⟨k1 - 1, by omega⟩
    obtain ⟨k2, rfl⟩ : ∃ j, k2 = j + 1 := ⟨k2 - 1, by omega⟩
    rw [term_cut.l0, if_neg (by omega), cp_is, hu, h32 rfl, if_neg (by simp), sleuthref1_parts.l0, if_neg (by omega)]
    exact ⟨none, ⟨_, rfl, rfl⟩, ⟨_, _, _, rfl⟩⟩
  | j + 1, xs, cs, u, c0, at_, k1, k2, x, a, b, to0, hx, hcs, hat, hu, h32, hn, hk1, hk2 => by
    obtain ⟨k1, rfl⟩ : ∃ j, k1 = j + 1 := ⟨k1 - 1, by omega⟩
    obtain ⟨k2, rfl⟩ : ∃ j, k2 = j + 2 := ⟨k2 - 2, by omega⟩
    have hus := bys_size u
    have hss := bys_size s
    rw [hu, List.length_cons, List.length_drop] at hus
    have hfrom : bys (u.extract 1 u.size) = (bys s).drop at_ := by rw [bys_from, hu]; rfl
    have hfs : (u.extract 1 u.size).size = (bys s).length - at_ := by rw [bys_size, hfrom, List.length_drop]
    obtain ⟨p, q, ⟨r, hr, hp⟩, hO, hal⟩ := HT at_ (u.extract 1 u.size) k1 hat hfrom (by omega) (by omega)
    cases hq : q with
    | none =>
      rw [hq] at hO hal
      have hpn : p = none := by
        rcases hal with h | ⟨h, v, hv, _⟩
        · exact h
        · cases hv
      obtain ⟨a', b', c', hO⟩ := hO
      have hf : ¬ r.2.2.2.2 = true := by rw [hpn] at hp; unfold beh at hp; intro e; rw [if_pos e] at hp; cases hp
      refine ⟨none, ?_, ?_⟩
      · rw [term_cut.l0, if_pos (by omega), if_pos (by omega), hr]
        simp only [Option.bind_some]
        rw [if_neg hf]
        exact ⟨_, rfl, rfl⟩
      · rw [sleuthref1_parts.l0, if_pos (by omega), hO]
        simp only [Option.bind_some]
        rw [if_pos (by decide), sleuthref1_parts.j1, if_pos rfl]
        exact ⟨_, _, _, rfl⟩
    | some v =>
      rw [hq] at hO hal
      obtain ⟨a', b', c', m, hO, hm, hml, hv⟩ := hO
      cases hvc : v with
      | nil =>
        have hmm : m = (bys s).length := by
          rw [hvc] at hv
          have := congrArg List.length hv
          rw [List.length_drop, List.length_nil] at this
          omega
        refine ⟨none, ?_, ?_⟩
        · rw [term_cut.l0, if_pos (by omega), if_pos (by omega), hr]
          simp only [Option.bind_some]
          by_cases hf : r.2.2.2.2 = true
          · have hb : bys r.2.2.2.1 = [] := by
              unfold beh at hp
              rw [if_pos hf] at hp
              rcases hal with h | ⟨h, _⟩
              · rw [← hp, hvc] at h; exact Option.some.inj h
              · rw [← hp] at h; cases h
            have hbs : r.2.2.2.1.size = 0 := by rw [bys_size, hb]; rfl
            rw [if_pos hf, hfs, hbs, wrap64_of (by omega) (by omega), if_pos (by omega), if_pos (by omega), if_pos (by omega)]
            rw [hp_is, hb]
            simp only [Option.bind_some]
            rw [if_neg (by decide), cp_is, hb]
            exact ⟨_, rfl, rfl⟩
          · rw [if_neg hf]
            exact ⟨_, rfl, rfl⟩
        · rw [sleuthref1_parts.l0, if_pos (by omega), hO]
          simp only [Option.bind_some]
          rw [if_neg (by omega), decide_eq_true (by omega), sleuthref1_parts.j1, if_pos rfl]
          exact ⟨_, _, _, rfl⟩
      | cons c t =>
        have hvl : m < (bys s).length := by
          rw [hvc] at hv
          have := congrArg List.length hv
          rw [List.length_drop, List.length_cons] at this
          omega
        have hd := List.drop_eq_getElem_cons hvl
        have hc : (bys s)[m] = c ∧ (bys s).drop (m + 1) = t := by
          rw [← hv, hvc] at hd
          injection hd with e1 e2
          exact ⟨e1.symm, e2.symm⟩
        have hbt := bt_bys s m hvl
        rw [hc.1] at hbt
        have href : sleuthref1_parts.l0 T_ (k2 + 2) s (at_ : Int) a b cs to0 = if (c.toNat : Int) = 41 then some (a, b, cs ++ [s.extract (at_ : Int).toNat (m : Int).toNat], wrap64 ((m : Int) + 1)) else if (c.toNat : Int) = 32 then sleuthref1_parts.l0 T_ k2 s (wrap64 ((m : Int) + 1)) a b (cs ++ [s.extract (at_ : Int).toNat (m : Int).toNat]) to0 else some (0, 0, [], -1) := by
          rw [sleuthref1_parts.l0, if_pos (by omega), hO]
          simp only [Option.bind_some]
          rw [if_neg (by omega), decide_eq_false (by omega), sleuthref1_parts.j1, if_neg (by simp), if_pos (by omega), if_pos (by omega), if_pos (by omega), if_pos (by omega)]
          simp only [Option.bind_some]
          rw [if_pos (by omega), if_pos (by omega), hbt]
          rfl
        rw [href]
        by_cases hf : r.2.2.2.2 = true
        · have hb : bys r.2.2.2.1 = c :: t := by
            unfold beh at hp
            rw [if_pos hf] at hp
            rcases hal with h | ⟨h, _⟩
            · rw [← hp, hvc] at h; exact Option.some.inj h
            · rw [← hp] at h; cases h
          have hbs : r.2.2.2.1.size = t.length + 1 := by rw [bys_size, hb]; rfl
          have htl : t.length = (bys s).length - (m + 1) := by rw [← hc.2, List.length_drop]
          have hprog : term_cut.l0 (k1 + 1) u x xs = if c = 32 then term_cut.l0 k1 r.2.2.2.1 x (xs ++ [(u.extract 1 u.size).extract 0 (((((bys s).length - at_ : Nat) : Int) - ((t.length + 1 : Nat) : Int)) : Int).toNat]) else (if c = 41 then some (2, x, xs ++ [(u.extract 1 u.size).extract 0 (((((bys s).length - at_ : Nat) : Int) - ((t.length + 1 : Nat) : Int)) : Int).toNat], r.2.2.2.1.extract 1 r.2.2.2.1.size, true) else some (2, x, xs ++ [(u.extract 1 u.size).extract 0 (((((bys s).length - at_ : Nat) : Int) - ((t.length + 1 : Nat) : Int)) : Int).toNat], r.2.2.2.1, false)) := by
            rw [term_cut.l0, if_pos (by omega), if_pos (by omega), hr]
            simp only [Option.bind_some]
            rw [if_pos hf, hfs, hbs, wrap64_of (by omega) (by omega), if_pos (by omega), if_pos (by omega), if_pos (by omega)]
            rw [hp_is, hb]
            simp only [Option.bind_some, List.head?_cons, Option.some.injEq, decide_eq_true_eq]
            split
            · rfl
            · rw [cp_is, hb]
              simp only [Option.bind_some, List.head?_cons, Option.some.injEq]
              split <;> first | rfl | (rw [hbs])
          rw [hprog]
          by_cases h41 : c = 41
          · subst h41
            rw [if_neg (by decide), if_pos rfl, if_pos (by decide)]
            refine ⟨some t, ⟨_, rfl, ?_⟩, ?_⟩
            · simp only [beh, if_pos]
              rw [bys_from, hb]
              rfl
            · exact ⟨_, _, _, m + 1, by rw [wrap64_of (by omega) (by omega)]; rfl, by omega, by omega, hc.2.symm⟩
          · have h41' : ¬ ((c.toNat : Int) = 41) := fun e => h41 (UInt8.toNat_inj.1 (show c.toNat = 41 by omega))
            rw [if_neg h41']
            by_cases h32' : c = 32
            · subst h32'
              rw [if_pos rfl, if_pos (by decide)]
              obtain ⟨p2, hp2, hO2⟩ := parts_alike s hs T_ n K HT j (xs ++ [(u.extract 1 u.size).extract 0 (((((bys s).length - at_ : Nat) : Int) - ((t.length + 1 : Nat) : Int)) : Int).toNat]) (cs ++ [s.extract (at_ : Int).toNat (m : Int).toNat]) r.2.2.2.1 32 (m + 1) k1 k2 x a b to0 (by simp; omega) (by simp; omega) (by omega) (by rw [hb, hc.2]) (fun _ => rfl) (by omega) (by omega) (by omega)
              refine ⟨p2, hp2, ?_⟩
              rw [wrap64_of (by omega) (by omega)]
              cases p2 with
              | none => exact hO2
              | some v2 =>
                obtain ⟨a2, b2, c2, m2, e1, e2, e3, e4⟩ := hO2
                exact ⟨a2, b2, c2, m2, e1, by omega, e3, e4⟩
            · have h32'' : ¬ ((c.toNat : Int) = 32) := fun e => h32' (UInt8.toNat_inj.1 (show c.toNat = 32 by omega))
              rw [if_neg h32', if_neg h41, if_neg h32'']
              exact ⟨none, ⟨_, rfl, rfl⟩, ⟨_, _, _, rfl⟩⟩
        · refine ⟨none, ?_, ?_⟩
          · rw [term_cut.l0, if_pos (by omega), if_pos (by omega), hr]
            simp only [Option.bind_some]
            rw [if_neg hf]
            exact ⟨_, rfl, rfl⟩
          · have hnb : ¬ Bnd (c :: t) := by
              rcases hal with h | ⟨_, v', hv', hnb⟩
              · unfold beh at hp
                rw [if_neg hf] at hp
                rw [← hp] at h
                cases h
              · rw [← hvc, Option.some.inj hv']; exact hnb
            have hncl : ¬ isCl c = true := fun e => hnb (fun d hd => by simp at hd; rw [← hd]; exact e)
            rw [isCl_iff] at hncl
            have h41' : ¬ ((c.toNat : Int) = 41) := fun e => hncl (.inr (.inr (UInt8.toNat_inj.1 (show c.toNat = 41 by omega))))
            have h32'' : ¬ ((c.toNat : Int) = 32) := fun e => hncl (.inl (UInt8.toNat_inj.1 (show c.toNat = 32 by omega)))
            rw [if_neg h41', if_neg h32'']
            exact ⟨_, _, _, rfl⟩
end Go.Proofs.YtkbaelhcijibiaaDoor.Px

/-
  The program's reader of a term and the reference's: what each tells by the first word.
-/
namespace Go.Proofs.YtkbaelhcijibiaaDoor.Px
open Go.RowKit Go.Proofs.YtkbaelhcijibiaaDoorW.PrintWords Go.Proofs.YtkbaelhcijibiaaDoorW.PrintLast Go.Proofs.YtkbaelhcijibiaaDoorW.PrintMore
set_option linter.unusedVariables false
set_option linter.unusedSimpArgs false

/-! ### the program's -/
def Tagged (w : List UInt8) : Prop := ∃ n : Nat, n ≤ 99 ∧ w = 64 :: Lib.decDigits n
theorem tag_is (W : ByteArray) (hs : W.size ≤ 1000000000) : ∃ x b, term_Tag.f W = some (x, b) ∧ (b = true ↔ Tagged (bys W)) := by
  unfold term_Tag.f
  rw [cp_is]
  simp only [Option.bind_some]
  by_cases h : (bys W).head? = some 64
  · rw [if_pos h]
    simp only
    unfold term_Digits.f
    have hx : (W.extract 1 W.size).size ≤ W.size := by simp [ByteArray.size_extract]
    rw [if_pos (by omega)]
    simp only [Option.bind_some, if_pos]
    refine ⟨_, _, rfl, ?_⟩
    rw [digits_iff]
    show (∃ n : Nat, n ≤ 99 ∧ bys (W.extract 1 W.size) = Lib.decDigits n) ↔ _
    rw [bys_from]
    unfold Tagged
    cases hb : bys W with
    | nil => rw [hb] at h; cases h
    | cons c t =>
      rw [hb] at h
      have hc : c = 64 := by simpa using h
      subst hc
      simp
  · rw [if_neg h]
    simp only
    unfold term_Digits.f
    rw [if_pos (by omega)]
    simp only [Option.bind_some, if_neg, Bool.false_eq_true, not_false_eq_true]
    refine ⟨_, _, rfl, ?_⟩
    constructor
    · intro e; cases e
    · rintro ⟨n, _, e⟩
      rw [e] at h
      exact absurd rfl h
/-- The program's cutter, by the first word. -/
theorem cut_open (k : Nat) (u : ByteArray) (hs : u.size ≤ 1000000000) : ∃ (W R : ByteArray), bys W = wrd (bys u) ∧ bys R = rst (bys u) ∧ W.size ≤ u.size ∧
    term_cut.f (k + 1) u = (if bys W = [95] then some (0, 0, [], R, true) else if bys W = [33] then some (3, 0, [], R, true) else ((term_Number.f W).bind fun bt111 => (if bt111.2 = true then (some (1, bt111.1, ([] : List ByteArray), R, true)) else ((term_Tag.f W).bind fun bt113 => (if bt113.2 = true then (term_cut.j0 k R bt113.1 bt113.2 (!(decide ((bys R).head? = some 40)))) else (term_cut.j0 k R bt113.1 bt113.2 true)))))) := by
  refine ⟨u.extract 0 (wordEnd u), u.extract (wordEnd u) u.size, ?_, ?_, ?_, ?_⟩
  · rw [bys_to, wlen_end]; rfl
  · rw [bys_from, wlen_end]; rfl
  · simp [ByteArray.size_extract]; omega
  · rw [term_cut.f]
    unfold term_word.f
    rw [if_pos (by omega)]
    simp only [Option.bind_some, toList_bys, hp_is]
theorem number_is (W : ByteArray) (hs : W.size ≤ 1000000000) : ∃ x b, term_Number.f W = some (x, b) ∧ (b = true ↔ Numeral (bys W)) := by
  unfold term_Number.f
  rw [if_pos (by omega)]
  exact ⟨_, _, rfl, number_iff W⟩
def Plain (w : List UInt8) : Prop := w = [95] ∨ w = [33] ∨ Numeral w
theorem num_not_tag {w : List UInt8} (h : Numeral w) : ¬ w = [95] ∧ ¬ w = [33] ∧ ¬ Tagged w := by
  obtain ⟨n, ⟨_, rfl⟩ | ⟨_, _, rfl⟩⟩ := h
  · obtain ⟨c, r, hd, hc⟩ := dec_cons n
    rw [isDg_iff] at hc
    rw [hd]
    refine ⟨fun e => ?_, fun e => ?_, fun ⟨m, _, e⟩ => ?_⟩
    · injection e with e _; subst e; simp at hc
    · injection e with e _; subst e; simp at hc
    · injection e with e _; subst e; simp at hc
  · exact ⟨(fun e => (by injection e with e _; cases e)), (fun e => (by injection e with e _; cases e)), (fun ⟨m, _, e⟩ => (by injection e with e _; cases e))⟩
theorem tag_not {w : List UInt8} (h : Tagged w) : ¬ w = [95] ∧ ¬ w = [33] := by
  obtain ⟨n, _, rfl⟩ := h
  exact ⟨(fun e => (by injection e with e _; cases e)), (fun e => (by injection e with e _; cases e))⟩
theorem cut_plain (k : Nat) (u : ByteArray) (hs : u.size ≤ 1000000000) (h : Plain (wrd (bys u))) : ∃ r, term_cut.f (k + 1) u = some r ∧ beh r = some (rst (bys u)) := by
  obtain ⟨W, R, hW, hR, hsz, he⟩ := cut_open k u hs
  rw [he, ← hR]
  rw [← hW] at h
  by_cases h1 : bys W = [95]
  · rw [if_pos h1]; exact ⟨_, rfl, rfl⟩
  rw [if_neg h1]
  by_cases h2 : bys W = [33]
  · rw [if_pos h2]; exact ⟨_, rfl, rfl⟩
  rw [if_neg h2]
  have h3 : Numeral (bys W) := by rcases h with h | h | h; exact absurd h h1; exact absurd h h2; exact h
  obtain ⟨x, b, hn, hb⟩ := number_is W (by omega)
  rw [hn]
  simp only [Option.bind_some]
  rw [if_pos (hb.2 h3)]
  exact ⟨_, rfl, rfl⟩
theorem cut_tagged (k : Nat) (u : ByteArray) (hs : u.size ≤ 1000000000) (h : Tagged (wrd (bys u))) :
    ((rst (bys u)).head? = some 40 → ∃ x R, bys R = rst (bys u) ∧ term_cut.f (k + 2) u = term_cut.l0 k R x []) ∧
    (¬ (rst (bys u)).head? = some 40 → ∃ r, term_cut.f (k + 2) u = some r ∧ beh r = some (rst (bys u))) := by
  obtain ⟨W, R, hW, hR, hsz, he⟩ := cut_open (k + 1) u hs
  have he' : term_cut.f (k + 2) u = _ := he
  rw [he', ← hR]
  rw [← hW] at h
  obtain ⟨h1, h2⟩ := tag_not h
  rw [if_neg h1, if_neg h2]
  obtain ⟨x, b, hn, hb⟩ := number_is W (by omega)
  rw [hn]
  simp only [Option.bind_some]
  rw [if_neg (fun e => (num_not_tag (hb.1 e)).2.2 h)]
  obtain ⟨y, c, ht, hc⟩ := tag_is W (by omega)
  rw [ht]
  simp only [Option.bind_some]
  have hct := hc.2 h
  rw [if_pos hct]
  constructor
  · intro hh
    refine ⟨y, R, rfl, ?_⟩
    rw [decide_eq_true hh, term_cut.j0, if_neg (by decide)]
  · intro hh
    rw [decide_eq_false hh, term_cut.j0, if_pos (by decide)]
    exact ⟨_, rfl, by simp [beh, hct]⟩
theorem cut_else (k : Nat) (u : ByteArray) (hs : u.size ≤ 1000000000) (h : ¬ Plain (wrd (bys u))) (ht : ¬ Tagged (wrd (bys u))) : ∃ r, term_cut.f (k + 2) u = some r ∧ beh r = none := by
  obtain ⟨W, R, hW, hR, hsz, he⟩ := cut_open (k + 1) u hs
  have he' : term_cut.f (k + 2) u = _ := he
  rw [he']
  rw [← hW] at h ht
  rw [if_neg (fun e => h (.inl e)), if_neg (fun e => h (.inr (.inl e)))]
  obtain ⟨x, b, hn, hb⟩ := number_is W (by omega)
  rw [hn]
  simp only [Option.bind_some]
  rw [if_neg (fun e => h (.inr (.inr (hb.1 e))))]
  obtain ⟨y, c, htg, hc⟩ := tag_is W (by omega)
  rw [htg]
  simp only [Option.bind_some]
  have hcf : ¬ c = true := fun e => ht (hc.1 e)
  rw [if_neg hcf, term_cut.j0, if_pos rfl]
  exact ⟨_, rfl, by simp [beh, hcf]⟩

/-! ### the reference's -/
theorem drop_cons (s : ByteArray) (at_ : Nat) {c : UInt8} {t : List UInt8} (h : (bys s).drop at_ = c :: t) : at_ < (bys s).length ∧ bt s (at_ : Int) = (c.toNat : Int) ∧ (bys s).drop (at_ + 1) = t ∧ t.length + at_ + 1 = (bys s).length := by
  have hlt : at_ < (bys s).length := by
    apply Nat.lt_of_not_le
    intro e
    rw [List.drop_of_length_le e] at h
    cases h
  have hd := List.drop_eq_getElem_cons hlt
  rw [h] at hd
  injection hd with e1 e2
  refine ⟨hlt, ?_, e2.symm, ?_⟩
  · rw [bt_bys s at_ hlt, ← e1]
  · have := congrArg List.length h
    rw [List.length_drop, List.length_cons] at this
    omega
theorem ref_nil (s : ByteArray) (at_ k : Nat) (h : (bys s).drop at_ = []) : Out s at_ (sleuthref1_term.f (k + 1) s (at_ : Int)) none := by
  have hss := bys_size s
  have := congrArg List.length h
  rw [List.length_drop, List.length_nil] at this
  rw [sleuthref1_term.f, if_pos (by omega)]
  exact ⟨_, _, _, rfl⟩
theorem ref_one (s : ByteArray) (hs : s.size ≤ 1000000000) (at_ k : Nat) {c : UInt8} {t : List UInt8} (h : (bys s).drop at_ = c :: t) (hc : c = 95 ∨ c = 33) : Out s at_ (sleuthref1_term.f (k + 1) s (at_ : Int)) (some t) := by
  have hss := bys_size s
  obtain ⟨h1, h2, h3, h4⟩ := drop_cons s at_ h
  rw [sleuthref1_term.f, if_neg (by omega), if_pos (by omega), if_pos (by omega), h2]
  rcases hc with rfl | rfl
  · rw [if_pos (by decide)]
    exact ⟨_, _, _, at_ + 1, by rw [wrap64_of (by omega) (by omega)]; rfl, by omega, by omega, h3.symm⟩
  · rw [if_neg (by decide), if_pos (by decide)]
    exact ⟨_, _, _, at_ + 1, by rw [wrap64_of (by omega) (by omega)]; rfl, by omega, by omega, h3.symm⟩
theorem ref_minus (s : ByteArray) (hs : s.size ≤ 1000000000) (at_ k : Nat) (hk : 8 ≤ k) {t : List UInt8} (h : (bys s).drop at_ = 45 :: t) : ∃ m, DigEnd t m ∧ Out s at_ (sleuthref1_term.f (k + 1) s (at_ : Int)) (if m = 0 ∨ valD (t.take m) = 0 ∨ 32768 < valD (t.take m) then none else some (t.drop m)) := by
  have hss := bys_size s
  obtain ⟨h1, h2, h3, h4⟩ := drop_cons s at_ h
  have hx : bys (s.extract (at_ + 1) s.size) = t := by rw [bys_from]; exact h3
  obtain ⟨m, hd, hE⟩ := digits_f (s.extract (at_ + 1) s.size) (by rw [bys_size, hx]; omega) k (by omega)
  rw [hx] at hd hE
  refine ⟨m, hE, ?_⟩
  have hml := hE.le
  have hv := valD_lt (t.take m) (by rw [List.length_take]; have := hE.six; omega) hE.all
  rw [sleuthref1_term.f, if_neg (by omega), if_pos (by omega), if_pos (by omega), h2, if_neg (by decide), if_neg (by decide), if_neg (by decide), if_pos (by decide), wrap64_of (x := (at_ : Int) + 1) (by omega) (by omega), if_pos (by omega), if_pos (by omega), show (((at_ : Int) + 1)).toNat = at_ + 1 by omega, hd]
  simp only [Option.bind_some]
  generalize valD (t.take m) = x at hv
  by_cases m0 : m = 0
  · rw [if_pos (by omega), if_pos (.inl m0)]; exact ⟨_, _, _, rfl⟩
  rw [if_neg (by omega)]
  by_cases x0 : x = 0
  · rw [if_pos (by omega), if_pos (.inr (.inl x0))]; exact ⟨_, _, _, rfl⟩
  rw [if_neg (by omega), wrap64_of (x := -(x : Int)) (by omega) (by omega)]
  unfold sleuthref1_NumMay.f sleuthref1_upTo.f
  by_cases x1 : 32768 < x
  · rw [if_neg (by omega), if_pos (.inr (.inr x1))]
    exact ⟨_, _, _, rfl⟩
  · rw [if_pos (by omega), decide_eq_true (by omega), if_neg (by omega)]
    exact ⟨_, _, _, at_ + 1 + m, by simp only [Option.bind_some, if_pos]; rw [wrap64_of (by omega) (by omega)]; rfl, by omega, by omega, by rw [← List.drop_drop, h3]⟩
theorem ref_plain (s : ByteArray) (hs : s.size ≤ 1000000000) (at_ k : Nat) (hk : 8 ≤ k) {c : UInt8} {t : List UInt8} (h : (bys s).drop at_ = c :: t) (hc : ¬ c = 95 ∧ ¬ c = 33 ∧ ¬ c = 64 ∧ ¬ c = 45) : ∃ m, DigEnd (c :: t) m ∧ Out s at_ (sleuthref1_term.f (k + 1) s (at_ : Int)) (if m = 0 ∨ 32767 < valD ((c :: t).take m) then none else some ((c :: t).drop m)) := by
  have hss := bys_size s
  obtain ⟨h1, h2, h3, h4⟩ := drop_cons s at_ h
  have hx : bys (s.extract at_ s.size) = c :: t := by rw [bys_from]; exact h
  obtain ⟨m, hd, hE⟩ := digits_f (s.extract at_ s.size) (by rw [bys_size, hx, List.length_cons]; omega) k (by omega)
  rw [hx] at hd hE
  refine ⟨m, hE, ?_⟩
  have hml := hE.le
  rw [List.length_cons] at hml
  have hv := valD_lt ((c :: t).take m) (by rw [List.length_take]; have := hE.six; omega) hE.all
  have ne : ∀ (d : UInt8) (n : Int), (d.toNat : Int) = n → ¬ c = d → ¬ (c.toNat : Int) = n := fun d n hdn hcd e => hcd (UInt8.toNat_inj.1 (by omega))
  rw [sleuthref1_term.f, if_neg (by omega), if_pos (by omega), if_pos (by omega), h2, if_neg (ne 95 95 rfl hc.1), if_neg (ne 33 33 rfl hc.2.1), if_neg (ne 64 64 rfl hc.2.2.1), if_neg (ne 45 45 rfl hc.2.2.2), if_pos (by omega), Int.toNat_natCast, hd]
  simp only [Option.bind_some]
  generalize valD ((c :: t).take m) = x at hv
  by_cases m0 : m = 0
  · rw [if_pos (by omega), if_pos (.inl m0)]; exact ⟨_, _, _, rfl⟩
  rw [if_neg (by omega)]
  unfold sleuthref1_NumMay.f sleuthref1_upTo.f
  rw [if_pos (by omega)]
  by_cases x1 : 32767 < x
  · rw [decide_eq_false (by omega), if_pos (.inr x1)]
    exact ⟨_, _, _, rfl⟩
  · rw [decide_eq_true (by omega), if_neg (by omega)]
    exact ⟨_, _, _, at_ + m, by simp only [Option.bind_some, if_pos]; rw [wrap64_of (by omega) (by omega)]; rfl, by omega, by omega, by rw [← List.drop_drop, h]⟩
theorem ref_tag (s : ByteArray) (hs : s.size ≤ 1000000000) (at_ k : Nat) (hk : 8 ≤ k) {t : List UInt8} (h : (bys s).drop at_ = 64 :: t) : ∃ m, DigEnd t m ∧ m ≤ t.length ∧ ((m = 0 ∨ 99 < valD (t.take m)) → Out s at_ (sleuthref1_term.f (k + 2) s (at_ : Int)) none) ∧
    (¬ (m = 0 ∨ 99 < valD (t.take m)) → ¬ (t.drop m).head? = some 40 → Out s at_ (sleuthref1_term.f (k + 2) s (at_ : Int)) (some (t.drop m))) ∧
    (¬ (m = 0 ∨ 99 < valD (t.take m)) → (t.drop m).head? = some 40 → at_ + 1 + m + 1 ≤ (bys s).length ∧ (t.drop m) = 40 :: (bys s).drop (at_ + 1 + m + 1) ∧ ∃ x to0, ∀ q, Out s (at_ + 1 + m + 1) (sleuthref1_parts.l0 (sleuthref1_term.f k) k s ((at_ + 1 + m + 1 : Nat) : Int) 2 x [] to0) q → Out s at_ (sleuthref1_term.f (k + 2) s (at_ : Int)) q) := by
  have hss := bys_size s
  obtain ⟨h1, h2, h3, h4⟩ := drop_cons s at_ h
  have hx : bys (s.extract (at_ + 1) s.size) = t := by rw [bys_from]; exact h3
  obtain ⟨m, hd, hE⟩ := digits_f (s.extract (at_ + 1) s.size) (by rw [bys_size, hx]; omega) (k + 1) (by omega)
  rw [hx] at hd hE
  refine ⟨m, hE, hE.le, ?_⟩
  have hml := hE.le
  have hv := valD_lt (t.take m) (by rw [List.length_take]; have := hE.six; omega) hE.all
  have hdm : t.drop m = (bys s).drop (at_ + 1 + m) := by rw [← h3, List.drop_drop]
  have hf : sleuthref1_term.f (k + 2) s (at_ : Int) = if (m : Int) = 0 then sleuthref1_term.j0 (k + 1) s (at_ : Int) (valD (t.take m) : Int) (m : Int) true else sleuthref1_term.j0 (k + 1) s (at_ : Int) (valD (t.take m) : Int) (m : Int) (decide ((valD (t.take m) : Int) > 99)) := by
    rw [sleuthref1_term.f, if_neg (by omega), if_pos (by omega), if_pos (by omega), h2, if_neg (by decide), if_neg (by decide), if_pos (by decide), wrap64_of (x := (at_ : Int) + 1) (by omega) (by omega), if_pos (by omega), if_pos (by omega), show (((at_ : Int) + 1)).toNat = at_ + 1 by omega, hd]
    rfl
  rw [hf]
  generalize valD (t.take m) = x at hv
  have hw : wrap64 (wrap64 ((at_ : Int) + 1) + (m : Int)) = ((at_ + 1 + m : Nat) : Int) := by
    rw [wrap64_of (x := (at_ : Int) + 1) (by omega) (by omega), wrap64_of (by omega) (by omega)]
    omega
  refine ⟨?_, ?_, ?_⟩
  · intro hb
    by_cases m0 : m = 0
    · rw [if_pos (by omega), sleuthref1_term.j0, if_pos rfl]
      exact ⟨_, _, _, rfl⟩
    · rw [if_neg (by omega), decide_eq_true (by omega), sleuthref1_term.j0, if_pos rfl]
      exact ⟨_, _, _, rfl⟩
  · intro hb h40
    rw [if_neg (by omega), decide_eq_false (by omega), sleuthref1_term.j0, if_neg (by simp), hw]
    by_cases hl : ((at_ + 1 + m : Nat) : Int) < (s.size : Int)
    · have hl2 : at_ + 1 + m < (bys s).length := by omega
      have hb2 := bt_bys s (at_ + 1 + m) hl2
      rw [if_pos hl, if_pos (by omega), hb2]
      have hne : ¬ ((((bys s)[at_ + 1 + m]).toNat : Int) = 40) := by
        intro e
        apply h40
        rw [hdm, List.head?_drop, List.getElem?_eq_getElem hl2]
        exact congrArg some (UInt8.toNat_inj.1 (show ((bys s)[at_ + 1 + m]).toNat = 40 by omega))
      rw [if_neg hne]
      exact ⟨_, _, _, at_ + 1 + m, rfl, by omega, by omega, hdm⟩
    · rw [if_neg hl]
      exact ⟨_, _, _, at_ + 1 + m, rfl, by omega, by omega, hdm⟩
  · intro hb h40
    have hl2 : at_ + 1 + m < (bys s).length := by
      apply Nat.lt_of_not_le
      intro e
      rw [hdm, List.drop_of_length_le e] at h40
      cases h40
    have hdc := List.drop_eq_getElem_cons hl2
    have hc40 : (bys s)[at_ + 1 + m] = 40 := by
      rw [hdm, hdc] at h40
      exact Option.some.inj h40
    refine ⟨by omega, by rw [hdm, hdc, hc40], (x : Int), ((at_ + 1 + m : Nat) : Int), fun q hq => ?_⟩
    have hb2 := bt_bys s (at_ + 1 + m) hl2
    rw [if_neg (by omega), decide_eq_false (by omega), sleuthref1_term.j0, if_neg (by simp), hw, if_pos (by omega), if_pos (by omega), hb2, hc40, if_pos (by decide), show wrap64 (((at_ + 1 + m : Nat) : Int) + 1) = ((at_ + 1 + m + 1 : Nat) : Int) by rw [wrap64_of (by omega) (by omega)]; omega]
    unfold sleuthref1_parts.f
    cases q with
    | none =>
      obtain ⟨a, b, c, e⟩ := hq
      rw [e]
      exact ⟨_, _, _, rfl⟩
    | some v =>
      obtain ⟨a, b, c, j, e, e1, e2, e3⟩ := hq
      rw [e]
      exact ⟨_, _, _, j, rfl, by omega, e2, e3⟩
end Go.Proofs.YtkbaelhcijibiaaDoor.Px

/-
  The program's reader of a term and the reference's agree: what may be a term is one.
-/
namespace Go.Proofs.YtkbaelhcijibiaaDoor.Px
open Go.RowKit Go.Proofs.YtkbaelhcijibiaaDoorW.PrintWords Go.Proofs.YtkbaelhcijibiaaDoorW.PrintLast Go.Proofs.YtkbaelhcijibiaaDoorW.PrintMore
set_option linter.unusedVariables false
set_option linter.unusedSimpArgs false

theorem wrd_cons {c : UInt8} (t : List UInt8) (hc : ¬ isCl c = true) : wrd (c :: t) = c :: wrd t ∧ rst (c :: t) = rst t := by
  unfold wrd rst
  rw [wlen_cons, if_neg hc]
  exact ⟨rfl, rfl⟩
theorem rst_bnd (l : List UInt8) : Bnd (rst l) := (wlen_spec l).2.2
theorem plain_head {c : UInt8} {w : List UInt8} (h : Plain (c :: w)) : (c = 95 ∧ w = []) ∨ (c = 33 ∧ w = []) ∨ (isDg c = true ∧ ∃ n : Nat, n ≤ 32767 ∧ c :: w = Lib.decDigits n) ∨ (c = 45 ∧ ∃ n : Nat, 1 ≤ n ∧ n ≤ 32768 ∧ w = Lib.decDigits n) := by
  rcases h with h | h | ⟨n, ⟨h1, h2⟩ | ⟨h0, h1, h2⟩⟩
  · injection h with e1 e2; exact .inl ⟨e1, e2⟩
  · injection h with e1 e2; exact .inr (.inl ⟨e1, e2⟩)
  · obtain ⟨d, r, hd, hdg⟩ := dec_cons n
    have h3 := h2
    rw [hd] at h3
    injection h3 with e1 e2
    exact .inr (.inr (.inl ⟨by rw [e1]; exact hdg, n, h1, h2⟩))
  · injection h2 with e1 e2
    exact .inr (.inr (.inr ⟨e1, n, h0, h1, e2⟩))
theorem dig_word {l : List UInt8} {m : Nat} (h : DigEnd l m) (hb : Bnd (l.drop m)) : wrd l = l.take m ∧ rst l = l.drop m := by
  have ha : (l.take m).all (fun c => !isCl c) = true := by
    rw [List.all_eq_true]
    intro c hc
    rw [dg_not_cl (List.all_eq_true.1 h.all c hc)]
    rfl
  have := wrd_unique ha hb
  rwa [List.take_append_drop] at this
/-- A numeral ahead of what ends a word: what the reference reads. -/
theorem dig_num {l : List UInt8} {m n : Nat} (hn : n ≤ 99999) (hw : wrd l = Lib.decDigits n) (h : DigEnd l m) : 0 < m ∧ valD (l.take m) = n ∧ l.drop m = rst l := by
  have hl : l = Lib.decDigits n ++ rst l := by rw [← hw, wrd_rst]
  have hm : m = (Lib.decDigits n).length := by
    have h' := h
    rw [hl] at h'
    exact dig_fwd hn (rst_bnd l) h'
  obtain ⟨c, r, hd, _⟩ := dec_cons n
  have htake : l.take m = Lib.decDigits n := by rw [hm, ← hw]; unfold wrd; rw [List.length_take]; congr 1; have := (wlen_spec l).1; omega
  refine ⟨by rw [hm, hd]; simp, by rw [htake]; exact (dec_all n).2.1, ?_⟩
  rw [hm, ← hw]
  unfold wrd rst
  rw [List.length_take]
  congr 1
  have := (wlen_spec l).1
  omega

set_option maxHeartbeats 1000000 in
theorem terms_alike (s : ByteArray) (hs : s.size ≤ 1000000000) : ∀ (n : Nat) (at_ : Nat) (u : ByteArray) (k1 k2 : Nat), at_ ≤ (bys s).length → bys u = (bys s).drop at_ → u.size ≤ n → 4 * n + 20 ≤ k1 → 4 * n + 20 ≤ k2 →
    ∃ p q, (∃ r, term_cut.f k1 u = some r ∧ beh r = p) ∧ Out s at_ (sleuthref1_term.f k2 s (at_ : Int)) q ∧ Alike p q := by
  intro n
  induction n using Nat.strongRecOn with
  | _ n ih =>
    intro at_ u k1 k2 hat hu hn hk1 hk2
    obtain ⟨k1, rfl⟩ : ∃ j, k1 = j + 2 := ⟨k1 - 2, by omega⟩
    obtain ⟨k2, rfl⟩ : ∃ j, k2 = j + 2 := ⟨k2 - 2, by omega⟩
    have hss := bys_size s
    have hus := bys_size u
    have husz : u.size ≤ 1000000000 := by rw [hus, hu, List.length_drop]; omega
    have none_p : ¬ Plain (wrd (bys u)) → ¬ Tagged (wrd (bys u)) → ∃ r, term_cut.f (k1 + 2) u = some r ∧ beh r = none := fun h1 h2 => cut_else k1 u husz h1 h2
    cases hl : (bys s).drop at_ with
    | nil =>
      rw [hl] at hu
      refine ⟨none, none, none_p ?_ ?_, ref_nil s at_ (k2 + 1) hl, .inl rfl⟩
      · rw [hu]
        rintro (h | h | ⟨m, ⟨_, h⟩ | ⟨_, _, h⟩⟩)
        · cases h
        · cases h
        · obtain ⟨c, r, hd, _⟩ := dec_cons m; rw [hd] at h; cases h
        · cases h
      · rw [hu]
        rintro ⟨m, _, h⟩
        cases h
    | cons c t =>
      rw [hl] at hu
      by_cases hA : c = 95 ∨ c = 33
      · have hcl : ¬ isCl c = true := by rw [isCl_iff]; rcases hA with rfl | rfl <;> decide
        obtain ⟨hw, hr⟩ := wrd_cons t hcl
        have hO := ref_one s hs at_ (k2 + 1) hl hA
        by_cases hb : Bnd t
        · have hwt := wrd_unique (a := []) (v := t) rfl hb
          rw [List.nil_append] at hwt
          have hp : Plain (wrd (bys u)) := by
            rw [hu, hw, hwt.1]
            rcases hA with rfl | rfl
            · exact .inl rfl
            · exact .inr (.inl rfl)
          obtain ⟨r, h1, h2⟩ := cut_plain (k1 + 1) u husz hp
          exact ⟨some t, some t, ⟨r, h1, by rw [h2, hu, hr, hwt.2]⟩, hO, .inl rfl⟩
        · have hne : ¬ wrd t = [] := by
            intro e
            apply hb
            have h3 := wrd_rst t
            rw [e, List.nil_append] at h3
            rw [← h3]
            exact rst_bnd t
          refine ⟨none, some t, none_p ?_ ?_, hO, .inr ⟨rfl, t, rfl, hb⟩⟩
          · rw [hu, hw]
            intro hp
            rcases plain_head hp with ⟨_, e⟩ | ⟨_, e⟩ | ⟨e, _⟩ | ⟨e, _⟩
            · exact hne e
            · exact hne e
            · rw [isDg_iff] at e
              rcases hA with rfl | rfl <;> simp at e
            · rcases hA with rfl | rfl <;> cases e
          · rw [hu, hw]
            rintro ⟨m, _, e⟩
            injection e with e1 _
            rcases hA with rfl | rfl <;> cases e1
      by_cases hB : c = 64
      · subst hB
        have hcl : ¬ isCl 64 = true := by rw [isCl_iff]; decide
        obtain ⟨hw, hr⟩ := wrd_cons t hcl
        obtain ⟨m, hE, hml, hno, hyes, hpar⟩ := ref_tag s hs at_ k2 (by omega) hl
        have hnp : ¬ Plain (wrd (bys u)) := by
          rw [hu, hw]
          intro hp
          rcases plain_head hp with ⟨e, _⟩ | ⟨e, _⟩ | ⟨e, _⟩ | ⟨e, _⟩
          · cases e
          · cases e
          · rw [isDg_iff] at e; simp at e
          · cases e
        by_cases hT : Tagged (wrd (bys u))
        · obtain ⟨x, hx, hwx⟩ := hT
          rw [hu, hw] at hwx
          injection hwx with _ hwx
          obtain ⟨h0, hv, hdr⟩ := dig_num (by omega) hwx hE
          have hT : Tagged (wrd (bys u)) := ⟨x, hx, by rw [hu, hw, hwx]⟩
          have hok : ¬ (m = 0 ∨ 99 < valD (t.take m)) := by rw [hv]; omega
          obtain ⟨hc1, hc2⟩ := cut_tagged k1 u husz hT
          have hrst : rst (bys u) = t.drop m := by rw [hu, hr, hdr]
          rw [hrst] at hc1 hc2
          by_cases h40 : (t.drop m).head? = some 40
          · obtain ⟨y, R, hR, hcut⟩ := hc1 h40
            obtain ⟨hle, hR2, z, to0, hout⟩ := hpar hok h40
            rw [hcut]
            have hRs : R.size = (t.drop m).length := by rw [bys_size, hR]
            have htl : u.size = t.length + 1 := by rw [hus, hu]; rfl
            rw [List.length_drop] at hRs
            have hRpos : 1 ≤ R.size := by rw [bys_size, hR, hR2]; simp
            obtain ⟨p, hp, hq⟩ := parts_alike s hs (sleuthref1_term.f k2) (n - 3) (4 * (n - 3) + 20)
              (fun a u' k ha hu' hn' hk' => ih (n - 3) (by omega) a u' k k2 ha hu' hn' hk' (by omega)) 3 [] [] R 40 (at_ + 1 + m + 1) k1 k2 y 2 z to0 rfl rfl hle (by rw [hR, hR2]) (fun h => by omega) (by omega) (by omega) (by omega)
            exact ⟨p, p, hp, hout p hq, .inl rfl⟩
          · obtain ⟨r, h1, h2⟩ := hc2 h40
            exact ⟨_, _, ⟨r, h1, h2⟩, hyes hok h40, .inl rfl⟩
        · have key : ¬ (m = 0 ∨ 99 < valD (t.take m)) → ¬ Bnd (t.drop m) := by
            intro hok hb
            apply hT
            refine ⟨valD (t.take m), by omega, ?_⟩
            rw [hu, hw, (dig_word hE hb).1]
            exact congrArg _ (dig_back hE (by omega))
          by_cases hok : m = 0 ∨ 99 < valD (t.take m)
          · exact ⟨none, none, none_p hnp hT, hno hok, .inl rfl⟩
          · by_cases h40 : (t.drop m).head? = some 40
            · exact absurd (fun d hd => by rw [h40] at hd; rw [← Option.some.inj hd]; exact (isCl_iff 40).2 (.inr (.inl rfl))) (key hok)
            · exact ⟨none, _, none_p hnp hT, hyes hok h40, .inr ⟨rfl, _, rfl, key hok⟩⟩
      by_cases hC : c = 45
      · subst hC
        have hcl : ¬ isCl 45 = true := by rw [isCl_iff]; decide
        obtain ⟨hw, hr⟩ := wrd_cons t hcl
        obtain ⟨m, hE, hO⟩ := ref_minus s hs at_ (k2 + 1) (by omega) hl
        have hnt : ¬ Tagged (wrd (bys u)) := by
          rw [hu, hw]
          rintro ⟨x, _, e⟩
          injection e with e1 _
          cases e1
        by_cases hP : Plain (wrd (bys u))
        · obtain ⟨r, h1, h2⟩ := cut_plain (k1 + 1) u husz hP
          rw [hu, hw] at hP
          rcases plain_head hP with ⟨e, _⟩ | ⟨e, _⟩ | ⟨e, _⟩ | ⟨_, x, hx0, hx1, hwx⟩
          · cases e
          · cases e
          · rw [isDg_iff] at e; simp at e
          · obtain ⟨h0, hv, hdr⟩ := dig_num (by omega) hwx hE
            rw [hv, if_neg (by omega), hdr] at hO
            exact ⟨_, _, ⟨r, h1, by rw [h2, hu, hr]⟩, hO, .inl rfl⟩
        · by_cases hok : m = 0 ∨ valD (t.take m) = 0 ∨ 32768 < valD (t.take m)
          · rw [if_pos hok] at hO
            exact ⟨none, none, none_p hP hnt, hO, .inl rfl⟩
          · rw [if_neg hok] at hO
            refine ⟨none, _, none_p hP hnt, hO, .inr ⟨rfl, _, rfl, fun hb => hP ?_⟩⟩
            rw [hu, hw, (dig_word hE hb).1]
            exact .inr (.inr ⟨valD (t.take m), .inr ⟨by omega, by omega, congrArg _ (dig_back hE (by omega))⟩⟩)
      · obtain ⟨m, hE, hO⟩ := ref_plain s hs at_ (k2 + 1) (by omega) hl ⟨fun e => hA (.inl e), fun e => hA (.inr e), hB, hC⟩
        have hnt : ¬ Tagged (wrd (bys u)) := by
          rw [hu]
          rintro ⟨x, _, e⟩
          have h3 := wrd_rst (c :: t)
          rw [e] at h3
          injection h3 with e1 _
          exact hB e1.symm
        by_cases hP : Plain (wrd (bys u))
        · obtain ⟨r, h1, h2⟩ := cut_plain (k1 + 1) u husz hP
          rw [hu] at hP
          have h3 := wrd_rst (c :: t)
          cases hwc : wrd (c :: t) with
          | nil =>
            rw [hwc] at hP
            rcases hP with h | h | ⟨x, ⟨_, h⟩ | ⟨_, _, h⟩⟩
            · cases h
            · cases h
            · obtain ⟨d, r', hd, _⟩ := dec_cons x; rw [hd] at h; cases h
            · cases h
          | cons d w =>
            rw [hwc] at hP h3
            injection h3 with e1 _
            subst e1
            rcases plain_head hP with ⟨e, _⟩ | ⟨e, _⟩ | ⟨_, x, hx, hwx⟩ | ⟨e, _⟩
            · exact absurd (.inl e) hA
            · exact absurd (.inr e) hA
            · obtain ⟨h0, hv, hdr⟩ := dig_num (by omega) (hwc.trans hwx) hE
              rw [hv, if_neg (by omega), hdr] at hO
              exact ⟨_, _, ⟨r, h1, by rw [h2, hu]⟩, hO, .inl rfl⟩
            · exact absurd e hC
        · by_cases hok : m = 0 ∨ 32767 < valD ((c :: t).take m)
          · rw [if_pos hok] at hO
            exact ⟨none, none, none_p hP hnt, hO, .inl rfl⟩
          · rw [if_neg hok] at hO
            refine ⟨none, _, none_p hP hnt, hO, .inr ⟨rfl, _, rfl, fun hb => hP ?_⟩⟩
            rw [hu, (dig_word hE hb).1]
            exact .inr (.inr ⟨valD ((c :: t).take m), .inl ⟨by omega, dig_back hE (by omega)⟩⟩)

/-- What may be a term, by the program, is one by the reference. -/
theorem termMay_is (k1 k2 : Nat) (h1 : 4200 ≤ k1) (h2 : 4200 ≤ k2) (s : ByteArray) : ∃ b, term_May.f k1 s = some b ∧ sleuthref1_TermMay.f k2 s = some b := by
  unfold term_May.f sleuthref1_TermMay.f sleuthref1_Cut.f
  by_cases hs : (s.size : Int) > 1024
  · rw [if_pos hs, if_pos hs]
    exact ⟨_, rfl, rfl⟩
  · rw [if_neg hs, if_neg hs]
    have hss := bys_size s
    obtain ⟨p, q, ⟨r, hr, hp⟩, hO, hal⟩ := terms_alike s (by omega) 1024 0 s k1 k2 (Nat.zero_le _) rfl (by omega) (by omega) (by omega)
    have hO' : Out s 0 (sleuthref1_term.f k2 s 0) q := hO
    rw [hr]
    simp only [Option.bind_some]
    cases hq : q with
    | none =>
      rw [hq] at hO' hal
      obtain ⟨a, b, c, e⟩ := hO'
      rw [e]
      simp only [Option.bind_some]
      rw [if_neg (show ¬ ((-1 : Int) = (s.size : Int)) by omega)]
      have hpn : p = none := by
        rcases hal with h | ⟨h, v, hv, _⟩
        · exact h
        · cases hv
      have hf : ¬ r.2.2.2.2 = true := by rw [hpn] at hp; unfold beh at hp; intro e; rw [if_pos e] at hp; cases hp
      rw [if_neg hf]
      exact ⟨_, rfl, rfl⟩
    | some v =>
      rw [hq] at hO' hal
      obtain ⟨a, b, c, m, e, e1, e2, e3⟩ := hO'
      rw [e]
      simp only [Option.bind_some]
      by_cases hm : m = (bys s).length
      · have hv : v = [] := by rw [e3, hm, List.drop_length]
        have hpv : p = some [] := by
          rcases hal with h | ⟨_, v', hv', hnb⟩
          · rw [h, hv]
          · rw [← Option.some.inj hv', hv] at hnb
            exact absurd bnd_nil hnb
        have hf : r.2.2.2.2 = true := by
          rw [hpv] at hp
          unfold beh at hp
          by_cases e : r.2.2.2.2 = true
          · exact e
          · rw [if_neg e] at hp; cases hp
        have hb : bys r.2.2.2.1 = [] := by
          rw [hpv] at hp
          unfold beh at hp
          rw [if_pos hf] at hp
          exact Option.some.inj hp
        rw [if_pos hf, toList_bys, hb, if_pos (show (m : Int) = (s.size : Int) by omega)]
        exact ⟨_, rfl, rfl⟩
      · have hv : ¬ v = [] := by
          intro e4
          rw [e4] at e3
          have := congrArg List.length e3
          rw [List.length_drop, List.length_nil] at this
          omega
        rw [if_neg (show ¬ (m : Int) = (s.size : Int) by omega)]
        by_cases hf : r.2.2.2.2 = true
        · have hb : bys r.2.2.2.1 = v := by
            unfold beh at hp
            rw [if_pos hf] at hp
            rcases hal with h | ⟨h, _⟩
            · rw [← hp] at h; exact Option.some.inj h
            · rw [← hp] at h; cases h
          rw [if_pos hf, toList_bys, hb]
          exact ⟨_, rfl, by rw [Option.bind_some]; congr 1; simp [hv]⟩
        · rw [if_neg hf]
          exact ⟨_, rfl, rfl⟩
end Go.Proofs.YtkbaelhcijibiaaDoor.Px

/- Of each function of this text: a plain Lean function and a proof that the machine's call comes to its answers; printed by this session's program. -/
namespace Go.Proofs.YtkbaelhcijibiaaDoor.Px
open Go.RowKit Go.Proofs.YtkbaelhcijibiaaDoorW.PrintWords Go.Proofs.YtkbaelhcijibiaaDoorW.PrintLast Go.Proofs.YtkbaelhcijibiaaDoorW.PrintMore
attribute [local go_sem] max2_int min2_int max_two min_two max_three min_three max_four min_four   -- for this text's walks alone
set_option linter.unusedVariables false
set_option linter.unusedSimpArgs false

/-! ### sleuthref12_upTo: function 43 -/
def sleuthref12_upTo.f (a0 : Int) (a1 : Int) (a2 : Int) : Option (Bool) := if a0 ≥ a1 then (some (decide (a0 ≤ a2))) else (some false)
set_option maxHeartbeats 8000000 in
set_option maxRecDepth 100000 in
theorem sleuthref12_upTo.calls (a0 : Int) (a1 : Int) (a2 : Int) (r : Bool) (w : World) (h : sleuthref12_upTo.f a0 a1 a2 = some r) :
    Calls Tryd.prog 43 #[.int .i64 a0, .int .i64 a1, .int .i64 a2] w fun e w' => e = .returned (.bool r) ∧ Drawn0 w w' := by
  have H : (if a0 ≥ a1 then (some (decide (a0 ≤ a2))) else (some false)) = some r := h
  clear h
  by_cases c4 : a0 ≥ a1
  · rw [if_pos c4] at H
    have c4b0 : decide (a1 ≤ a0) = true := decide_eq_true c4
    clear c4
    obtain rfl := Option.some.inj H
    go_enter Tryd.func43, Tryd.ntmps43
    go_wp2
    go_ret
    exact ⟨by first | rfl | (simp; done) | (simp [*]; done), by repeat (first | exact Drawn0.refl _ | apply Drawn0.step)⟩
  · rw [if_neg c4] at H
    have c4b0 : decide (a1 ≤ a0) = false := decide_eq_false c4
    clear c4
    obtain rfl := Option.some.inj H
    go_enter Tryd.func43, Tryd.ntmps43
    go_wp2
    go_ret
    exact ⟨by first | rfl | (simp; done) | (simp [*]; done), by repeat (first | exact Drawn0.refl _ | apply Drawn0.step)⟩

end Go.Proofs.YtkbaelhcijibiaaDoor.Px

/- Of each function of this text: a plain Lean function and a proof that the machine's call comes to its answers; printed by this session's program. -/
namespace Go.Proofs.YtkbaelhcijibiaaDoor.Px
open Go.RowKit Go.Proofs.YtkbaelhcijibiaaDoorW.PrintWords Go.Proofs.YtkbaelhcijibiaaDoorW.PrintLast Go.Proofs.YtkbaelhcijibiaaDoorW.PrintMore
attribute [local go_sem] max2_int min2_int max_two min_two max_three min_three max_four min_four   -- for this text's walks alone
set_option linter.unusedVariables false
set_option linter.unusedSimpArgs false

/-! ### sleuthref12_texts: function 42 -/
def sleuthref12_texts.l0 : Nat → Int → Int → Int → List ByteArray → ByteArray → Option (Bool)
  | 0, _, _, _, _, _ => none
  | k + 1, x3, x270000, x270001, x270002, x270003 => if x3 < (x270002.length : Int) then (if 0 ≤ x3 then ((sleuthref1_TermMay.f k (rdOf ByteArray.empty x270002 x3)).bind fun t271 => (if t271 = true then (sleuthref12_texts.l0 k (wrap64 (x3 + 1)) x270000 x270001 x270002 x270003) else (some false))) else (none)) else ((sleuthref12_upTo.f x270000 0 7).bind fun t272 => (if t272 = true then (if (x270002.length : Int) ≤ 3 then ((sleuthref1_TermMay.f k x270003).bind fun t273 => (some t273)) else (some false)) else (some false)))
def sleuthref12_texts.f (k : Nat) (a0_0 : Int) (a0_1 : Int) (l0_2 : List ByteArray) (a0_3 : ByteArray) : Option (Bool) := sleuthref12_texts.l0 k 0 a0_0 a0_1 l0_2 a0_3
theorem sleuthref12_texts.mono_l : ∀ k, (∀ y0 y1 y2 y3 y4, LeO (sleuthref12_texts.l0 k y0 y1 y2 y3 y4) (sleuthref12_texts.l0 (k + 1) y0 y1 y2 y3 y4))
  | 0 => fun _ _ _ _ _ r h => by simp [sleuthref12_texts.l0] at h
  | k + 1 => by
    have ih0 := sleuthref12_texts.mono_l k
    · intro y0 y1 y2 y3 y4
      unfold sleuthref12_texts.l0
      repeat' first
      | (with_reducible exact ih0 _ _ _ _ _)
      | (with_reducible exact sleuthref1_TermMay.mono _ _)
      | (with_reducible exact LeO.refl _)
      | (with_reducible exact LeO.none _)
      | (with_reducible refine LeO.ite ?_ ?_)
      | (with_reducible refine LeO.bind ?_ (fun _ => ?_))
      | exact ih0 _ _ _ _ _
      | exact sleuthref1_TermMay.mono _ _
      | exact LeO.none _
      | refine LeO.ite ?_ ?_
      | refine LeO.bind ?_ (fun _ => ?_)
theorem sleuthref12_texts.mono : ∀ a0 a1 a2 a3 k, LeO (sleuthref12_texts.f k a0 a1 a2 a3) (sleuthref12_texts.f (k + 1) a0 a1 a2 a3) := by
  intro a0 a1 a2 a3 k
  have ih0 := sleuthref12_texts.mono_l k
  unfold sleuthref12_texts.f
  repeat' first
      | (with_reducible exact ih0 _ _ _ _ _)
      | (with_reducible exact sleuthref1_TermMay.mono _ _)
      | (with_reducible exact LeO.refl _)
      | (with_reducible exact LeO.none _)
      | (with_reducible refine LeO.ite ?_ ?_)
      | (with_reducible refine LeO.bind ?_ (fun _ => ?_))
      | exact ih0 _ _ _ _ _
      | exact sleuthref1_TermMay.mono _ _
      | exact LeO.none _
      | refine LeO.ite ?_ ?_
      | refine LeO.bind ?_ (fun _ => ?_)
set_option maxHeartbeats 8000000 in
set_option maxRecDepth 100000 in
theorem sleuthref12_texts.calls (k : Nat) (a0_0 : Int) (a0_1 : Int) (A0_2 : Option Addr) (c0_2 : Nat) (l0_2 : List ByteArray) (a0_3 : ByteArray) (r : Bool) (w : World) (hr0_2 : Kd.C Kd.string w A0_2 l0_2.length l0_2) (hc0_2 : l0_2.length ≤ c0_2) (h : sleuthref12_texts.f k a0_0 a0_1 l0_2 a0_3 = some r) :
    Calls Tryd.prog 42 #[.agg #[.int .i64 a0_0, .int .i64 a0_1, .slice A0_2 l0_2.length c0_2, .string a0_3]] w fun e w' => e = .returned (.bool r) ∧ Below w.heap.size w w' := by
  have hu24 := Tryd.underlying24
  have HR0_2 := Aside0.mk hr0_2
  have HC0_2 := Aside0.mk hc0_2
  clear hr0_2 hc0_2
  have HB := Aside0.mk (Below.refl w.heap.size w)
  have H : (sleuthref12_texts.l0 k 0 a0_0 a0_1 l0_2 a0_3) = some r := h
  clear h
  have H' := Aside0.mk H
  clear H
  go_enter Tryd.func42, Tryd.ntmps42
  go_wp2_with (first | ((with_reducible refine gate_dst (N := 1) rfl ?_); (try (refine gate_guard (by rfl) ?_; dsimp only)); refine box_event ?hg (N := 1) ?hd (cs := #[.int .i64 a0_0, .int .i64 a0_1, .slice A0_2 l0_2.length c0_2, .string a0_3]) (t := 24) ?hr ?_; (case hd => rfl); (case hg => rfl); (case hr => first | (go_simp; done) | (go_simp; rfl)); intro gb269 hg w2 hbox hb; have n0_ := Aside0.mk (below_step (by repeat (first | (with_reducible first | exact HB.out | apply below_alloc | apply pw_below_drewN | apply below_drew1) | exact HB.out)) hb); have n1_ := Aside0.mk (hbox); have n2_ := Aside0.mk ((by rw [hg]; exact (below_size (by repeat (first | (with_reducible first | exact HB.out | apply below_alloc | apply pw_below_drewN | apply below_drew1) | exact HB.out))) : w.heap.size ≤ gb269)); have n3_ := Aside0.mk ((by rw [hg]; exact (below_size (by repeat (first | (with_reducible first | exact HB.out | apply below_alloc | apply pw_below_drewN | apply below_drew1) | exact HB.out))) : w.heap.size ≤ gb269)); clear HB; have HB := n0_; have BK269 := n1_; have GW269 := n2_; have GE269 := n3_; clear n0_ n1_ n2_ n3_; clear hb hbox hg))
  (try simp only [Act.put, List.setIfInBounds_toArray, List.set_cons_zero, List.set_cons_succ])
  go_loopg [3] k (fun kq v3 w' => ∃ (x3_1 : Int), v3 = .int .i64 x3_1 ∧ Aside0 (sleuthref12_texts.l0 kq x3_1 a0_0 a0_1 l0_2 a0_3 = some r) ∧ Aside0 (kq ≤ k) ∧ Aside0 (w'.heap[gb269]? = some (.cells #[.int .i64 a0_0, .int .i64 a0_1, (.slice A0_2 l0_2.length c0_2), .string a0_3] 24 (0, 0))) ∧ Aside0 (Below w.heap.size w w'))
  case atStart => exact ⟨(0), (by first | rfl | (simp; done) | (simp [*]; done)), H', ⟨Nat.le_refl _⟩, ⟨by (with_reducible repeat (first | refine blk_drewN ?_ _ | refine blk_drew ?_ | refine blk_alloc ?_ _)); exact BK269.out⟩, ⟨by repeat (first | (with_reducible first | exact HB.out | apply below_alloc | apply pw_below_drewN | apply below_drew1 | refine below_set ?_ GE269.out) | exact HB.out)⟩⟩
  case round =>
    clear H'
    try clear p2
    obtain ⟨x3_1, rfl, HA, HK1, BK269, HB⟩ := hrel
    cases gk with
    | zero => exact absurd HA.out (by simp [sleuthref12_texts.l0])
    | succ k1 =>
      have H := HA.out
      clear HA
      simp only [sleuthref12_texts.l0] at H
      by_cases c3 : x3_1 < (l0_2.length : Int)
      · rw [if_pos c3] at H
        have c3b0 : decide (x3_1 < (l0_2.length : Int)) = true := decide_eq_true c3
        clear c3
        by_cases c4 : 0 ≤ x3_1
        · rw [if_pos c4] at H
          have c4b0 : decide (0 ≤ x3_1) = true := decide_eq_true c4
          clear c4
          replace H := Option.bind_eq_some_iff.mp H
          obtain ⟨t271, A50, H⟩ := H
          replace H : (if t271 = true then (sleuthref12_texts.l0 k1 (wrap64 (x3_1 + 1)) a0_0 a0_1 l0_2 a0_3) else (some false)) = some r := H
          have A5 := Aside0.mk A50
          clear A50
          by_cases c6 : t271 = true
          · subst c6
            have H1 : (sleuthref12_texts.l0 k1 (wrap64 (x3_1 + 1)) a0_0 a0_1 l0_2 a0_3) = some r := by rw [if_pos rfl] at H; exact H
            clear H
            have H := H1
            clear H1
            have H' := Aside0.mk H
            clear H
            have hcz7_0 : wr.cell? ⟨gb269, 0, none⟩ = some (.int .i64 a0_0) := (blk_cell BK269.out 0).trans rfl
            have hcz7_1 : wr.cell? ⟨gb269, 1, none⟩ = some (.int .i64 a0_1) := (blk_cell BK269.out 1).trans rfl
            have hcz7_2 : wr.cell? ⟨gb269, 2, none⟩ = some (.slice A0_2 l0_2.length c0_2) := (blk_cell BK269.out 2).trans rfl
            have hcz7_3 : wr.cell? ⟨gb269, 3, none⟩ = some (.string a0_3) := (blk_cell BK269.out 3).trans rfl
            have hfz7_0 := blk_frozen BK269.out 0
            have hfz7_1 := blk_frozen BK269.out 1
            have hfz7_2 := blk_frozen BK269.out 2
            have hfz7_3 := blk_frozen BK269.out 3
            have p270 : 0 ≤ (x3_1 : Int) := of_decide_eq_true (by first | (with_reducible assumption) | assumption)
            have q270 : x3_1 < (l0_2.length : Int) := of_decide_eq_true (by first | (with_reducible assumption) | assumption)
            obtain ⟨ad270, e270, hx270_0⟩ := Kd.at_string HR0_2.out x3_1 p270 q270
            cases e270
            replace hx270_0 := (HB.out.cell (World.block_lt_of_cell? w _ hx270_0)).trans hx270_0
            replace p270 := eq_true p270
            replace q270 := eq_true q270
            go_wp2_with (first | ((with_reducible refine gate_callee (f := 73) rfl ?_); refine goesL_ (some 16) rfl rfl Tryd.func73 (by kernel_rfl) rfl #[.string (rdOf ByteArray.empty l0_2 x3_1)] rfl (by (try simp only [List.map_toArray, List.map_cons, List.map_nil]); first | done | rfl | (simp only [List.length_drop, List.length_take]; rfl)) ?_; (with_reducible refine (sleuthref1_TermMay.calls k1 (rdOf ByteArray.empty l0_2 x3_1) true _ A5.out).mono ?_); rintro e w8 ⟨rfl, hb⟩; refine ⟨_, rfl, ?_⟩; have n0_ := Aside0.mk (blk_below (g := gb269) (o := .cells #[.int .i64 a0_0, .int .i64 a0_1, .slice (some ad270) l0_2.length c0_2, .string a0_3] 24 (0, 0)) (by (with_reducible repeat (first | refine blk_drewN ?_ _ | refine blk_drew ?_ | refine blk_alloc ?_ _)); exact BK269.out) hb); have n1_ := Aside0.mk (below_step (by repeat (first | (with_reducible first | exact HB.out | apply below_alloc | apply pw_below_drewN | apply below_drew1 | refine below_set ?_ GE269.out) | exact HB.out)) hb); clear BK269; clear HB; have BK269 := n0_; have HB := n1_; clear n0_ n1_; (try clear hb); (try clear hb2); (try clear hk); (try clear hi)))
            go_roundg k1
            case measure => have := HK1.out; omega
            case rel => exact ⟨(wrap64 (x3_1 + 1)), (by first | rfl | (simp; done) | (simp [*]; done)), H', ⟨by have := HK1.out; omega⟩, ⟨by (with_reducible repeat (first | refine blk_drewN ?_ _ | refine blk_drew ?_ | refine blk_alloc ?_ _)); exact BK269.out⟩, ⟨by repeat (first | (with_reducible first | exact HB.out | apply below_alloc | apply pw_below_drewN | apply below_drew1 | refine below_set ?_ GE269.out) | exact HB.out)⟩⟩
          · replace c6 := Bool.eq_false_iff.mpr c6
            subst c6
            have H1 : (some false) = some r := by rw [if_neg (show ¬ (false = true) by decide)] at H; exact H
            clear H
            have H := H1
            clear H1
            obtain rfl := Option.some.inj H
            have hcz9_0 : wr.cell? ⟨gb269, 0, none⟩ = some (.int .i64 a0_0) := (blk_cell BK269.out 0).trans rfl
            have hcz9_1 : wr.cell? ⟨gb269, 1, none⟩ = some (.int .i64 a0_1) := (blk_cell BK269.out 1).trans rfl
            have hcz9_2 : wr.cell? ⟨gb269, 2, none⟩ = some (.slice A0_2 l0_2.length c0_2) := (blk_cell BK269.out 2).trans rfl
            have hcz9_3 : wr.cell? ⟨gb269, 3, none⟩ = some (.string a0_3) := (blk_cell BK269.out 3).trans rfl
            have hfz9_0 := blk_frozen BK269.out 0
            have hfz9_1 := blk_frozen BK269.out 1
            have hfz9_2 := blk_frozen BK269.out 2
            have hfz9_3 := blk_frozen BK269.out 3
            have p270 : 0 ≤ (x3_1 : Int) := of_decide_eq_true (by first | (with_reducible assumption) | assumption)
            have q270 : x3_1 < (l0_2.length : Int) := of_decide_eq_true (by first | (with_reducible assumption) | assumption)
            obtain ⟨ad270, e270, hx270_0⟩ := Kd.at_string HR0_2.out x3_1 p270 q270
            cases e270
            replace hx270_0 := (HB.out.cell (World.block_lt_of_cell? w _ hx270_0)).trans hx270_0
            replace p270 := eq_true p270
            replace q270 := eq_true q270
            go_wp2_with (first | ((with_reducible refine gate_callee (f := 73) rfl ?_); refine goesL_ (some 16) rfl rfl Tryd.func73 (by kernel_rfl) rfl #[.string (rdOf ByteArray.empty l0_2 x3_1)] rfl (by (try simp only [List.map_toArray, List.map_cons, List.map_nil]); first | done | rfl | (simp only [List.length_drop, List.length_take]; rfl)) ?_; (with_reducible refine (sleuthref1_TermMay.calls k1 (rdOf ByteArray.empty l0_2 x3_1) false _ A5.out).mono ?_); rintro e w10 ⟨rfl, hb⟩; refine ⟨_, rfl, ?_⟩; have n0_ := Aside0.mk (blk_below (g := gb269) (o := .cells #[.int .i64 a0_0, .int .i64 a0_1, .slice (some ad270) l0_2.length c0_2, .string a0_3] 24 (0, 0)) (by (with_reducible repeat (first | refine blk_drewN ?_ _ | refine blk_drew ?_ | refine blk_alloc ?_ _)); exact BK269.out) hb); have n1_ := Aside0.mk (below_step (by repeat (first | (with_reducible first | exact HB.out | apply below_alloc | apply pw_below_drewN | apply below_drew1 | refine below_set ?_ GE269.out) | exact HB.out)) hb); clear BK269; clear HB; have BK269 := n0_; have HB := n1_; clear n0_ n1_; (try clear hb); (try clear hb2); (try clear hk); (try clear hi)))
            go_ret
            exact ⟨by first | rfl | (simp [errW_none, errW_some] <;> rfl) | (simp [*, errW_none, errW_some] <;> rfl), by repeat (first | (with_reducible first | exact HB.out | apply below_alloc | apply pw_below_drewN | apply below_drew1 | refine below_set ?_ GE269.out) | exact HB.out)⟩
        · rw [if_neg c4] at H
          exact absurd H (by simp)
      · rw [if_neg c3] at H
        have c3b0 : decide (x3_1 < (l0_2.length : Int)) = false := decide_eq_false c3
        clear c3
        replace H := Option.bind_eq_some_iff.mp H
        obtain ⟨t272, A110, H⟩ := H
        replace H : (if t272 = true then (if (l0_2.length : Int) ≤ 3 then ((sleuthref1_TermMay.f k1 a0_3).bind fun t273 => (some t273)) else (some false)) else (some false)) = some r := H
        have A11 := Aside0.mk A110
        clear A110
        by_cases c12 : t272 = true
        · subst c12
          have H1 : (if (l0_2.length : Int) ≤ 3 then ((sleuthref1_TermMay.f k1 a0_3).bind fun t273 => (some t273)) else (some false)) = some r := by rw [if_pos rfl] at H; exact H
          clear H
          have H := H1
          clear H1
          by_cases c13 : (l0_2.length : Int) ≤ 3
          · rw [if_pos c13] at H
            have c13b0 : decide ((l0_2.length : Int) ≤ 3) = true := decide_eq_true c13
            have c13b1 : decide (l0_2.length ≤ 3) = true := decide_eq_true (by omega)
            clear c13
            replace H := Option.bind_eq_some_iff.mp H
            obtain ⟨t273, A140, H⟩ := H
            replace H : (some t273) = some r := H
            have A14 := Aside0.mk A140
            clear A140
            obtain rfl := Option.some.inj H
            have hcz15_0 : wr.cell? ⟨gb269, 0, none⟩ = some (.int .i64 a0_0) := (blk_cell BK269.out 0).trans rfl
            have hcz15_1 : wr.cell? ⟨gb269, 1, none⟩ = some (.int .i64 a0_1) := (blk_cell BK269.out 1).trans rfl
            have hcz15_2 : wr.cell? ⟨gb269, 2, none⟩ = some (.slice A0_2 l0_2.length c0_2) := (blk_cell BK269.out 2).trans rfl
            have hcz15_3 : wr.cell? ⟨gb269, 3, none⟩ = some (.string a0_3) := (blk_cell BK269.out 3).trans rfl
            have hfz15_0 := blk_frozen BK269.out 0
            have hfz15_1 := blk_frozen BK269.out 1
            have hfz15_2 := blk_frozen BK269.out 2
            have hfz15_3 := blk_frozen BK269.out 3
            go_wp2_with (first | ((with_reducible refine gate_callee (f := 43) rfl ?_); refine goesL_ (some 20) rfl rfl Tryd.func43 (by kernel_rfl) rfl #[.int .i64 a0_0, .int .i64 0, .int .i64 7] rfl (by (try simp only [List.map_toArray, List.map_cons, List.map_nil]); first | done | rfl | (simp only [List.length_drop, List.length_take]; rfl)) ?_; (with_reducible refine (sleuthref12_upTo.calls a0_0 0 7 true _ A11.out).mono ?_); rintro e w' ⟨rfl, ⟨nd, rfl⟩⟩; refine ⟨_, rfl, ?_⟩) | (go_at_call 73; (with_reducible refine (sleuthref1_TermMay.calls k1 a0_3 t273 _ A14.out).mono ?_); rintro e w16 ⟨rfl, hb⟩; have n0_ := Aside0.mk (blk_below (g := gb269) (o := .cells #[.int .i64 a0_0, .int .i64 a0_1, .slice A0_2 l0_2.length c0_2, .string a0_3] 24 (0, 0)) (by (with_reducible repeat (first | refine blk_drewN ?_ _ | refine blk_drew ?_ | refine blk_alloc ?_ _)); exact BK269.out) hb); have n1_ := Aside0.mk (below_step (by repeat (first | (with_reducible first | exact HB.out | apply below_alloc | apply pw_below_drewN | apply below_drew1 | refine below_set ?_ GE269.out) | exact HB.out)) hb); clear BK269; clear HB; have BK269 := n0_; have HB := n1_; clear n0_ n1_; (try clear hb); (try clear hb2); (try clear hk); (try clear hi)))
            go_ret
            exact ⟨by first | rfl | (simp [errW_none, errW_some] <;> rfl) | (simp [*, errW_none, errW_some] <;> rfl), by repeat (first | (with_reducible first | exact HB.out | apply below_alloc | apply pw_below_drewN | apply below_drew1 | refine below_set ?_ GE269.out) | exact HB.out)⟩
          · rw [if_neg c13] at H
            have c13b0 : decide ((l0_2.length : Int) ≤ 3) = false := decide_eq_false c13
            have c13b1 : decide (l0_2.length ≤ 3) = false := decide_eq_false (by omega)
            clear c13
            obtain rfl := Option.some.inj H
            have hcz17_0 : wr.cell? ⟨gb269, 0, none⟩ = some (.int .i64 a0_0) := (blk_cell BK269.out 0).trans rfl
            have hcz17_1 : wr.cell? ⟨gb269, 1, none⟩ = some (.int .i64 a0_1) := (blk_cell BK269.out 1).trans rfl
            have hcz17_2 : wr.cell? ⟨gb269, 2, none⟩ = some (.slice A0_2 l0_2.length c0_2) := (blk_cell BK269.out 2).trans rfl
            have hcz17_3 : wr.cell? ⟨gb269, 3, none⟩ = some (.string a0_3) := (blk_cell BK269.out 3).trans rfl
            have hfz17_0 := blk_frozen BK269.out 0
            have hfz17_1 := blk_frozen BK269.out 1
            have hfz17_2 := blk_frozen BK269.out 2
            have hfz17_3 := blk_frozen BK269.out 3
            go_wp2_with (first | ((with_reducible refine gate_callee (f := 43) rfl ?_); refine goesL_ (some 20) rfl rfl Tryd.func43 (by kernel_rfl) rfl #[.int .i64 a0_0, .int .i64 0, .int .i64 7] rfl (by (try simp only [List.map_toArray, List.map_cons, List.map_nil]); first | done | rfl | (simp only [List.length_drop, List.length_take]; rfl)) ?_; (with_reducible refine (sleuthref12_upTo.calls a0_0 0 7 true _ A11.out).mono ?_); rintro e w' ⟨rfl, ⟨nd, rfl⟩⟩; refine ⟨_, rfl, ?_⟩))
            go_ret
            exact ⟨by first | rfl | (simp [errW_none, errW_some] <;> rfl) | (simp [*, errW_none, errW_some] <;> rfl), by repeat (first | (with_reducible first | exact HB.out | apply below_alloc | apply pw_below_drewN | apply below_drew1 | refine below_set ?_ GE269.out) | exact HB.out)⟩
        · replace c12 := Bool.eq_false_iff.mpr c12
          subst c12
          have H1 : (some false) = some r := by rw [if_neg (show ¬ (false = true) by decide)] at H; exact H
          clear H
          have H := H1
          clear H1
          obtain rfl := Option.some.inj H
          have hcz18_0 : wr.cell? ⟨gb269, 0, none⟩ = some (.int .i64 a0_0) := (blk_cell BK269.out 0).trans rfl
          have hcz18_1 : wr.cell? ⟨gb269, 1, none⟩ = some (.int .i64 a0_1) := (blk_cell BK269.out 1).trans rfl
          have hcz18_2 : wr.cell? ⟨gb269, 2, none⟩ = some (.slice A0_2 l0_2.length c0_2) := (blk_cell BK269.out 2).trans rfl
          have hcz18_3 : wr.cell? ⟨gb269, 3, none⟩ = some (.string a0_3) := (blk_cell BK269.out 3).trans rfl
          have hfz18_0 := blk_frozen BK269.out 0
          have hfz18_1 := blk_frozen BK269.out 1
          have hfz18_2 := blk_frozen BK269.out 2
          have hfz18_3 := blk_frozen BK269.out 3
          go_wp2_with (first | ((with_reducible refine gate_callee (f := 43) rfl ?_); refine goesL_ (some 20) rfl rfl Tryd.func43 (by kernel_rfl) rfl #[.int .i64 a0_0, .int .i64 0, .int .i64 7] rfl (by (try simp only [List.map_toArray, List.map_cons, List.map_nil]); first | done | rfl | (simp only [List.length_drop, List.length_take]; rfl)) ?_; (with_reducible refine (sleuthref12_upTo.calls a0_0 0 7 false _ A11.out).mono ?_); rintro e w' ⟨rfl, ⟨nd, rfl⟩⟩; refine ⟨_, rfl, ?_⟩))
          go_ret
          exact ⟨by first | rfl | (simp [errW_none, errW_some] <;> rfl) | (simp [*, errW_none, errW_some] <;> rfl), by repeat (first | (with_reducible first | exact HB.out | apply below_alloc | apply pw_below_drewN | apply below_drew1 | refine below_set ?_ GE269.out) | exact HB.out)⟩

end Go.Proofs.YtkbaelhcijibiaaDoor.Px
