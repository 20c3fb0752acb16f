/- Texts of this claim, one behind the other: Pxxtermcut, PxxtermMay, PxxtermAll, Given3, PxxtrailMay, Given4, PureSizes, Plain1, Pxxsleuthref1bad, Pxxsleuthref1digits. -/
import Derived.Test.YtkbaelhcijibiaaDoorTs1
import Derived.Lib.Hide
import Derived.BigQuiet
import Derived.Deep.QuietTactic

/- Of each function of this text: a plain Lean function and a proof that the machine's call comes to its answers; printed by this session's program. -/
namespace Go.Proofs.YtkbaelhcijibiaaDoor.Px
open Go.RowKit Go.Proofs.YtkbaelhcijibiaaDoorW.PrintWords Go.Proofs.YtkbaelhcijibiaaDoorW.PrintLast Go.Proofs.YtkbaelhcijibiaaDoorW.PrintMore
attribute [local go_sem] max2_int min2_int max_two min_two max_three min_three max_four min_four   -- for this text's walks alone
set_option linter.unusedVariables false
set_option linter.unusedSimpArgs false

/-! ### term_cut: function 90 -/
mutual
def term_cut.j0 : Nat → ByteArray → Int → Bool → Bool → Option (Int × Int × List ByteArray × ByteArray × Bool)
  | 0, _, _, _, _ => none
  | k + 1, x8, x11, x12, x52 => if x52 = true then (some (2, x11, ([] : List ByteArray), x8, x12)) else (term_cut.l0 k x8 x11 ([] : List ByteArray))
def term_cut.l0 : Nat → ByteArray → Int → List ByteArray → Option (Int × Int × List ByteArray × ByteArray × Bool)
  | 0, _, _, _ => none
  | k + 1, x8, x11, x13 => if (x13.length : Int) < 3 then (if 1 ≤ (x8.size : Int) then ((term_cut.f k (x8.extract 1 x8.size)).bind fun bt118 => (if bt118.2.2.2.2 = true then (if 0 ≤ (wrap64 (((x8.extract 1 x8.size).size : Int) - (bt118.2.2.2.1.size : Int))) then (if (wrap64 (((x8.extract 1 x8.size).size : Int) - (bt118.2.2.2.1.size : Int))) ≤ ((x8.extract 1 x8.size).size : Int) then (if x13.length < 8796093022208 then ((some (x13 ++ [(x8.extract 1 x8.size).extract 0 ((wrap64 (((x8.extract 1 x8.size).size : Int) - (bt118.2.2.2.1.size : Int))) : Int).toNat] : List ByteArray)).bind fun y125 => ((strings_HasPrefix.f bt118.2.2.2.1 (⟨#[32]⟩ : ByteArray)).bind fun t128 => (if t128 = true then (term_cut.l0 k bt118.2.2.2.1 x11 y125) else ((strings_CutPrefix.f bt118.2.2.2.1 (⟨#[41]⟩ : ByteArray)).bind fun bt129 => (some (2, x11, y125, bt129.1, bt129.2)))))) else (none)) else (none)) else (none)) else (some (0, 0, ([] : List ByteArray), (⟨#[]⟩ : ByteArray), false)))) else (none)) else ((strings_CutPrefix.f x8 (⟨#[41]⟩ : ByteArray)).bind fun bt116 => (some (2, x11, x13, bt116.1, bt116.2)))
def term_cut.f : Nat → ByteArray → Option (Int × Int × List ByteArray × ByteArray × Bool)
  | 0, _ => none
  | k + 1, a0 => (term_word.f a0).bind fun bt109 => (if bt109.1.toList = ([95] : List UInt8) then (some (0, 0, ([] : List ByteArray), bt109.2, true)) else (if bt109.1.toList = ([33] : List UInt8) then (some (3, 0, ([] : List ByteArray), bt109.2, true)) else ((term_Number.f bt109.1).bind fun bt111 => (if bt111.2 = true then (some (1, bt111.1, ([] : List ByteArray), bt109.2, true)) else ((term_Tag.f bt109.1).bind fun bt113 => (if bt113.2 = true then ((strings_HasPrefix.f bt109.2 (⟨#[40]⟩ : ByteArray)).bind fun t115 => (term_cut.j0 k bt109.2 bt113.1 bt113.2 (!t115))) else (term_cut.j0 k bt109.2 bt113.1 bt113.2 true)))))))
end
theorem term_cut.mono_l : ∀ k, (∀ y0, LeO (term_cut.f k y0) (term_cut.f (k + 1) y0)) ∧ (∀ y0 y1 y2 y3, LeO (term_cut.j0 k y0 y1 y2 y3) (term_cut.j0 (k + 1) y0 y1 y2 y3)) ∧ (∀ y0 y1 y2, LeO (term_cut.l0 k y0 y1 y2) (term_cut.l0 (k + 1) y0 y1 y2))
  | 0 => ⟨fun _ r h => by simp [term_cut.f] at h, fun _ _ _ _ r h => by simp [term_cut.j0] at h, fun _ _ _ r h => by simp [term_cut.l0] at h⟩
  | k + 1 => by
    obtain ⟨ih0, ih1, ih2⟩ := term_cut.mono_l k
    refine ⟨?_, ?_, ?_⟩
    · intro y0
      unfold term_cut.f
      repeat' first
      | (with_reducible exact ih0 _)
      | (with_reducible exact ih1 _ _ _ _)
      | (with_reducible exact ih2 _ _ _)
      | (with_reducible exact LeO.refl _)
      | (with_reducible exact LeO.none _)
      | (with_reducible refine LeO.ite ?_ ?_)
      | (with_reducible refine LeO.bind ?_ (fun _ => ?_))
      | exact ih0 _
      | exact ih1 _ _ _ _
      | exact ih2 _ _ _
      | exact LeO.none _
      | refine LeO.ite ?_ ?_
      | refine LeO.bind ?_ (fun _ => ?_)
    · intro y0 y1 y2 y3
      unfold term_cut.j0
      repeat' first
      | (with_reducible exact ih0 _)
      | (with_reducible exact ih1 _ _ _ _)
      | (with_reducible exact ih2 _ _ _)
      | (with_reducible exact LeO.refl _)
      | (with_reducible exact LeO.none _)
      | (with_reducible refine LeO.ite ?_ ?_)
      | (with_reducible refine LeO.bind ?_ (fun _ => ?_))
      | exact ih0 _
      | exact ih1 _ _ _ _
      | exact ih2 _ _ _
      | exact LeO.none _
      | refine LeO.ite ?_ ?_
      | refine LeO.bind ?_ (fun _ => ?_)
    · intro y0 y1 y2
      unfold term_cut.l0
      repeat' first
      | (with_reducible exact ih0 _)
      | (with_reducible exact ih1 _ _ _ _)
      | (with_reducible exact ih2 _ _ _)
      | (with_reducible exact LeO.refl _)
      | (with_reducible exact LeO.none _)
      | (with_reducible refine LeO.ite ?_ ?_)
      | (with_reducible refine LeO.bind ?_ (fun _ => ?_))
      | exact ih0 _
      | exact ih1 _ _ _ _
      | exact ih2 _ _ _
      | exact LeO.none _
      | refine LeO.ite ?_ ?_
      | refine LeO.bind ?_ (fun _ => ?_)
theorem term_cut.mono : ∀ a0 k, LeO (term_cut.f k a0) (term_cut.f (k + 1) a0) := by
  intro a0 k
  obtain ⟨ih0, ih1, ih2⟩ := term_cut.mono_l k
  exact ih0 a0
set_option maxHeartbeats 8000000 in
set_option maxRecDepth 100000 in
theorem term_cut.calls (k : Nat) : ∀ (a0 : ByteArray) (r1 : Int) (r2 : Int) (r3 : List ByteArray) (r4 : ByteArray) (r5 : Bool) (w : World) (hL : Laid w) (h : term_cut.f k a0 = some (r1, r2, r3, r4, r5)),
    Calls Tryd.prog 90 #[.string a0] w fun e w' => ∃ v2_ : Value, e = .returned (.tuple #[.int .i64 r1, .int .i64 r2, v2_, .string r4, .bool r5]) ∧ Kd.R Kd.string 9 w' w.heap.size (fun _ => True) v2_ r3 ∧ Below w.heap.size w w' := by
  induction k using Nat.strongRecOn with
  | _ k ih =>
  intro a0 r1 r2 r3 r4 r5 w hL h
  cases k with
  | zero => exact absurd h (by simp [term_cut.f])
  | succ k =>
  simp only [term_cut.f] at h
  have HLaid := Aside0.mk hL
  clear hL
  have HB := Aside0.mk (Below.refl w.heap.size w)
  have H : ((term_word.f a0).bind fun bt109 => (if bt109.1.toList = ([95] : List UInt8) then (some (0, 0, ([] : List ByteArray), bt109.2, true)) else (if bt109.1.toList = ([33] : List UInt8) then (some (3, 0, ([] : List ByteArray), bt109.2, true)) else ((term_Number.f bt109.1).bind fun bt111 => (if bt111.2 = true then (some (1, bt111.1, ([] : List ByteArray), bt109.2, true)) else ((term_Tag.f bt109.1).bind fun bt113 => (if bt113.2 = true then ((strings_HasPrefix.f bt109.2 (⟨#[40]⟩ : ByteArray)).bind fun t115 => (term_cut.j0 k bt109.2 bt113.1 bt113.2 (!t115))) else (term_cut.j0 k bt109.2 bt113.1 bt113.2 true)))))))) = some (r1, r2, r3, r4, r5) := h
  clear h
  replace H := Option.bind_eq_some_iff.mp H
  obtain ⟨⟨t109, t110⟩, A20, H⟩ := H
  replace H : (if t109.toList = ([95] : List UInt8) then (some (0, 0, ([] : List ByteArray), t110, true)) else (if t109.toList = ([33] : List UInt8) then (some (3, 0, ([] : List ByteArray), t110, true)) else ((term_Number.f t109).bind fun bt111 => (if bt111.2 = true then (some (1, bt111.1, ([] : List ByteArray), t110, true)) else ((term_Tag.f t109).bind fun bt113 => (if bt113.2 = true then ((strings_HasPrefix.f t110 (⟨#[40]⟩ : ByteArray)).bind fun t115 => (term_cut.j0 k t110 bt113.1 bt113.2 (!t115))) else (term_cut.j0 k t110 bt113.1 bt113.2 true))))))) = some (r1, r2, r3, r4, r5) := H
  have A2 := Aside0.mk A20
  clear A20
  by_cases c3 : t109.toList = ([95] : List UInt8)
  · rw [if_pos c3] at H
    have c3b0 : (t109.toList == ([95] : List UInt8)) = true := beq_iff_eq.mpr c3
    have c3b1 : (t109.toList != ([95] : List UInt8)) = false := bne_eq_false_iff_eq.mpr c3
    clear c3
    simp only [Option.some.injEq, Prod.mk.injEq] at H
    obtain ⟨rfl, rfl, rfl, rfl, rfl⟩ := H
    go_enter Tryd.func90, Tryd.ntmps90
    go_wp2_with (first | ((with_reducible refine gate_callee (f := 94) rfl ?_); refine goesL_ (some 24) rfl rfl Tryd.func94 (by kernel_rfl) rfl #[.string a0] rfl (by (try simp only [List.map_toArray, List.map_cons, List.map_nil]); first | done | rfl | (simp only [List.length_drop, List.length_take]; rfl)) ?_; (with_reducible refine (term_word.calls a0 t109 t110 _ A2.out).mono ?_); rintro e w4 ⟨rfl, hb⟩; refine ⟨_, rfl, ?_⟩; have n0_ := Aside0.mk (below_step (by repeat (first | (with_reducible first | exact HB.out | apply below_alloc | apply pw_below_drewN | apply below_drew1) | exact HB.out)) hb); clear HB; have HB := n0_; clear n0_; (try clear hb); (try clear hb2); (try clear hk); (try clear hi)))
    refine bodyPost_ret (results_list (rs := [.tmp 2, .tmp 3, .tmp 4, .tmp 5, .tmp 6]) rfl (by simp) (.tmp (.tmp (.tmp (.tmp (.tmp .nil)))))) rfl ?_
    exact ⟨_, by first | rfl | (simp [errW_none, errW_some] <;> rfl) | (simp [*, errW_none, errW_some] <;> rfl), by first | exact Kd.R_nil _ _ _ _ _ | exact Kd.N_nil _ _ _ _ _ | exact Kd.V_nil _ _ _ _ _ | exact Kd.Q_nil _ _ _ _ _ | exact Kd.S_nil _ _ _ _ _, by repeat (first | (with_reducible first | exact HB.out | apply below_alloc | apply pw_below_drewN | apply below_drew1) | exact HB.out)⟩
  · rw [if_neg c3] at H
    have c3b0 : (t109.toList == ([95] : List UInt8)) = false := beq_eq_false_iff_ne.mpr c3
    have c3b1 : (t109.toList != ([95] : List UInt8)) = true := bne_iff_ne.mpr c3
    by_cases c5 : t109.toList = ([33] : List UInt8)
    · rw [if_pos c5] at H
      have c5b0 : (t109.toList == ([33] : List UInt8)) = true := beq_iff_eq.mpr c5
      have c5b1 : (t109.toList != ([33] : List UInt8)) = false := bne_eq_false_iff_eq.mpr c5
      clear c5
      simp only [Option.some.injEq, Prod.mk.injEq] at H
      obtain ⟨rfl, rfl, rfl, rfl, rfl⟩ := H
      go_enter Tryd.func90, Tryd.ntmps90
      go_wp2_with (first | ((with_reducible refine gate_callee (f := 94) rfl ?_); refine goesL_ (some 24) rfl rfl Tryd.func94 (by kernel_rfl) rfl #[.string a0] rfl (by (try simp only [List.map_toArray, List.map_cons, List.map_nil]); first | done | rfl | (simp only [List.length_drop, List.length_take]; rfl)) ?_; (with_reducible refine (term_word.calls a0 t109 t110 _ A2.out).mono ?_); rintro e w6 ⟨rfl, hb⟩; refine ⟨_, rfl, ?_⟩; have n0_ := Aside0.mk (below_step (by repeat (first | (with_reducible first | exact HB.out | apply below_alloc | apply pw_below_drewN | apply below_drew1) | exact HB.out)) hb); clear HB; have HB := n0_; clear n0_; (try clear hb); (try clear hb2); (try clear hk); (try clear hi)))
      refine bodyPost_ret (results_list (rs := [.tmp 2, .tmp 3, .tmp 4, .tmp 5, .tmp 6]) rfl (by simp) (.tmp (.tmp (.tmp (.tmp (.tmp .nil)))))) rfl ?_
      exact ⟨_, by first | rfl | (simp [errW_none, errW_some] <;> rfl) | (simp [*, errW_none, errW_some] <;> rfl), by first | exact Kd.R_nil _ _ _ _ _ | exact Kd.N_nil _ _ _ _ _ | exact Kd.V_nil _ _ _ _ _ | exact Kd.Q_nil _ _ _ _ _ | exact Kd.S_nil _ _ _ _ _, by repeat (first | (with_reducible first | exact HB.out | apply below_alloc | apply pw_below_drewN | apply below_drew1) | exact HB.out)⟩
    · rw [if_neg c5] at H
      have c5b0 : (t109.toList == ([33] : List UInt8)) = false := beq_eq_false_iff_ne.mpr c5
      have c5b1 : (t109.toList != ([33] : List UInt8)) = true := bne_iff_ne.mpr c5
      replace H := Option.bind_eq_some_iff.mp H
      obtain ⟨⟨t111, t112⟩, A70, H⟩ := H
      replace H : (if t112 = true then (some (1, t111, ([] : List ByteArray), t110, true)) else ((term_Tag.f t109).bind fun bt113 => (if bt113.2 = true then ((strings_HasPrefix.f t110 (⟨#[40]⟩ : ByteArray)).bind fun t115 => (term_cut.j0 k t110 bt113.1 bt113.2 (!t115))) else (term_cut.j0 k t110 bt113.1 bt113.2 true)))) = some (r1, r2, r3, r4, r5) := H
      have A7 := Aside0.mk A70
      clear A70
      by_cases c8 : t112 = true
      · subst c8
        have H1 : (some (1, t111, ([] : List ByteArray), t110, true)) = some (r1, r2, r3, r4, r5) := by rw [if_pos rfl] at H; exact H
        clear H
        have H := H1
        clear H1
        simp only [Option.some.injEq, Prod.mk.injEq] at H
        obtain ⟨rfl, rfl, rfl, rfl, rfl⟩ := H
        go_enter Tryd.func90, Tryd.ntmps90
        go_wp2_with (first | ((with_reducible refine gate_callee (f := 94) rfl ?_); refine goesL_ (some 24) rfl rfl Tryd.func94 (by kernel_rfl) rfl #[.string a0] rfl (by (try simp only [List.map_toArray, List.map_cons, List.map_nil]); first | done | rfl | (simp only [List.length_drop, List.length_take]; rfl)) ?_; (with_reducible refine (term_word.calls a0 t109 t110 _ A2.out).mono ?_); rintro e w9 ⟨rfl, hb⟩; refine ⟨_, rfl, ?_⟩; have n0_ := Aside0.mk (below_step (by repeat (first | (with_reducible first | exact HB.out | apply below_alloc | apply pw_below_drewN | apply below_drew1) | exact HB.out)) hb); clear HB; have HB := n0_; clear n0_; (try clear hb); (try clear hb2); (try clear hk); (try clear hi)) | ((with_reducible refine gate_callee (f := 95) rfl ?_); refine goesL_ (some 35) rfl rfl Tryd.func95 (by kernel_rfl) rfl #[.string t109] rfl (by (try simp only [List.map_toArray, List.map_cons, List.map_nil]); first | done | rfl | (simp only [List.length_drop, List.length_take]; rfl)) ?_; (with_reducible refine (term_Number.calls t109 t111 true _ ?side1 A7.out).mono ?_); (case side1 => exact Laid.below HLaid.out (by repeat (first | (with_reducible first | exact HB.out | apply below_alloc | apply pw_below_drewN | apply below_drew1) | exact HB.out))); rintro e w10 ⟨rfl, hb⟩; refine ⟨_, rfl, ?_⟩; have n0_ := Aside0.mk (below_step (by repeat (first | (with_reducible first | exact HB.out | apply below_alloc | apply pw_below_drewN | apply below_drew1) | exact HB.out)) hb); clear HB; have HB := n0_; clear n0_; (try clear hb); (try clear hb2); (try clear hk); (try clear hi)))
        refine bodyPost_ret (results_list (rs := [.tmp 2, .tmp 3, .tmp 4, .tmp 5, .tmp 6]) rfl (by simp) (.tmp (.tmp (.tmp (.tmp (.tmp .nil)))))) rfl ?_
        exact ⟨_, by first | rfl | (simp [errW_none, errW_some] <;> rfl) | (simp [*, errW_none, errW_some] <;> rfl), by first | exact Kd.R_nil _ _ _ _ _ | exact Kd.N_nil _ _ _ _ _ | exact Kd.V_nil _ _ _ _ _ | exact Kd.Q_nil _ _ _ _ _ | exact Kd.S_nil _ _ _ _ _, by repeat (first | (with_reducible first | exact HB.out | apply below_alloc | apply pw_below_drewN | apply below_drew1) | exact HB.out)⟩
      · replace c8 := Bool.eq_false_iff.mpr c8
        subst c8
        have H1 : ((term_Tag.f t109).bind fun bt113 => (if bt113.2 = true then ((strings_HasPrefix.f t110 (⟨#[40]⟩ : ByteArray)).bind fun t115 => (term_cut.j0 k t110 bt113.1 bt113.2 (!t115))) else (term_cut.j0 k t110 bt113.1 bt113.2 true))) = some (r1, r2, r3, r4, r5) := by rw [if_neg (show ¬ (false = true) by decide)] at H; exact H
        clear H
        have H := H1
        clear H1
        replace H := Option.bind_eq_some_iff.mp H
        obtain ⟨⟨t113, t114⟩, A110, H⟩ := H
        replace H : (if t114 = true then ((strings_HasPrefix.f t110 (⟨#[40]⟩ : ByteArray)).bind fun t115 => (term_cut.j0 k t110 t113 t114 (!t115))) else (term_cut.j0 k t110 t113 t114 true)) = some (r1, r2, r3, r4, r5) := H
        have A11 := Aside0.mk A110
        clear A110
        have HC12 := Aside0.mk H
        clear H
        go_enter Tryd.func90, Tryd.ntmps90
        go_upto_region 10 with (first | ((with_reducible refine gate_callee (f := 94) rfl ?_); refine goesL_ (some 24) rfl rfl Tryd.func94 (by kernel_rfl) rfl #[.string a0] rfl (by (try simp only [List.map_toArray, List.map_cons, List.map_nil]); first | done | rfl | (simp only [List.length_drop, List.length_take]; rfl)) ?_; (with_reducible refine (term_word.calls a0 t109 t110 _ A2.out).mono ?_); rintro e w13 ⟨rfl, hb⟩; refine ⟨_, rfl, ?_⟩; have n0_ := Aside0.mk (below_step (by repeat (first | (with_reducible first | exact HB.out | apply below_alloc | apply pw_below_drewN | apply below_drew1) | exact HB.out)) hb); clear HB; have HB := n0_; clear n0_; (try clear hb); (try clear hb2); (try clear hk); (try clear hi)) | ((with_reducible refine gate_callee (f := 95) rfl ?_); refine goesL_ (some 35) rfl rfl Tryd.func95 (by kernel_rfl) rfl #[.string t109] rfl (by (try simp only [List.map_toArray, List.map_cons, List.map_nil]); first | done | rfl | (simp only [List.length_drop, List.length_take]; rfl)) ?_; (with_reducible refine (term_Number.calls t109 t111 false _ ?side1 A7.out).mono ?_); (case side1 => exact Laid.below HLaid.out (by repeat (first | (with_reducible first | exact HB.out | apply below_alloc | apply pw_below_drewN | apply below_drew1) | exact HB.out))); rintro e w14 ⟨rfl, hb⟩; refine ⟨_, rfl, ?_⟩; have n0_ := Aside0.mk (below_step (by repeat (first | (with_reducible first | exact HB.out | apply below_alloc | apply pw_below_drewN | apply below_drew1) | exact HB.out)) hb); clear HB; have HB := n0_; clear n0_; (try clear hb); (try clear hb2); (try clear hk); (try clear hi)) | ((with_reducible refine gate_callee (f := 96) rfl ?_); refine goesL_ (some 43) rfl rfl Tryd.func96 (by kernel_rfl) rfl #[.string t109] rfl (by (try simp only [List.map_toArray, List.map_cons, List.map_nil]); first | done | rfl | (simp only [List.length_drop, List.length_take]; rfl)) ?_; (with_reducible refine (term_Tag.calls t109 t113 t114 _ ?side1 A11.out).mono ?_); (case side1 => exact Laid.below HLaid.out (by repeat (first | (with_reducible first | exact HB.out | apply below_alloc | apply pw_below_drewN | apply below_drew1) | exact HB.out))); rintro e w15 ⟨rfl, hb⟩; refine ⟨_, rfl, ?_⟩; have n0_ := Aside0.mk (below_step (by repeat (first | (with_reducible first | exact HB.out | apply below_alloc | apply pw_below_drewN | apply below_drew1) | exact HB.out)) hb); clear HB; have HB := n0_; clear n0_; (try clear hb); (try clear hb2); (try clear hk); (try clear hi)))
        (try simp only [Act.put, List.setIfInBounds_toArray, List.set_cons_zero, List.set_cons_succ])
        go_cut [52] (fun v52 wc => ∃ (kq : Nat) (x52_11 : Bool), v52 = .bool x52_11 ∧ Aside0 (term_cut.j0 kq t110 t113 t114 x52_11 = some (r1, r2, r3, r4, r5)) ∧ Aside0 (kq ≤ k) ∧ Aside0 (Below w.heap.size w wc))
        case first =>
          have H := HC12.out
          clear HC12
          by_cases c16 : t114 = true
          · subst c16
            have H1 : ((strings_HasPrefix.f t110 (⟨#[40]⟩ : ByteArray)).bind fun t115 => (term_cut.j0 k t110 t113 true (!t115))) = some (r1, r2, r3, r4, r5) := by rw [if_pos rfl] at H; exact H
            clear H
            have H := H1
            clear H1
            replace H := Option.bind_eq_some_iff.mp H
            obtain ⟨t115, A170, H⟩ := H
            replace H : (term_cut.j0 k t110 t113 true (!t115)) = some (r1, r2, r3, r4, r5) := H
            have A17 := Aside0.mk A170
            clear A170
            have H' := Aside0.mk H
            clear H
            go_wp2_with (first | (go_at_call 97; (with_reducible refine (strings_HasPrefix.calls t110 (⟨#[40]⟩ : ByteArray) t115 _ A17.out).mono ?_); rintro e w' ⟨rfl, ⟨nd, rfl⟩⟩))
            go_meet
            case rel => exact ⟨_, (!t115), (by first | rfl | (simp; done) | (simp [*]; done)), H', ⟨by first | omega | exact Nat.le_refl _⟩, ⟨by repeat (first | (with_reducible first | exact HB.out | apply below_alloc | apply pw_below_drewN | apply below_drew1) | exact HB.out)⟩⟩
          · replace c16 := Bool.eq_false_iff.mpr c16
            subst c16
            have H1 : (term_cut.j0 k t110 t113 false true) = some (r1, r2, r3, r4, r5) := by rw [if_neg (show ¬ (false = true) by decide)] at H; exact H
            clear H
            have H := H1
            clear H1
            have H' := Aside0.mk H
            clear H
            go_wp2
            go_meet
            case rel => exact ⟨_, (true), (by first | rfl | (simp; done) | (simp [*]; done)), H', ⟨by first | omega | exact Nat.le_refl _⟩, ⟨by repeat (first | (with_reducible first | exact HB.out | apply below_alloc | apply pw_below_drewN | apply below_drew1) | exact HB.out)⟩⟩
        case rest =>
          clear HC12
          try clear c1
          try clear p2
          try clear c3
          try clear c3b0
          try clear c3b1
          try clear c5
          try clear c5b0
          try clear c5b1
          try clear c8
          try clear c9
          try clear c16
          obtain ⟨kq, x52_11, rfl, HA, HJ11, HB⟩ := hcut
          cases kq with
          | zero => exact absurd HA.out (by simp [term_cut.j0])
          | succ kj11 =>
            have H := HA.out
            clear HA
            simp only [term_cut.j0] at H
            by_cases c18 : x52_11 = true
            · subst c18
              have H1 : (some (2, t113, ([] : List ByteArray), t110, t114)) = some (r1, r2, r3, r4, r5) := by rw [if_pos rfl] at H; exact H
              clear H
              have H := H1
              clear H1
              simp only [Option.some.injEq, Prod.mk.injEq] at H
              obtain ⟨rfl, rfl, rfl, rfl, rfl⟩ := H
              go_wp2
              refine bodyPost_ret (results_list (rs := [.tmp 2, .tmp 3, .tmp 4, .tmp 5, .tmp 6]) rfl (by simp) (.tmp (.tmp (.tmp (.tmp (.tmp .nil)))))) rfl ?_
              exact ⟨_, by first | rfl | (simp [errW_none, errW_some] <;> rfl) | (simp [*, errW_none, errW_some] <;> rfl), by first | exact Kd.R_nil _ _ _ _ _ | exact Kd.N_nil _ _ _ _ _ | exact Kd.V_nil _ _ _ _ _ | exact Kd.Q_nil _ _ _ _ _ | exact Kd.S_nil _ _ _ _ _, by repeat (first | (with_reducible first | exact HB.out | apply below_alloc | apply pw_below_drewN | apply below_drew1) | exact HB.out)⟩
            · replace c18 := Bool.eq_false_iff.mpr c18
              subst c18
              have H1 : (term_cut.l0 kj11 t110 t113 ([] : List ByteArray)) = some (r1, r2, r3, r4, r5) := by rw [if_neg (show ¬ (false = true) by decide)] at H; exact H
              clear H
              have H := H1
              clear H1
              have H' := Aside0.mk H
              clear H
              go_wp2
              (try simp only [Act.put, List.setIfInBounds_toArray, List.set_cons_zero, List.set_cons_succ])
              go_loopg [8, 13] kj11 (fun kq v8 v13 w' => ∃ (x8_2 : ByteArray) (x13_2 : List ByteArray), v8 = .string x8_2 ∧ Aside0 (term_cut.l0 kq x8_2 t113 x13_2 = some (r1, r2, r3, r4, r5)) ∧ Aside0 (kq ≤ kj11) ∧ Aside0 (Kd.R Kd.string 9 w' w.heap.size (fun _ => True) v13 x13_2) ∧ Aside0 (Below w.heap.size w w'))
              case atStart => exact ⟨(t110), (([] : List ByteArray)), (by first | rfl | (simp; done) | (simp [*]; done)), H', ⟨Nat.le_refl _⟩, ⟨by first | exact Kd.R_nil _ _ _ _ _ | exact Kd.N_nil _ _ _ _ _ | exact Kd.V_nil _ _ _ _ _ | exact Kd.Q_nil _ _ _ _ _ | exact Kd.S_nil _ _ _ _ _⟩, ⟨by repeat (first | (with_reducible first | exact HB.out | apply below_alloc | apply pw_below_drewN | apply below_drew1) | exact HB.out)⟩⟩
              case round =>
                clear H'
                try clear c1
                try clear p2
                try clear c3
                try clear c3b0
                try clear c3b1
                try clear c5
                try clear c5b0
                try clear c5b1
                try clear c8
                try clear c9
                try clear c16
                try clear c18
                try clear p2
                obtain ⟨x8_2, x13_2, rfl, HA, HK2, HO_13, HB⟩ := hrel
                cases gk with
                | zero => exact absurd HA.out (by simp [term_cut.l0])
                | succ k2 =>
                  have H := HA.out
                  clear HA
                  simp only [term_cut.l0] at H
                  by_cases c19 : (x13_2.length : Int) < 3
                  · rw [if_pos c19] at H
                    have c19b0 : decide ((x13_2.length : Int) < 3) = true := decide_eq_true c19
                    have c19b1 : decide (x13_2.length < 3) = true := decide_eq_true (by omega)
                    clear c19
                    by_cases c20 : 1 ≤ (x8_2.size : Int)
                    · rw [if_pos c20] at H
                      have c20b0 := eq_true c20
                      have c20b1 : decide (1 ≤ (x8_2.size : Int)) = true := decide_eq_true c20
                      clear c20
                      replace H := Option.bind_eq_some_iff.mp H
                      obtain ⟨⟨t118, t119, t120, t121, t122⟩, A210, H⟩ := H
                      replace H : (if t122 = true then (if 0 ≤ (wrap64 (((x8_2.extract 1 x8_2.size).size : Int) - (t121.size : Int))) then (if (wrap64 (((x8_2.extract 1 x8_2.size).size : Int) - (t121.size : Int))) ≤ ((x8_2.extract 1 x8_2.size).size : Int) then (if x13_2.length < 8796093022208 then ((some (x13_2 ++ [(x8_2.extract 1 x8_2.size).extract 0 ((wrap64 (((x8_2.extract 1 x8_2.size).size : Int) - (t121.size : Int))) : Int).toNat] : List ByteArray)).bind fun y125 => ((strings_HasPrefix.f t121 (⟨#[32]⟩ : ByteArray)).bind fun t128 => (if t128 = true then (term_cut.l0 k2 t121 t113 y125) else ((strings_CutPrefix.f t121 (⟨#[41]⟩ : ByteArray)).bind fun bt129 => (some (2, t113, y125, bt129.1, bt129.2)))))) else (none)) else (none)) else (none)) else (some (0, 0, ([] : List ByteArray), (⟨#[]⟩ : ByteArray), false))) = some (r1, r2, r3, r4, r5) := H
                      have A21 := Aside0.mk A210
                      clear A210
                      by_cases c22 : t122 = true
                      · subst c22
                        have H1 : (if 0 ≤ (wrap64 (((x8_2.extract 1 x8_2.size).size : Int) - (t121.size : Int))) then (if (wrap64 (((x8_2.extract 1 x8_2.size).size : Int) - (t121.size : Int))) ≤ ((x8_2.extract 1 x8_2.size).size : Int) then (if x13_2.length < 8796093022208 then ((some (x13_2 ++ [(x8_2.extract 1 x8_2.size).extract 0 ((wrap64 (((x8_2.extract 1 x8_2.size).size : Int) - (t121.size : Int))) : Int).toNat] : List ByteArray)).bind fun y125 => ((strings_HasPrefix.f t121 (⟨#[32]⟩ : ByteArray)).bind fun t128 => (if t128 = true then (term_cut.l0 k2 t121 t113 y125) else ((strings_CutPrefix.f t121 (⟨#[41]⟩ : ByteArray)).bind fun bt129 => (some (2, t113, y125, bt129.1, bt129.2)))))) else (none)) else (none)) else (none)) = some (r1, r2, r3, r4, r5) := by rw [if_pos rfl] at H; exact H
                        clear H
                        have H := H1
                        clear H1
                        obtain ⟨ji23, hji23⟩ : ∃ j_ : Int, (wrap64 (((x8_2.extract 1 x8_2.size).size : Int) - (t121.size : Int))) = j_ := ⟨_, rfl⟩
                        replace H : (if 0 ≤ (ji23) then (if (ji23) ≤ ((x8_2.extract 1 x8_2.size).size : Int) then (if x13_2.length < 8796093022208 then ((some (x13_2 ++ [(x8_2.extract 1 x8_2.size).extract 0 ((ji23) : Int).toNat] : List ByteArray)).bind fun y125 => ((strings_HasPrefix.f t121 (⟨#[32]⟩ : ByteArray)).bind fun t128 => (if t128 = true then (term_cut.l0 k2 t121 t113 y125) else ((strings_CutPrefix.f t121 (⟨#[41]⟩ : ByteArray)).bind fun bt129 => (some (2, t113, y125, bt129.1, bt129.2)))))) else (none)) else (none)) else (none)) = some (r1, r2, r3, r4, r5) := by first | (rw [hji23] at H; exact H) | (simp only [hji23] at H ⊢; exact H)
                        (try rw [hji23] at A21)
                        have hji23w : (IntKind.i64.wrap (((x8_2.extract 1 x8_2.size).size : Int) - (t121.size : Int))) = ji23 := (i64_w _).trans hji23
                        (try simp only [ByteArray.size_extract, Nat.min_self] at hji23)
                        (try simp only [ByteArray.size_extract, Nat.min_self] at hji23w)
                        by_cases c24 : 0 ≤ (ji23)
                        · rw [if_pos c24] at H
                          have c24b0 := eq_true c24
                          have c24b1 : decide (0 ≤ (ji23)) = true := decide_eq_true c24
                          clear c24
                          by_cases c25 : (ji23) ≤ ((x8_2.extract 1 x8_2.size).size : Int)
                          · rw [if_pos c25] at H
                            have c25b0 := eq_true c25
                            have c25b1 : decide ((ji23) ≤ ((x8_2.extract 1 x8_2.size).size : Int)) = true := decide_eq_true c25
                            (try simp only [ByteArray.size_extract, Nat.min_self] at c25b0)
                            (try simp only [ByteArray.size_extract, Nat.min_self] at c25b1)
                            clear c25
                            by_cases c26 : x13_2.length < 8796093022208
                            · rw [if_pos c26] at H
                              have LMc26 := Aside0.mk c26
                              clear c26
                              obtain ⟨y125, hy125⟩ : ∃ y_ : List ByteArray, y_ = (x13_2 ++ [(x8_2.extract 1 x8_2.size).extract 0 ((ji23) : Int).toNat]) := ⟨_, rfl⟩
                              replace H : ((strings_HasPrefix.f t121 (⟨#[32]⟩ : ByteArray)).bind fun t128 => (if t128 = true then (term_cut.l0 k2 t121 t113 y125) else ((strings_CutPrefix.f t121 (⟨#[41]⟩ : ByteArray)).bind fun bt129 => (some (2, t113, y125, bt129.1, bt129.2))))) = some (r1, r2, r3, r4, r5) := by first | (rw [hy125]; with_reducible exact H) | (have H2_ := (Option.bind_some _ _).symm.trans H; rw [hy125]; with_reducible exact H2_) | (have H2_ := (Option.bind_some _ _).symm.trans H; with_reducible exact H2_) | with_reducible exact H | (rw [hy125]; exact H) | exact H
                              have Ny125 := Aside0.mk hy125
                              clear hy125
                              replace H := Option.bind_eq_some_iff.mp H
                              obtain ⟨t128, A270, H⟩ := H
                              replace H : (if t128 = true then (term_cut.l0 k2 t121 t113 y125) else ((strings_CutPrefix.f t121 (⟨#[41]⟩ : ByteArray)).bind fun bt129 => (some (2, t113, y125, bt129.1, bt129.2)))) = some (r1, r2, r3, r4, r5) := H
                              have A27 := Aside0.mk A270
                              clear A270
                              by_cases c28 : t128 = true
                              · subst c28
                                have H1 : (term_cut.l0 k2 t121 t113 y125) = some (r1, r2, r3, r4, r5) := by rw [if_pos rfl] at H; exact H
                                clear H
                                have H := H1
                                clear H1
                                have H' := Aside0.mk H
                                clear H
                                obtain ⟨Ao29, co29, eo29⟩ := Kd.R_slice HO_13.out
                                subst eo29
                                go_wp2_with (first | ((with_reducible refine gate_callee (f := 90) rfl ?_); refine goesL_ (some 63) rfl rfl Tryd.func90 (by kernel_rfl) rfl #[.string (x8_2.extract 1 x8_2.size)] rfl (by (try simp only [List.map_toArray, List.map_cons, List.map_nil]); first | done | rfl | (simp only [List.length_drop, List.length_take]; rfl)) ?_; (with_reducible refine (ih k2 (by have := HJ11.out; have := HK2.out; omega) (x8_2.extract 1 x8_2.size) t118 t119 t120 t121 true _ ?side1 A21.out).mono ?_); (case side1 => exact Laid.below HLaid.out (by repeat (first | (with_reducible first | exact HB.out | apply below_alloc | apply pw_below_drewN | apply below_drew1) | exact HB.out))); rintro e w30 ⟨v123, rfl, ho0, hb⟩; refine ⟨_, rfl, ?_⟩; have n0_ := Aside0.mk (Kd.R_elder' (by (with_reducible repeat (first | apply Kd.R_alloc | apply Kd.R_drewN | apply Kd.R_drew)); exact HO_13.out) (Kd.R_base ho0) hb); have n1_ := Aside0.mk (Kd.R_lower (Kd.R_new' ho0 (Kd.R_lt (by (with_reducible repeat (first | apply Kd.R_alloc | apply Kd.R_drewN | apply Kd.R_drew)); exact HO_13.out))) (below_size (by repeat (first | (with_reducible first | exact HB.out | apply below_alloc | apply pw_below_drewN | apply below_drew1) | exact HB.out)))); have n2_ := Aside0.mk (below_step (by repeat (first | (with_reducible first | exact HB.out | apply below_alloc | apply pw_below_drewN | apply below_drew1) | exact HB.out)) hb); clear HO_13; clear HB; have HO_13 := n0_; have HO124 := n1_; have HB := n2_; clear n0_ n1_ n2_; (try clear hb); (try clear hb2); (try clear hk); (try clear hi); (try clear ho0)) | ((with_reducible refine gate_builtin (b := .append) (xs := #[.tmp 71, .tmp 79]) rfl ?_); at_builtin; refine Kd.R_append Kd.string (w0 := w) w.heap.size rfl (.tmp 71) (.tmp 79) 22 9 (.string ⟨#[]⟩) 16 rfl Tryd.underlying22 info9 rfl (by decide) (by omega) (.slice Ao29 x13_2.length co29) x13_2 ((x8_2.extract 1 x8_2.size).extract 0 ((ji23) : Int).toNat) [.string ((x8_2.extract 1 x8_2.size).extract 0 ((ji23) : Int).toNat)] (fun k_ => some k_ ≠ (v123 : Value).ownBlock) (fun _ => False) rfl rfl ?aP (fun _ hk => hk.elim) ?aF ?aO ?aB ?aS ?aL ?_; (case aP => exact rfl); (case aB => exact (by repeat (first | (with_reducible first | exact HB.out | apply below_alloc | apply pw_below_drewN | apply below_drew1) | exact HB.out))); (case aF => exact (fun k_ hk => Kd.fresh' (Kd.R_lt (by (with_reducible repeat (first | apply Kd.R_alloc | apply Kd.R_drewN | apply Kd.R_drew)); exact HO124.out)) k_ hk)); (case aO => exact (by (with_reducible repeat (first | apply Kd.R_alloc | apply Kd.R_drewN | apply Kd.R_drew)); exact Kd.R_mono HO_13.out (fun _ hk => hk.2))); (case aS => exact (below_size (by repeat (first | (with_reducible first | exact HB.out | apply below_alloc | apply pw_below_drewN | apply below_drew1) | exact HB.out)))); (case aL => have := LMc26.out; omega); intro v126 w31 ho hb hg hat; rw [← Ny125.out] at ho; have n0_ := Aside0.mk (Kd.R_after (ok := (fun _ => True)) (by (with_reducible repeat (first | apply Kd.R_alloc | apply Kd.R_drewN | apply Kd.R_drew)); exact HO124.out) hg hat); have n1_ := Aside0.mk (hb); have n2_ := Aside0.mk (ho); clear HO124; clear HB; clear HO_13; have HO124 := n0_; have HB := n1_; have HO127 := n2_; clear n0_ n1_ n2_; clear ho hb hg hat) | ((with_reducible refine gate_callee (f := 97) rfl ?_); refine goesL_ (some 83) rfl rfl Tryd.func97 (by kernel_rfl) rfl #[.string t121, .string (⟨#[32]⟩ : ByteArray)] rfl (by (try simp only [List.map_toArray, List.map_cons, List.map_nil]); first | done | rfl | (simp only [List.length_drop, List.length_take]; rfl)) ?_; (with_reducible refine (strings_HasPrefix.calls t121 (⟨#[32]⟩ : ByteArray) true _ A27.out).mono ?_); rintro e w' ⟨rfl, ⟨nd, rfl⟩⟩; refine ⟨_, rfl, ?_⟩))
                                go_roundg k2
                                case measure => have := HJ11.out; have := HK2.out; omega
                                case rel => exact ⟨(t121), (y125), (by first | rfl | (simp; done) | (simp [*]; done)), H', ⟨by have := HJ11.out; have := HK2.out; omega⟩, ⟨by (with_reducible repeat (first | apply Kd.R_alloc | apply Kd.R_drewN | apply Kd.R_drew)); exact Kd.R_mono HO127.out (fun _ hk => trivial)⟩, ⟨by repeat (first | (with_reducible first | exact HB.out | apply below_alloc | apply pw_below_drewN | apply below_drew1) | exact HB.out)⟩⟩
                              · replace c28 := Bool.eq_false_iff.mpr c28
                                subst c28
                                have H1 : ((strings_CutPrefix.f t121 (⟨#[41]⟩ : ByteArray)).bind fun bt129 => (some (2, t113, y125, bt129.1, bt129.2))) = some (r1, r2, r3, r4, r5) := by rw [if_neg (show ¬ (false = true) by decide)] at H; exact H
                                clear H
                                have H := H1
                                clear H1
                                replace H := Option.bind_eq_some_iff.mp H
                                obtain ⟨⟨t129, t130⟩, A320, H⟩ := H
                                replace H : (some (2, t113, y125, t129, t130)) = some (r1, r2, r3, r4, r5) := H
                                have A32 := Aside0.mk A320
                                clear A320
                                simp only [Option.some.injEq, Prod.mk.injEq] at H
                                obtain ⟨rfl, rfl, rfl, rfl, rfl⟩ := H
                                obtain ⟨Ao33, co33, eo33⟩ := Kd.R_slice HO_13.out
                                subst eo33
                                go_wp2_with (first | ((with_reducible refine gate_callee (f := 90) rfl ?_); refine goesL_ (some 63) rfl rfl Tryd.func90 (by kernel_rfl) rfl #[.string (x8_2.extract 1 x8_2.size)] rfl (by (try simp only [List.map_toArray, List.map_cons, List.map_nil]); first | done | rfl | (simp only [List.length_drop, List.length_take]; rfl)) ?_; (with_reducible refine (ih k2 (by have := HJ11.out; have := HK2.out; omega) (x8_2.extract 1 x8_2.size) t118 t119 t120 t121 true _ ?side1 A21.out).mono ?_); (case side1 => exact Laid.below HLaid.out (by repeat (first | (with_reducible first | exact HB.out | apply below_alloc | apply pw_below_drewN | apply below_drew1) | exact HB.out))); rintro e w34 ⟨v123, rfl, ho0, hb⟩; refine ⟨_, rfl, ?_⟩; have n0_ := Aside0.mk (Kd.R_elder' (by (with_reducible repeat (first | apply Kd.R_alloc | apply Kd.R_drewN | apply Kd.R_drew)); exact HO_13.out) (Kd.R_base ho0) hb); have n1_ := Aside0.mk (Kd.R_lower (Kd.R_new' ho0 (Kd.R_lt (by (with_reducible repeat (first | apply Kd.R_alloc | apply Kd.R_drewN | apply Kd.R_drew)); exact HO_13.out))) (below_size (by repeat (first | (with_reducible first | exact HB.out | apply below_alloc | apply pw_below_drewN | apply below_drew1) | exact HB.out)))); have n2_ := Aside0.mk (below_step (by repeat (first | (with_reducible first | exact HB.out | apply below_alloc | apply pw_below_drewN | apply below_drew1) | exact HB.out)) hb); clear HO_13; clear HB; have HO_13 := n0_; have HO124 := n1_; have HB := n2_; clear n0_ n1_ n2_; (try clear hb); (try clear hb2); (try clear hk); (try clear hi); (try clear ho0)) | ((with_reducible refine gate_builtin (b := .append) (xs := #[.tmp 71, .tmp 79]) rfl ?_); at_builtin; refine Kd.R_append Kd.string (w0 := w) w.heap.size rfl (.tmp 71) (.tmp 79) 22 9 (.string ⟨#[]⟩) 16 rfl Tryd.underlying22 info9 rfl (by decide) (by omega) (.slice Ao33 x13_2.length co33) x13_2 ((x8_2.extract 1 x8_2.size).extract 0 ((ji23) : Int).toNat) [.string ((x8_2.extract 1 x8_2.size).extract 0 ((ji23) : Int).toNat)] (fun k_ => some k_ ≠ (v123 : Value).ownBlock) (fun _ => False) rfl rfl ?aP (fun _ hk => hk.elim) ?aF ?aO ?aB ?aS ?aL ?_; (case aP => exact rfl); (case aB => exact (by repeat (first | (with_reducible first | exact HB.out | apply below_alloc | apply pw_below_drewN | apply below_drew1) | exact HB.out))); (case aF => exact (fun k_ hk => Kd.fresh' (Kd.R_lt (by (with_reducible repeat (first | apply Kd.R_alloc | apply Kd.R_drewN | apply Kd.R_drew)); exact HO124.out)) k_ hk)); (case aO => exact (by (with_reducible repeat (first | apply Kd.R_alloc | apply Kd.R_drewN | apply Kd.R_drew)); exact Kd.R_mono HO_13.out (fun _ hk => hk.2))); (case aS => exact (below_size (by repeat (first | (with_reducible first | exact HB.out | apply below_alloc | apply pw_below_drewN | apply below_drew1) | exact HB.out)))); (case aL => have := LMc26.out; omega); intro v126 w35 ho hb hg hat; rw [← Ny125.out] at ho; have n0_ := Aside0.mk (Kd.R_after (ok := (fun _ => True)) (by (with_reducible repeat (first | apply Kd.R_alloc | apply Kd.R_drewN | apply Kd.R_drew)); exact HO124.out) hg hat); have n1_ := Aside0.mk (hb); have n2_ := Aside0.mk (ho); clear HO124; clear HB; clear HO_13; have HO124 := n0_; have HB := n1_; have HO127 := n2_; clear n0_ n1_ n2_; clear ho hb hg hat) | ((with_reducible refine gate_callee (f := 97) rfl ?_); refine goesL_ (some 83) rfl rfl Tryd.func97 (by kernel_rfl) rfl #[.string t121, .string (⟨#[32]⟩ : ByteArray)] rfl (by (try simp only [List.map_toArray, List.map_cons, List.map_nil]); first | done | rfl | (simp only [List.length_drop, List.length_take]; rfl)) ?_; (with_reducible refine (strings_HasPrefix.calls t121 (⟨#[32]⟩ : ByteArray) false _ A27.out).mono ?_); rintro e w' ⟨rfl, ⟨nd, rfl⟩⟩; refine ⟨_, rfl, ?_⟩) | ((with_reducible refine gate_callee (f := 98) rfl ?_); refine goesL_ (some 87) rfl rfl Tryd.func98 (by kernel_rfl) rfl #[.string t121, .string (⟨#[41]⟩ : ByteArray)] rfl (by (try simp only [List.map_toArray, List.map_cons, List.map_nil]); first | done | rfl | (simp only [List.length_drop, List.length_take]; rfl)) ?_; (with_reducible refine (strings_CutPrefix.calls t121 (⟨#[41]⟩ : ByteArray) t129 t130 _ A32.out).mono ?_); rintro e w' ⟨rfl, ⟨nd, rfl⟩⟩; refine ⟨_, rfl, ?_⟩))
                                refine bodyPost_ret (results_list (rs := [.tmp 2, .tmp 3, .tmp 4, .tmp 5, .tmp 6]) rfl (by simp) (.tmp (.tmp (.tmp (.tmp (.tmp .nil)))))) rfl ?_
                                exact ⟨_, by first | rfl | (simp [errW_none, errW_some] <;> rfl) | (simp only [← hji23]; first | rfl | (simp [errW_none, errW_some] <;> rfl)) | (simp [*, errW_none, errW_some] <;> rfl), by (with_reducible repeat (first | apply Kd.R_alloc | apply Kd.R_drewN | apply Kd.R_drew)); exact Kd.R_mono HO127.out (fun _ hk => trivial), by repeat (first | (with_reducible first | exact HB.out | apply below_alloc | apply pw_below_drewN | apply below_drew1) | exact HB.out)⟩
                            · rw [if_neg c26] at H
                              exact absurd H (by simp)
                          · rw [if_neg c25] at H
                            exact absurd H (by simp)
                        · rw [if_neg c24] at H
                          exact absurd H (by simp)
                      · replace c22 := Bool.eq_false_iff.mpr c22
                        subst c22
                        have H1 : (some (0, 0, ([] : List ByteArray), (⟨#[]⟩ : ByteArray), false)) = some (r1, r2, r3, r4, r5) := by rw [if_neg (show ¬ (false = true) by decide)] at H; exact H
                        clear H
                        have H := H1
                        clear H1
                        simp only [Option.some.injEq, Prod.mk.injEq] at H
                        obtain ⟨rfl, rfl, rfl, rfl, rfl⟩ := H
                        obtain ⟨Ao36, co36, eo36⟩ := Kd.R_slice HO_13.out
                        subst eo36
                        go_wp2_with (first | ((with_reducible refine gate_callee (f := 90) rfl ?_); refine goesL_ (some 63) rfl rfl Tryd.func90 (by kernel_rfl) rfl #[.string (x8_2.extract 1 x8_2.size)] rfl (by (try simp only [List.map_toArray, List.map_cons, List.map_nil]); first | done | rfl | (simp only [List.length_drop, List.length_take]; rfl)) ?_; (with_reducible refine (ih k2 (by have := HJ11.out; have := HK2.out; omega) (x8_2.extract 1 x8_2.size) t118 t119 t120 t121 false _ ?side1 A21.out).mono ?_); (case side1 => exact Laid.below HLaid.out (by repeat (first | (with_reducible first | exact HB.out | apply below_alloc | apply pw_below_drewN | apply below_drew1) | exact HB.out))); rintro e w37 ⟨v123, rfl, ho0, hb⟩; refine ⟨_, rfl, ?_⟩; have n0_ := Aside0.mk (Kd.R_elder' (by (with_reducible repeat (first | apply Kd.R_alloc | apply Kd.R_drewN | apply Kd.R_drew)); exact HO_13.out) (Kd.R_base ho0) hb); have n1_ := Aside0.mk (Kd.R_lower (Kd.R_new' ho0 (Kd.R_lt (by (with_reducible repeat (first | apply Kd.R_alloc | apply Kd.R_drewN | apply Kd.R_drew)); exact HO_13.out))) (below_size (by repeat (first | (with_reducible first | exact HB.out | apply below_alloc | apply pw_below_drewN | apply below_drew1) | exact HB.out)))); have n2_ := Aside0.mk (below_step (by repeat (first | (with_reducible first | exact HB.out | apply below_alloc | apply pw_below_drewN | apply below_drew1) | exact HB.out)) hb); clear HO_13; clear HB; have HO_13 := n0_; have HO124 := n1_; have HB := n2_; clear n0_ n1_ n2_; (try clear hb); (try clear hb2); (try clear hk); (try clear hi); (try clear ho0)))
                        refine bodyPost_ret (results_list (rs := [.tmp 2, .tmp 3, .tmp 4, .tmp 5, .tmp 6]) rfl (by simp) (.tmp (.tmp (.tmp (.tmp (.tmp .nil)))))) rfl ?_
                        exact ⟨_, by first | rfl | (simp [errW_none, errW_some] <;> rfl) | (simp [*, errW_none, errW_some] <;> rfl), by first | exact Kd.R_nil _ _ _ _ _ | exact Kd.N_nil _ _ _ _ _ | exact Kd.V_nil _ _ _ _ _ | exact Kd.Q_nil _ _ _ _ _ | exact Kd.S_nil _ _ _ _ _, by repeat (first | (with_reducible first | exact HB.out | apply below_alloc | apply pw_below_drewN | apply below_drew1) | exact HB.out)⟩
                    · rw [if_neg c20] at H
                      exact absurd H (by simp)
                  · rw [if_neg c19] at H
                    have c19b0 : decide ((x13_2.length : Int) < 3) = false := decide_eq_false c19
                    have c19b1 : decide (x13_2.length < 3) = false := decide_eq_false (by omega)
                    clear c19
                    replace H := Option.bind_eq_some_iff.mp H
                    obtain ⟨⟨t116, t117⟩, A380, H⟩ := H
                    replace H : (some (2, t113, x13_2, t116, t117)) = some (r1, r2, r3, r4, r5) := H
                    have A38 := Aside0.mk A380
                    clear A380
                    simp only [Option.some.injEq, Prod.mk.injEq] at H
                    obtain ⟨rfl, rfl, rfl, rfl, rfl⟩ := H
                    obtain ⟨Ao39, co39, eo39⟩ := Kd.R_slice HO_13.out
                    subst eo39
                    go_wp2_with (first | ((with_reducible refine gate_callee (f := 98) rfl ?_); refine goesL_ (some 87) rfl rfl Tryd.func98 (by kernel_rfl) rfl #[.string x8_2, .string (⟨#[41]⟩ : ByteArray)] rfl (by (try simp only [List.map_toArray, List.map_cons, List.map_nil]); first | done | rfl | (simp only [List.length_drop, List.length_take]; rfl)) ?_; (with_reducible refine (strings_CutPrefix.calls x8_2 (⟨#[41]⟩ : ByteArray) t116 t117 _ A38.out).mono ?_); rintro e w' ⟨rfl, ⟨nd, rfl⟩⟩; refine ⟨_, rfl, ?_⟩))
                    refine bodyPost_ret (results_list (rs := [.tmp 2, .tmp 3, .tmp 4, .tmp 5, .tmp 6]) rfl (by simp) (.tmp (.tmp (.tmp (.tmp (.tmp .nil)))))) rfl ?_
                    exact ⟨_, by first | rfl | (simp [errW_none, errW_some] <;> rfl) | (simp [*, errW_none, errW_some] <;> rfl), by (with_reducible repeat (first | apply Kd.R_alloc | apply Kd.R_drewN | apply Kd.R_drew)); exact HO_13.out, by repeat (first | (with_reducible first | exact HB.out | apply below_alloc | apply pw_below_drewN | apply below_drew1) | exact HB.out)⟩

end Go.Proofs.YtkbaelhcijibiaaDoor.Px

/- Of each function of this text: a plain Lean function and a proof that the machine's call comes to its answers; printed by this session's program. -/
namespace Go.Proofs.YtkbaelhcijibiaaDoor.Px
open Go.RowKit Go.Proofs.YtkbaelhcijibiaaDoorW.PrintWords Go.Proofs.YtkbaelhcijibiaaDoorW.PrintLast Go.Proofs.YtkbaelhcijibiaaDoorW.PrintMore
attribute [local go_sem] max2_int min2_int max_two min_two max_three min_three max_four min_four   -- for this text's walks alone
set_option linter.unusedVariables false
set_option linter.unusedSimpArgs false

/-! ### term_May: function 72 -/
def term_May.f (k : Nat) (a0 : ByteArray) : Option (Bool) := if (a0.size : Int) > 1024 then (some false) else ((term_cut.f k a0).bind fun bt131 => (if bt131.2.2.2.2 = true then (some (bt131.2.2.2.1.toList == ([] : List UInt8))) else (some false)))
theorem term_May.mono : ∀ a0 k, LeO (term_May.f k a0) (term_May.f (k + 1) a0) := by
  intro a0 k
  unfold term_May.f
  repeat' first
      | (with_reducible exact term_cut.mono _ _)
      | (with_reducible exact LeO.refl _)
      | (with_reducible exact LeO.none _)
      | (with_reducible refine LeO.ite ?_ ?_)
      | (with_reducible refine LeO.bind ?_ (fun _ => ?_))
      | exact term_cut.mono _ _
      | exact LeO.none _
      | refine LeO.ite ?_ ?_
      | refine LeO.bind ?_ (fun _ => ?_)
set_option maxHeartbeats 8000000 in
set_option maxRecDepth 100000 in
theorem term_May.calls (k : Nat) (a0 : ByteArray) (r : Bool) (w : World) (hL : Laid w) (h : term_May.f k a0 = some r) :
    Calls Tryd.prog 72 #[.string a0] w fun e w' => e = .returned (.bool r) ∧ Below w.heap.size w w' := by
  have HLaid := Aside0.mk hL
  clear hL
  have HB := Aside0.mk (Below.refl w.heap.size w)
  have H : (if (a0.size : Int) > 1024 then (some false) else ((term_cut.f k a0).bind fun bt131 => (if bt131.2.2.2.2 = true then (some (bt131.2.2.2.1.toList == ([] : List UInt8))) else (some false)))) = some r := h
  clear h
  by_cases c2 : (a0.size : Int) > 1024
  · rw [if_pos c2] at H
    have c2b0 : decide (1024 < (a0.size : Int)) = true := decide_eq_true c2
    have c2b1 : decide (1024 < a0.size) = true := decide_eq_true (by omega)
    clear c2
    obtain rfl := Option.some.inj H
    go_enter Tryd.func72, Tryd.ntmps72
    go_wp2
    go_ret
    exact ⟨by first | rfl | (simp [errW_none, errW_some] <;> rfl) | (simp [*, errW_none, errW_some] <;> rfl), by repeat (first | (with_reducible first | exact HB.out | apply below_alloc | apply pw_below_drewN | apply below_drew1) | exact HB.out)⟩
  · rw [if_neg c2] at H
    have c2b0 : decide (1024 < (a0.size : Int)) = false := decide_eq_false c2
    have c2b1 : decide (1024 < a0.size) = false := decide_eq_false (by omega)
    clear c2
    replace H := Option.bind_eq_some_iff.mp H
    obtain ⟨⟨t131, t132, t133, t134, t135⟩, A30, H⟩ := H
    replace H : (if t135 = true then (some (t134.toList == ([] : List UInt8))) else (some false)) = some r := H
    have A3 := Aside0.mk A30
    clear A30
    by_cases c4 : t135 = true
    · subst c4
      have H1 : (some (t134.toList == ([] : List UInt8))) = some r := by rw [if_pos rfl] at H; exact H
      clear H
      have H := H1
      clear H1
      obtain rfl := Option.some.inj H
      go_enter Tryd.func72, Tryd.ntmps72
      go_wp2_with (first | ((with_reducible refine gate_callee (f := 90) rfl ?_); refine goesL_ (some 13) rfl rfl Tryd.func90 (by kernel_rfl) rfl #[.string a0] rfl (by (try simp only [List.map_toArray, List.map_cons, List.map_nil]); first | done | rfl | (simp only [List.length_drop, List.length_take]; rfl)) ?_; (with_reducible refine (term_cut.calls k a0 t131 t132 t133 t134 true _ ?side1 A3.out).mono ?_); (case side1 => exact Laid.below HLaid.out (by repeat (first | (with_reducible first | exact HB.out | apply below_alloc | apply pw_below_drewN | apply below_drew1) | exact HB.out))); rintro e w5 ⟨v136, rfl, ho0, hb⟩; refine ⟨_, rfl, ?_⟩; have n0_ := Aside0.mk (Kd.R_lower ho0 (below_size (by repeat (first | (with_reducible first | exact HB.out | apply below_alloc | apply pw_below_drewN | apply below_drew1) | exact HB.out)))); have n1_ := Aside0.mk (below_step (by repeat (first | (with_reducible first | exact HB.out | apply below_alloc | apply pw_below_drewN | apply below_drew1) | exact HB.out)) hb); clear HB; have HO137 := n0_; have HB := n1_; clear n0_ n1_; (try clear hb); (try clear hb2); (try clear hk); (try clear hi); (try clear ho0)))
      go_ret
      exact ⟨by first | rfl | (simp [errW_none, errW_some] <;> rfl) | (simp [*, errW_none, errW_some] <;> rfl), by repeat (first | (with_reducible first | exact HB.out | apply below_alloc | apply pw_below_drewN | apply below_drew1) | exact HB.out)⟩
    · replace c4 := Bool.eq_false_iff.mpr c4
      subst c4
      have H1 : (some false) = some r := by rw [if_neg (show ¬ (false = true) by decide)] at H; exact H
      clear H
      have H := H1
      clear H1
      obtain rfl := Option.some.inj H
      go_enter Tryd.func72, Tryd.ntmps72
      go_wp2_with (first | ((with_reducible refine gate_callee (f := 90) rfl ?_); refine goesL_ (some 13) rfl rfl Tryd.func90 (by kernel_rfl) rfl #[.string a0] rfl (by (try simp only [List.map_toArray, List.map_cons, List.map_nil]); first | done | rfl | (simp only [List.length_drop, List.length_take]; rfl)) ?_; (with_reducible refine (term_cut.calls k a0 t131 t132 t133 t134 false _ ?side1 A3.out).mono ?_); (case side1 => exact Laid.below HLaid.out (by repeat (first | (with_reducible first | exact HB.out | apply below_alloc | apply pw_below_drewN | apply below_drew1) | exact HB.out))); rintro e w6 ⟨v136, rfl, ho0, hb⟩; refine ⟨_, rfl, ?_⟩; have n0_ := Aside0.mk (Kd.R_lower ho0 (below_size (by repeat (first | (with_reducible first | exact HB.out | apply below_alloc | apply pw_below_drewN | apply below_drew1) | exact HB.out)))); have n1_ := Aside0.mk (below_step (by repeat (first | (with_reducible first | exact HB.out | apply below_alloc | apply pw_below_drewN | apply below_drew1) | exact HB.out)) hb); clear HB; have HO137 := n0_; have HB := n1_; clear n0_ n1_; (try clear hb); (try clear hb2); (try clear hk); (try clear hi); (try clear ho0)))
      go_ret
      exact ⟨by first | rfl | (simp [errW_none, errW_some] <;> rfl) | (simp [*, errW_none, errW_some] <;> rfl), by repeat (first | (with_reducible first | exact HB.out | apply below_alloc | apply pw_below_drewN | apply below_drew1) | exact HB.out)⟩

end Go.Proofs.YtkbaelhcijibiaaDoor.Px

/- Of each function of this text: a plain Lean function and a proof that the machine's call comes to its answers; printed by this session's program. -/
namespace Go.Proofs.YtkbaelhcijibiaaDoor.Px
open Go.RowKit Go.Proofs.YtkbaelhcijibiaaDoorW.PrintWords Go.Proofs.YtkbaelhcijibiaaDoorW.PrintLast Go.Proofs.YtkbaelhcijibiaaDoorW.PrintMore
attribute [local go_sem] max2_int min2_int max_two min_two max_three min_three max_four min_four   -- for this text's walks alone
set_option linter.unusedVariables false
set_option linter.unusedSimpArgs false

/-! ### term_All: function 71 -/
def term_All.l0 : Nat → List ByteArray → Int → Int → Option (Bool)
  | 0, _, _, _ => none
  | k + 1, x5, x6, x7 => if x7 < x6 then (if 0 ≤ x7 then (if x7 < (x5.length : Int) then ((term_May.f k (rdOf ByteArray.empty x5 x7)).bind fun t139 => (if t139 = true then (term_All.l0 k x5 x6 (wrap64 (x7 + 1))) else (some false))) else (none)) else (none)) else (some true)
def term_All.f (k : Nat) (l0 : List ByteArray) : Option (Bool) := term_All.l0 k l0 (l0.length : Int) 0
theorem term_All.mono_l : ∀ k, (∀ y0 y1 y2, LeO (term_All.l0 k y0 y1 y2) (term_All.l0 (k + 1) y0 y1 y2))
  | 0 => fun _ _ _ r h => by simp [term_All.l0] at h
  | k + 1 => by
    have ih0 := term_All.mono_l k
    · intro y0 y1 y2
      unfold term_All.l0
      repeat' first
      | (with_reducible exact ih0 _ _ _)
      | (with_reducible exact term_May.mono _ _)
      | (with_reducible exact LeO.refl _)
      | (with_reducible exact LeO.none _)
      | (with_reducible refine LeO.ite ?_ ?_)
      | (with_reducible refine LeO.bind ?_ (fun _ => ?_))
      | exact ih0 _ _ _
      | exact term_May.mono _ _
      | exact LeO.none _
      | refine LeO.ite ?_ ?_
      | refine LeO.bind ?_ (fun _ => ?_)
theorem term_All.mono : ∀ a0 k, LeO (term_All.f k a0) (term_All.f (k + 1) a0) := by
  intro a0 k
  have ih0 := term_All.mono_l k
  unfold term_All.f
  repeat' first
      | (with_reducible exact ih0 _ _ _)
      | (with_reducible exact term_May.mono _ _)
      | (with_reducible exact LeO.refl _)
      | (with_reducible exact LeO.none _)
      | (with_reducible refine LeO.ite ?_ ?_)
      | (with_reducible refine LeO.bind ?_ (fun _ => ?_))
      | exact ih0 _ _ _
      | exact term_May.mono _ _
      | exact LeO.none _
      | refine LeO.ite ?_ ?_
      | refine LeO.bind ?_ (fun _ => ?_)
set_option maxHeartbeats 8000000 in
set_option maxRecDepth 100000 in
theorem term_All.calls (k : Nat) (A0 : Option Addr) (c0 : Nat) (l0 : List ByteArray) (r : Bool) (w : World) (hr0 : Kd.C Kd.string w A0 l0.length l0) (hc0 : l0.length ≤ c0) (hL : Laid w) (h : term_All.f k l0 = some r) :
    Calls Tryd.prog 71 #[.slice A0 l0.length c0] w fun e w' => e = .returned (.bool r) ∧ Below w.heap.size w w' := by
  have HR0 := Aside0.mk hr0
  have HC0 := Aside0.mk hc0
  clear hr0 hc0
  have HLaid := Aside0.mk hL
  clear hL
  have HB := Aside0.mk (Below.refl w.heap.size w)
  have H : (term_All.l0 k l0 (l0.length : Int) 0) = some r := h
  clear h
  have H' := Aside0.mk H
  clear H
  go_enter Tryd.func71, Tryd.ntmps71
  go_wp2
  (try simp only [Act.put, List.setIfInBounds_toArray, List.set_cons_zero, List.set_cons_succ])
  go_loopg [7] k (fun kq v7 w' => ∃ (x7_1 : Int), v7 = .int .i64 x7_1 ∧ Aside0 (term_All.l0 kq l0 (l0.length : Int) x7_1 = some r) ∧ Aside0 (kq ≤ k) ∧ Aside0 (Below w.heap.size w w'))
  case atStart => exact ⟨(0), (by first | rfl | (simp; done) | (simp [*]; done)), H', ⟨Nat.le_refl _⟩, ⟨by repeat (first | (with_reducible first | exact HB.out | apply below_alloc | apply pw_below_drewN | apply below_drew1) | exact HB.out)⟩⟩
  case round =>
    clear H'
    obtain ⟨x7_1, rfl, HA, HK1, HB⟩ := hrel
    cases gk with
    | zero => exact absurd HA.out (by simp [term_All.l0])
    | succ k1 =>
      have H := HA.out
      clear HA
      simp only [term_All.l0] at H
      by_cases c2 : x7_1 < (l0.length : Int)
      · rw [if_pos c2] at H
        have c2b0 : decide (x7_1 < (l0.length : Int)) = true := decide_eq_true c2
        clear c2
        by_cases c3 : 0 ≤ x7_1
        · rw [if_pos c3] at H
          have c3b0 : decide (0 ≤ x7_1) = true := decide_eq_true c3
          clear c3
          by_cases c4 : x7_1 < (l0.length : Int)
          · rw [if_pos c4] at H
            have c4b0 : decide (x7_1 < (l0.length : Int)) = true := decide_eq_true c4
            clear c4
            replace H := Option.bind_eq_some_iff.mp H
            obtain ⟨t139, A50, H⟩ := H
            replace H : (if t139 = true then (term_All.l0 k1 l0 (l0.length : Int) (wrap64 (x7_1 + 1))) else (some false)) = some r := H
            have A5 := Aside0.mk A50
            clear A50
            by_cases c6 : t139 = true
            · subst c6
              have H1 : (term_All.l0 k1 l0 (l0.length : Int) (wrap64 (x7_1 + 1))) = some r := by rw [if_pos rfl] at H; exact H
              clear H
              have H := H1
              clear H1
              have H' := Aside0.mk H
              clear H
              have p138 : 0 ≤ (x7_1 : Int) := of_decide_eq_true (by first | (with_reducible assumption) | assumption)
              have q138 : x7_1 < (l0.length : Int) := of_decide_eq_true (by first | (with_reducible assumption) | assumption)
              obtain ⟨ad138, e138, hx138_0⟩ := Kd.at_string HR0.out x7_1 p138 q138
              cases e138
              replace hx138_0 := (HB.out.cell (World.block_lt_of_cell? w _ hx138_0)).trans hx138_0
              replace p138 := eq_true p138
              replace q138 := eq_true q138
              go_wp2_with (first | ((with_reducible refine gate_callee (f := 72) rfl ?_); refine goesL_ (some 12) rfl rfl Tryd.func72 (by kernel_rfl) rfl #[.string (rdOf ByteArray.empty l0 x7_1)] rfl (by (try simp only [List.map_toArray, List.map_cons, List.map_nil]); first | done | rfl | (simp only [List.length_drop, List.length_take]; rfl)) ?_; (with_reducible refine (term_May.calls k1 (rdOf ByteArray.empty l0 x7_1) true _ ?side1 A5.out).mono ?_); (case side1 => exact Laid.below HLaid.out (by repeat (first | (with_reducible first | exact HB.out | apply below_alloc | apply pw_below_drewN | apply below_drew1) | exact HB.out))); rintro e w7 ⟨rfl, hb⟩; refine ⟨_, rfl, ?_⟩; have n0_ := Aside0.mk (below_step (by repeat (first | (with_reducible first | exact HB.out | apply below_alloc | apply pw_below_drewN | apply below_drew1) | exact HB.out)) hb); clear HB; have HB := n0_; clear n0_; (try clear hb); (try clear hb2); (try clear hk); (try clear hi)))
              go_roundg k1
              case measure => have := HK1.out; omega
              case rel => exact ⟨(wrap64 (x7_1 + 1)), (by first | rfl | (simp; done) | (simp [*]; done)), H', ⟨by have := HK1.out; omega⟩, ⟨by repeat (first | (with_reducible first | exact HB.out | apply below_alloc | apply pw_below_drewN | apply below_drew1) | exact HB.out)⟩⟩
            · replace c6 := Bool.eq_false_iff.mpr c6
              subst c6
              have H1 : (some false) = some r := by rw [if_neg (show ¬ (false = true) by decide)] at H; exact H
              clear H
              have H := H1
              clear H1
              obtain rfl := Option.some.inj H
              have p138 : 0 ≤ (x7_1 : Int) := of_decide_eq_true (by first | (with_reducible assumption) | assumption)
              have q138 : x7_1 < (l0.length : Int) := of_decide_eq_true (by first | (with_reducible assumption) | assumption)
              obtain ⟨ad138, e138, hx138_0⟩ := Kd.at_string HR0.out x7_1 p138 q138
              cases e138
              replace hx138_0 := (HB.out.cell (World.block_lt_of_cell? w _ hx138_0)).trans hx138_0
              replace p138 := eq_true p138
              replace q138 := eq_true q138
              go_wp2_with (first | ((with_reducible refine gate_callee (f := 72) rfl ?_); refine goesL_ (some 12) rfl rfl Tryd.func72 (by kernel_rfl) rfl #[.string (rdOf ByteArray.empty l0 x7_1)] rfl (by (try simp only [List.map_toArray, List.map_cons, List.map_nil]); first | done | rfl | (simp only [List.length_drop, List.length_take]; rfl)) ?_; (with_reducible refine (term_May.calls k1 (rdOf ByteArray.empty l0 x7_1) false _ ?side1 A5.out).mono ?_); (case side1 => exact Laid.below HLaid.out (by repeat (first | (with_reducible first | exact HB.out | apply below_alloc | apply pw_below_drewN | apply below_drew1) | exact HB.out))); rintro e w8 ⟨rfl, hb⟩; refine ⟨_, rfl, ?_⟩; have n0_ := Aside0.mk (below_step (by repeat (first | (with_reducible first | exact HB.out | apply below_alloc | apply pw_below_drewN | apply below_drew1) | exact HB.out)) hb); clear HB; have HB := n0_; clear n0_; (try clear hb); (try clear hb2); (try clear hk); (try clear hi)))
              go_ret
              exact ⟨by first | rfl | (simp [errW_none, errW_some] <;> rfl) | (simp [*, errW_none, errW_some] <;> rfl), by repeat (first | (with_reducible first | exact HB.out | apply below_alloc | apply pw_below_drewN | apply below_drew1) | exact HB.out)⟩
          · rw [if_neg c4] at H
            exact absurd H (by simp)
        · rw [if_neg c3] at H
          exact absurd H (by simp)
      · rw [if_neg c2] at H
        have c2b0 : decide (x7_1 < (l0.length : Int)) = false := decide_eq_false c2
        clear c2
        obtain rfl := Option.some.inj H
        go_wp2
        go_ret
        exact ⟨by first | rfl | (simp [errW_none, errW_some] <;> rfl) | (simp [*, errW_none, errW_some] <;> rfl), by repeat (first | (with_reducible first | exact HB.out | apply below_alloc | apply pw_below_drewN | apply below_drew1) | exact HB.out)⟩

end Go.Proofs.YtkbaelhcijibiaaDoor.Px

/-
  Of trail.Equation and trail.Next, which look at a node through a pointer: a plain Lean function each, and the proof that the machine's call comes to its answers.
-/
namespace Go.Proofs.YtkbaelhcijibiaaDoor.Px
open Go.RowKit Go.Proofs.YtkbaelhcijibiaaDoorW.PrintWords Go.Proofs.YtkbaelhcijibiaaDoorW.PrintLast Go.Proofs.YtkbaelhcijibiaaDoorW.PrintMore
set_option linter.unusedVariables false
set_option linter.unusedSimpArgs false

/-- The rounds that every term's reading stays within. -/
def RR : Nat := 5000
/-- A node lies at p. -/
def Peek24 (w : World) (p : Addr) (f0 f1 : Int) (A2 : Option Addr) (c2 : Nat) (l2 : List ByteArray) (f3 : ByteArray) : Prop :=
  w.cell? p = some (.int .i64 f0) ∧ w.cell? ⟨p.block, p.off + 1, none⟩ = some (.int .i64 f1) ∧ w.cell? ⟨p.block, p.off + 2, none⟩ = some (.slice A2 l2.length c2) ∧ w.cell? ⟨p.block, p.off + 3, none⟩ = some (.string f3)
theorem Peek24.below {w w' : World} {p : Addr} {f0 f1 : Int} {A2 : Option Addr} {c2 : Nat} {l2 : List ByteArray} {f3 : ByteArray} (h : Peek24 w p f0 f1 A2 c2 l2 f3) (hb : Below w.heap.size w w') : Peek24 w' p f0 f1 A2 c2 l2 f3 :=
  ⟨pw_cell_below hb h.1, pw_cell_below hb h.2.1, pw_cell_below hb h.2.2.1, pw_cell_below hb h.2.2.2⟩

/-! ### trail.Equation -/
def trail_Equation.f (a0_0 : Int) (a0_1 : Int) (l0_2 : List ByteArray) (a0_3 : ByteArray) : Option Bool :=
  if 0 ≤ a0_0 then if a0_0 < 8 then if (l0_2.length : Int) ≤ 3 then (term_All.f RR l0_2).bind fun t => if t = true then term_May.f RR a0_3 else some false else some false else some false else some false
set_option maxHeartbeats 2000000 in
theorem trail_Equation.calls (ad : Addr) (a0_0 : Int) (a0_1 : Int) (A0_2 : Option Addr) (c0_2 : Nat) (l0_2 : List ByteArray) (a0_3 : ByteArray) (r : Bool) (w : World) (hp : Peek24 w ad a0_0 a0_1 A0_2 c0_2 l0_2 a0_3) (hr : Kd.C Kd.string w A0_2 l0_2.length l0_2) (hc : l0_2.length ≤ c0_2) (hL : Laid w) (h : trail_Equation.f a0_0 a0_1 l0_2 a0_3 = some r) :
    Calls Tryd.prog 39 #[.pointer (some ad)] w fun e w' => e = .returned (.bool r) ∧ Below w.heap.size w w' := by
  obtain ⟨p0, p1, p2, p3⟩ := hp
  have HR := Lib.hid hr
  have HC := Lib.hid hc
  have HL := Lib.hid hL
  have P3 := Lib.hid p3
  have hlen : (l0_2.length : Int) ≤ 9223372036854775807 := by have := hr.2.1; omega
  clear hr hc hL
  unfold trail_Equation.f at h
  by_cases c0 : 0 ≤ a0_0
  · rw [if_pos c0] at h
    have d0 : decide (0 ≤ a0_0) = true := decide_eq_true c0
    by_cases c1 : a0_0 < 8
    · rw [if_pos c1] at h
      have d1 : decide (a0_0 < 8) = true := decide_eq_true c1
      by_cases c2 : (l0_2.length : Int) ≤ 3
      · rw [if_pos c2] at h
        have d2 : decide ((l0_2.length : Int) ≤ 3) = true := decide_eq_true c2
        obtain ⟨t, ht, h⟩ := Option.bind_eq_some_iff.1 h
        have HT := Lib.hid ht
        clear ht
        cases t with
        | true =>
          have h : term_May.f RR a0_3 = some r := h
          have H := Lib.hid h
          clear h
          go_enter Tryd.func39, Tryd.ntmps39
          go_wp2_with (first | (go_at_call 71; refine (term_All.calls RR _ _ l0_2 true w HR.out HC.out HL.out HT.out).mono ?_; rintro e w1 ⟨rfl, hb⟩; have HB := Lib.hid hb; have q3 := pw_cell_below hb P3.out; clear hb) | (go_at_call 72; refine (term_May.calls RR a0_3 r _ (HL.out.below HB.out) H.out).mono ?_; rintro e w2 ⟨rfl, hb2⟩; have HB2 := Lib.hid hb2; clear hb2))
          go_ret
          exact ⟨by simp, HB.out.trans (HB2.out.mono HB.out.size)⟩
        | false =>
          obtain rfl : false = r := Option.some.inj h
          go_enter Tryd.func39, Tryd.ntmps39
          go_wp2_with (first | (go_at_call 71; refine (term_All.calls RR _ _ l0_2 false w HR.out HC.out HL.out HT.out).mono ?_; rintro e w1 ⟨rfl, hb⟩; have HB := Lib.hid hb; clear hb))
          go_ret
          exact ⟨rfl, HB.out⟩
      · rw [if_neg c2] at h
        obtain rfl := Option.some.inj h
        have d2 : decide ((l0_2.length : Int) ≤ 3) = false := decide_eq_false c2
        go_enter Tryd.func39, Tryd.ntmps39
        go_wp2
        go_ret
        exact ⟨rfl, Below.refl _ _⟩
    · rw [if_neg c1] at h
      obtain rfl := Option.some.inj h
      have d1 : decide (a0_0 < 8) = false := decide_eq_false c1
      go_enter Tryd.func39, Tryd.ntmps39
      go_wp2
      go_ret
      exact ⟨rfl, Below.refl _ _⟩
  · rw [if_neg c0] at h
    obtain rfl := Option.some.inj h
    have d0 : decide (0 ≤ a0_0) = false := decide_eq_false c0
    go_enter Tryd.func39, Tryd.ntmps39
    go_wp2
    go_ret
    exact ⟨rfl, Below.refl _ _⟩

/-! ### trail.Next -/
def trail_Next.f (a0_0 : Int) (a0_1 : Int) (l0_2 : List ByteArray) (a0_3 : ByteArray) (a1 : Int) : Option Bool :=
  if a1 < 512 then if (0 ≤ a0_1 ∧ a0_1 < a1) ∨ (a1 = 0 ∧ a0_1 = -1) then trail_Equation.f a0_0 a0_1 l0_2 a0_3 else some false else some false
set_option maxHeartbeats 4000000 in
theorem trail_Next.calls (ad : Addr) (a0_0 : Int) (a0_1 : Int) (A0_2 : Option Addr) (c0_2 : Nat) (l0_2 : List ByteArray) (a0_3 : ByteArray) (a1 : Int) (r : Bool) (w : World) (hp : Peek24 w ad a0_0 a0_1 A0_2 c0_2 l0_2 a0_3) (hr : Kd.C Kd.string w A0_2 l0_2.length l0_2) (hc : l0_2.length ≤ c0_2) (hL : Laid w) (h : trail_Next.f a0_0 a0_1 l0_2 a0_3 a1 = some r) :
    Calls Tryd.prog 70 #[.pointer (some ad), .int .i64 a1] w fun e w' => e = .returned (.bool r) ∧ Below w.heap.size w w' := by
  have HP := Lib.hid hp
  obtain ⟨p0, p1, p2, p3⟩ := hp
  have HR := Lib.hid hr
  have HC := Lib.hid hc
  have HL := Lib.hid hL
  clear hr hc hL p0 p2 p3
  unfold trail_Next.f at h
  by_cases c0 : 0 ≤ a0_1
  · have d0 : decide (0 ≤ a0_1) = true := decide_eq_true c0
    have e1 : (a0_1 == -1) = false := beq_eq_false_iff_ne.mpr (by omega)
    by_cases c1 : a0_1 < a1
    · have d1 : decide (a0_1 < a1) = true := decide_eq_true c1
      by_cases c2 : a1 < 512
      · have d2 : decide (a1 < 512) = true := decide_eq_true c2
        rw [if_pos c2, if_pos (.inl ⟨c0, c1⟩)] at h
        have H := Lib.hid h
        clear h
        go_enter Tryd.func70, Tryd.ntmps70
        go_wp2_with (go_at_call 39; refine (trail_Equation.calls ad a0_0 a0_1 A0_2 c0_2 l0_2 a0_3 r w HP.out HR.out HC.out HL.out H.out).mono ?_; rintro e w1 ⟨rfl, hb⟩; have HB := Lib.hid hb; clear hb)
        go_ret
        exact ⟨by simp, HB.out⟩
      · have d2 : decide (a1 < 512) = false := decide_eq_false c2
        rw [if_neg c2] at h
        obtain rfl := Option.some.inj h
        clear h
        go_enter Tryd.func70, Tryd.ntmps70
        go_wp2
        go_ret
        exact ⟨rfl, Below.refl _ _⟩
    · have d1 : decide (a0_1 < a1) = false := decide_eq_false c1
      have hn : ¬ ((0 ≤ a0_1 ∧ a0_1 < a1) ∨ (a1 = 0 ∧ a0_1 = -1)) := by omega
      by_cases c3 : a1 = 0
      · subst c3
        rw [if_pos (by decide), if_neg hn] at h
        obtain rfl := Option.some.inj h
        clear h
        go_enter Tryd.func70, Tryd.ntmps70
        go_wp2
        go_ret
        exact ⟨rfl, Below.refl _ _⟩
      · have d3 : (a1 == 0) = false := beq_eq_false_iff_ne.mpr c3
        by_cases c2 : a1 < 512
        · have d2 : decide (a1 < 512) = true := decide_eq_true c2
          rw [if_pos c2, if_neg hn] at h
          obtain rfl := Option.some.inj h
          clear h
          go_enter Tryd.func70, Tryd.ntmps70
          go_wp2
          go_ret
          exact ⟨rfl, Below.refl _ _⟩
        · have d2 : decide (a1 < 512) = false := decide_eq_false c2
          rw [if_neg c2] at h
          obtain rfl := Option.some.inj h
          clear h
          go_enter Tryd.func70, Tryd.ntmps70
          go_wp2
          go_ret
          exact ⟨rfl, Below.refl _ _⟩
  · have d0 : decide (0 ≤ a0_1) = false := decide_eq_false c0
    by_cases c3 : a1 = 0
    · subst c3
      by_cases c4 : a0_1 = -1
      · subst c4
        rw [if_pos (by decide), if_pos (.inr ⟨rfl, rfl⟩)] at h
        have H := Lib.hid h
        clear h
        go_enter Tryd.func70, Tryd.ntmps70
        go_wp2_with (go_at_call 39; refine (trail_Equation.calls ad a0_0 (-1) A0_2 c0_2 l0_2 a0_3 r w HP.out HR.out HC.out HL.out H.out).mono ?_; rintro e w1 ⟨rfl, hb⟩; have HB := Lib.hid hb; clear hb)
        go_ret
        exact ⟨by simp, HB.out⟩
      · have d4 : (a0_1 == -1) = false := beq_eq_false_iff_ne.mpr c4
        have hn : ¬ ((0 ≤ a0_1 ∧ a0_1 < 0) ∨ ((0 : Int) = 0 ∧ a0_1 = -1)) := by omega
        rw [if_pos (by decide), if_neg hn] at h
        obtain rfl := Option.some.inj h
        clear h
        go_enter Tryd.func70, Tryd.ntmps70
        go_wp2
        go_ret
        exact ⟨rfl, Below.refl _ _⟩
    · have d3 : (a1 == 0) = false := beq_eq_false_iff_ne.mpr c3
      have hn : ¬ ((0 ≤ a0_1 ∧ a0_1 < a1) ∨ (a1 = 0 ∧ a0_1 = -1)) := by omega
      by_cases c2 : a1 < 512
      · have d2 : decide (a1 < 512) = true := decide_eq_true c2
        rw [if_pos c2, if_neg hn] at h
        obtain rfl := Option.some.inj h
        clear h
        go_enter Tryd.func70, Tryd.ntmps70
        go_wp2
        go_ret
        exact ⟨rfl, Below.refl _ _⟩
      · have d2 : decide (a1 < 512) = false := decide_eq_false c2
        rw [if_neg c2] at h
        obtain rfl := Option.some.inj h
        clear h
        go_enter Tryd.func70, Tryd.ntmps70
        go_wp2
        go_ret
        exact ⟨rfl, Below.refl _ _⟩
end Go.Proofs.YtkbaelhcijibiaaDoor.Px

/- Of each function of this text: a plain Lean function and a proof that the machine's call comes to its answers; printed by this session's program. -/
namespace Go.Proofs.YtkbaelhcijibiaaDoor.Px
open Go.RowKit Go.Proofs.YtkbaelhcijibiaaDoorW.PrintWords Go.Proofs.YtkbaelhcijibiaaDoorW.PrintLast Go.Proofs.YtkbaelhcijibiaaDoorW.PrintMore
attribute [local go_sem] max2_int min2_int max_two min_two max_three min_three max_four min_four   -- for this text's walks alone
set_option linter.unusedVariables false
set_option linter.unusedSimpArgs false

/-! ### trail_May: function 64 -/
def trail_May.l0 : Nat → List (S24) → Int → Int → Option (Bool)
  | 0, _, _, _ => none
  | k + 1, x0, x5, x6 => if x6 < x5 then (if 0 ≤ x6 then (if x6 < (x0.length : Int) then ((trail_Next.f ((rd_T24 x0 x6).f0) ((rd_T24 x0 x6).f1) ((rd_T24 x0 x6).f2) ((rd_T24 x0 x6).f3) x6).bind fun t141 => (if t141 = true then (trail_May.l0 k x0 x5 (wrap64 (x6 + 1))) else (some false))) else (none)) else (none)) else (some (decide ((x0.length : Int) > 0)))
def trail_May.f (k : Nat) (l0 : List (S24)) : Option (Bool) := trail_May.l0 k l0 (l0.length : Int) 0
theorem trail_May.mono_l : ∀ k, (∀ y0 y1 y2, LeO (trail_May.l0 k y0 y1 y2) (trail_May.l0 (k + 1) y0 y1 y2))
  | 0 => fun _ _ _ r h => by simp [trail_May.l0] at h
  | k + 1 => by
    have ih0 := trail_May.mono_l k
    · intro y0 y1 y2
      unfold trail_May.l0
      repeat' first
      | (with_reducible exact ih0 _ _ _)
      | (with_reducible exact LeO.refl _)
      | (with_reducible exact LeO.none _)
      | (with_reducible refine LeO.ite ?_ ?_)
      | (with_reducible refine LeO.bind ?_ (fun _ => ?_))
      | exact ih0 _ _ _
      | exact LeO.none _
      | refine LeO.ite ?_ ?_
      | refine LeO.bind ?_ (fun _ => ?_)
theorem trail_May.mono : ∀ a0 k, LeO (trail_May.f k a0) (trail_May.f (k + 1) a0) := by
  intro a0 k
  have ih0 := trail_May.mono_l k
  unfold trail_May.f
  repeat' first
      | (with_reducible exact ih0 _ _ _)
      | (with_reducible exact LeO.refl _)
      | (with_reducible exact LeO.none _)
      | (with_reducible refine LeO.ite ?_ ?_)
      | (with_reducible refine LeO.bind ?_ (fun _ => ?_))
      | exact ih0 _ _ _
      | exact LeO.none _
      | refine LeO.ite ?_ ?_
      | refine LeO.bind ?_ (fun _ => ?_)
set_option maxHeartbeats 8000000 in
set_option maxRecDepth 100000 in
theorem trail_May.calls (k : Nat) (A0 : Option Addr) (c0 : Nat) (l0 : List (S24)) (r : Bool) (w : World) (hr0 : Kd.C k24 w A0 l0.length l0) (hc0 : l0.length ≤ c0) (hL : Laid w) (h : trail_May.f k l0 = some r) :
    Calls Tryd.prog 64 #[.slice A0 l0.length c0] w fun e w' => e = .returned (.bool r) ∧ Below w.heap.size w w' := by
  have HR0 := Aside0.mk hr0
  have HC0 := Aside0.mk hc0
  clear hr0 hc0
  have HLaid := Aside0.mk hL
  clear hL
  have HB := Aside0.mk (Below.refl w.heap.size w)
  have H : (trail_May.l0 k l0 (l0.length : Int) 0) = some r := h
  clear h
  have H' := Aside0.mk H
  clear H
  go_enter Tryd.func64, Tryd.ntmps64
  go_wp2
  (try simp only [Act.put, List.setIfInBounds_toArray, List.set_cons_zero, List.set_cons_succ])
  go_loopg [6] k (fun kq v6 w' => ∃ (x6_1 : Int), v6 = .int .i64 x6_1 ∧ Aside0 (trail_May.l0 kq l0 (l0.length : Int) x6_1 = some r) ∧ Aside0 (kq ≤ k) ∧ Aside0 (Below w.heap.size w w'))
  case atStart => exact ⟨(0), (by first | rfl | (simp; done) | (simp [*]; done)), H', ⟨Nat.le_refl _⟩, ⟨by repeat (first | (with_reducible first | exact HB.out | apply below_alloc | apply pw_below_drewN | apply below_drew1) | exact HB.out)⟩⟩
  case round =>
    clear H'
    obtain ⟨x6_1, rfl, HA, HK1, HB⟩ := hrel
    cases gk with
    | zero => exact absurd HA.out (by simp [trail_May.l0])
    | succ k1 =>
      have H := HA.out
      clear HA
      simp only [trail_May.l0] at H
      by_cases c2 : x6_1 < (l0.length : Int)
      · rw [if_pos c2] at H
        have c2b0 : decide (x6_1 < (l0.length : Int)) = true := decide_eq_true c2
        clear c2
        by_cases c3 : 0 ≤ x6_1
        · rw [if_pos c3] at H
          have c3b0 : decide (0 ≤ x6_1) = true := decide_eq_true c3
          clear c3
          by_cases c4 : x6_1 < (l0.length : Int)
          · rw [if_pos c4] at H
            have c4b0 : decide (x6_1 < (l0.length : Int)) = true := decide_eq_true c4
            clear c4
            replace H := Option.bind_eq_some_iff.mp H
            obtain ⟨t141, A50, H⟩ := H
            replace H : (if t141 = true then (trail_May.l0 k1 l0 (l0.length : Int) (wrap64 (x6_1 + 1))) else (some false)) = some r := H
            have A5 := Aside0.mk A50
            clear A50
            by_cases c6 : t141 = true
            · subst c6
              have H1 : (trail_May.l0 k1 l0 (l0.length : Int) (wrap64 (x6_1 + 1))) = some r := by rw [if_pos rfl] at H; exact H
              clear H
              have H := H1
              clear H1
              have H' := Aside0.mk H
              clear H
              have p140 : 0 ≤ (x6_1 : Int) := of_decide_eq_true (by first | (with_reducible assumption) | assumption)
              have q140 : x6_1 < (l0.length : Int) := of_decide_eq_true (by first | (with_reducible assumption) | assumption)
              obtain ⟨ad140, A140_2, c140_2, e140, hx140_0, hx140_1, hx140_2, hx140_3, hl140_2, hi140_2⟩ := at_T24 HR0.out x6_1 p140 q140
              cases e140
              replace hx140_0 := (HB.out.cell (World.block_lt_of_cell? w _ hx140_0)).trans hx140_0
              replace hx140_1 := (HB.out.cell (World.block_lt_of_cell? w _ hx140_1)).trans hx140_1
              replace hx140_2 := (HB.out.cell (World.block_lt_of_cell? w _ hx140_2)).trans hx140_2
              replace hx140_3 := (HB.out.cell (World.block_lt_of_cell? w _ hx140_3)).trans hx140_3
              have HR140_2 := Aside0.mk hi140_2
              have HC140_2 := Aside0.mk hl140_2
              clear hi140_2 hl140_2
              replace p140 := eq_true p140
              replace q140 := eq_true q140
              go_wp2_with (first | (go_at_call 70; (with_reducible refine (trail_Next.calls _ ((rd_T24 l0 x6_1).f0) ((rd_T24 l0 x6_1).f1) A140_2 c140_2 ((rd_T24 l0 x6_1).f2) ((rd_T24 l0 x6_1).f3) x6_1 true _ ?side3 ?side1 ?side2 ?side4 A5.out).mono ?_); (case side1 => repeat (first | exact (Kd.C_below HR140_2.out HB.out) | (with_reducible refine Kd.C_alloc ?_ _) | (with_reducible refine Kd.C_drewN ?_ _) | (with_reducible refine Kd.C_drew ?_))); (case side2 => exact HC140_2.out); (case side3 => (first | exact by (unfold Peek24; refine ⟨(by first | (with_reducible assumption) | (go_simp; done) | assumption), (by first | (with_reducible assumption) | (go_simp; done) | assumption), (by first | (with_reducible assumption) | (go_simp; done) | assumption), (by first | (with_reducible assumption) | (go_simp; done) | assumption)⟩) | (unfold Peek24; (repeat (refine And.intro ?_ ?_)) <;> (first | (with_reducible assumption) | (go_simp; done) | (go_simp; with_reducible assumption) | assumption)))); (case side4 => exact Laid.below HLaid.out (by repeat (first | (with_reducible first | exact HB.out | apply below_alloc | apply pw_below_drewN | apply below_drew1) | exact HB.out))); rintro e w7 ⟨rfl, hb⟩; have n0_ := Aside0.mk (below_step (by repeat (first | (with_reducible first | exact HB.out | apply below_alloc | apply pw_below_drewN | apply below_drew1) | exact HB.out)) hb); clear HB; have HB := n0_; clear n0_; (try clear hb); (try clear hb2); (try clear hk); (try clear hi)))
              go_roundg k1
              case measure => have := HK1.out; omega
              case rel => exact ⟨(wrap64 (x6_1 + 1)), (by first | rfl | (simp; done) | (simp [*]; done)), H', ⟨by have := HK1.out; omega⟩, ⟨by repeat (first | (with_reducible first | exact HB.out | apply below_alloc | apply pw_below_drewN | apply below_drew1) | exact HB.out)⟩⟩
            · replace c6 := Bool.eq_false_iff.mpr c6
              subst c6
              have H1 : (some false) = some r := by rw [if_neg (show ¬ (false = true) by decide)] at H; exact H
              clear H
              have H := H1
              clear H1
              obtain rfl := Option.some.inj H
              have p140 : 0 ≤ (x6_1 : Int) := of_decide_eq_true (by first | (with_reducible assumption) | assumption)
              have q140 : x6_1 < (l0.length : Int) := of_decide_eq_true (by first | (with_reducible assumption) | assumption)
              obtain ⟨ad140, A140_2, c140_2, e140, hx140_0, hx140_1, hx140_2, hx140_3, hl140_2, hi140_2⟩ := at_T24 HR0.out x6_1 p140 q140
              cases e140
              replace hx140_0 := (HB.out.cell (World.block_lt_of_cell? w _ hx140_0)).trans hx140_0
              replace hx140_1 := (HB.out.cell (World.block_lt_of_cell? w _ hx140_1)).trans hx140_1
              replace hx140_2 := (HB.out.cell (World.block_lt_of_cell? w _ hx140_2)).trans hx140_2
              replace hx140_3 := (HB.out.cell (World.block_lt_of_cell? w _ hx140_3)).trans hx140_3
              have HR140_2 := Aside0.mk hi140_2
              have HC140_2 := Aside0.mk hl140_2
              clear hi140_2 hl140_2
              replace p140 := eq_true p140
              replace q140 := eq_true q140
              go_wp2_with (first | (go_at_call 70; (with_reducible refine (trail_Next.calls _ ((rd_T24 l0 x6_1).f0) ((rd_T24 l0 x6_1).f1) A140_2 c140_2 ((rd_T24 l0 x6_1).f2) ((rd_T24 l0 x6_1).f3) x6_1 false _ ?side3 ?side1 ?side2 ?side4 A5.out).mono ?_); (case side1 => repeat (first | exact (Kd.C_below HR140_2.out HB.out) | (with_reducible refine Kd.C_alloc ?_ _) | (with_reducible refine Kd.C_drewN ?_ _) | (with_reducible refine Kd.C_drew ?_))); (case side2 => exact HC140_2.out); (case side3 => (first | exact by (unfold Peek24; refine ⟨(by first | (with_reducible assumption) | (go_simp; done) | assumption), (by first | (with_reducible assumption) | (go_simp; done) | assumption), (by first | (with_reducible assumption) | (go_simp; done) | assumption), (by first | (with_reducible assumption) | (go_simp; done) | assumption)⟩) | (unfold Peek24; (repeat (refine And.intro ?_ ?_)) <;> (first | (with_reducible assumption) | (go_simp; done) | (go_simp; with_reducible assumption) | assumption)))); (case side4 => exact Laid.below HLaid.out (by repeat (first | (with_reducible first | exact HB.out | apply below_alloc | apply pw_below_drewN | apply below_drew1) | exact HB.out))); rintro e w8 ⟨rfl, hb⟩; have n0_ := Aside0.mk (below_step (by repeat (first | (with_reducible first | exact HB.out | apply below_alloc | apply pw_below_drewN | apply below_drew1) | exact HB.out)) hb); clear HB; have HB := n0_; clear n0_; (try clear hb); (try clear hb2); (try clear hk); (try clear hi)))
              go_ret
              exact ⟨by first | rfl | (simp [errW_none, errW_some] <;> rfl) | (simp [*, errW_none, errW_some] <;> rfl), by repeat (first | (with_reducible first | exact HB.out | apply below_alloc | apply pw_below_drewN | apply below_drew1) | exact HB.out)⟩
          · rw [if_neg c4] at H
            exact absurd H (by simp)
        · rw [if_neg c3] at H
          exact absurd H (by simp)
      · rw [if_neg c2] at H
        have c2b0 : decide (x6_1 < (l0.length : Int)) = false := decide_eq_false c2
        (try simp only [hl140_2] at c2b0)
        clear c2
        obtain rfl := Option.some.inj H
        go_wp2
        go_ret
        exact ⟨by first | rfl | (simp [errW_none, errW_some] <;> rfl) | (simp [*, errW_none, errW_some] <;> rfl), by repeat (first | (with_reducible first | exact HB.out | apply below_alloc | apply pw_below_drewN | apply below_drew1) | exact HB.out)⟩

end Go.Proofs.YtkbaelhcijibiaaDoor.Px

/-
  Of tree.Kids, tree.Size, top.May, top.first, top.Bug: a plain Lean function each, and the proof that the machine's call comes to its answers.
-/
namespace Go.Proofs.YtkbaelhcijibiaaDoor.Px
open Go.RowKit Go.Proofs.YtkbaelhcijibiaaDoorW.PrintWords Go.Proofs.YtkbaelhcijibiaaDoorW.PrintLast Go.Proofs.YtkbaelhcijibiaaDoorW.PrintMore
set_option linter.unusedVariables false
set_option linter.unusedSimpArgs false

/-! ### tree.there -/
def tree_there.f (ns : List S24) (a : Int) : Option Bool := (trail_May.f RR ns).bind fun t => some (t && (decide (0 ≤ a) && decide (a < (ns.length : Int))))
set_option maxHeartbeats 2000000 in
theorem tree_there.calls (A : Option Addr) (c : Nat) (ns : List S24) (a : Int) (r : Bool) (w : World) (hC : Kd.C k24 w A ns.length ns) (hc : ns.length ≤ c) (hL : Laid w) (h : tree_there.f ns a = some r) :
    Calls Tryd.prog 52 #[.slice A ns.length c, .int .i64 a] w fun e w' => e = .returned (.bool r) ∧ Below w.heap.size w w' := by
  unfold tree_there.f at h
  obtain ⟨t, ht, h⟩ := Option.bind_eq_some_iff.1 h
  have hmax : ns.length ≤ 9223372036854775807 := hC.2.1
  have hM := Lib.hid (trail_May.calls RR A c ns t w hC hc hL ht)
  have H := Lib.hid (Option.some.inj h)
  clear h ht hC hc hL
  cases t with
  | false =>
    go_enter Tryd.func52, Tryd.ntmps52
    go_wp2_with (go_at_call 64; refine hM.out.mono ?_; rintro e w1 ⟨rfl, hb⟩; have HB := Lib.hid hb; clear hb)
    go_ret
    exact ⟨by rw [← H.out]; simp, HB.out⟩
  | true =>
    by_cases h0 : 0 ≤ a
    · have d0 : decide (0 ≤ a) = true := decide_eq_true h0
      by_cases h1 : a < (ns.length : Int)
      · have d1 : decide (a < (ns.length : Int)) = true := decide_eq_true h1
        go_enter Tryd.func52, Tryd.ntmps52
        go_wp2_with (go_at_call 64; refine hM.out.mono ?_; rintro e w1 ⟨rfl, hb⟩; have HB := Lib.hid hb; clear hb)
        go_ret
        exact ⟨by rw [← H.out, d0, d1]; simp, HB.out⟩
      · have d1 : decide (a < (ns.length : Int)) = false := decide_eq_false h1
        go_enter Tryd.func52, Tryd.ntmps52
        go_wp2_with (go_at_call 64; refine hM.out.mono ?_; rintro e w1 ⟨rfl, hb⟩; have HB := Lib.hid hb; clear hb)
        go_ret
        exact ⟨by rw [← H.out, d0, d1]; simp, HB.out⟩
    · have d0 : decide (0 ≤ a) = false := decide_eq_false h0
      go_enter Tryd.func52, Tryd.ntmps52
      go_wp2_with (go_at_call 64; refine hM.out.mono ?_; rintro e w1 ⟨rfl, hb⟩; have HB := Lib.hid hb; clear hb)
      go_ret
      exact ⟨by rw [← H.out, d0]; simp, HB.out⟩

/-! ### What trail.May answering true tells -/
theorem next_true {f0 f1 : Int} {l : List ByteArray} {f3 : ByteArray} {m : Int} (h : trail_Next.f f0 f1 l f3 m = some true) : m < 512 ∧ ((0 ≤ f1 ∧ f1 < m) ∨ (m = 0 ∧ f1 = -1)) ∧ trail_Equation.f f0 f1 l f3 = some true := by
  unfold trail_Next.f at h
  split at h
  · split at h
    · exact ⟨by assumption, by assumption, h⟩
    · cases h
  · cases h
theorem may_l0 (ns : List S24) : ∀ (k i : Nat), i ≤ ns.length → trail_May.l0 k ns (ns.length : Int) (i : Int) = some true → 0 < ns.length ∧ ∀ j, i ≤ j → j < ns.length → trail_Next.f (rd_T24 ns (j : Int)).f0 (rd_T24 ns (j : Int)).f1 (rd_T24 ns (j : Int)).f2 (rd_T24 ns (j : Int)).f3 (j : Int) = some true
  | 0, _, _, h => by simp [trail_May.l0] at h
  | k + 1, i, hi, h => by
    unfold trail_May.l0 at h
    by_cases h1 : (i : Int) < (ns.length : Int)
    · rw [if_pos h1, if_pos (by omega), if_pos h1] at h
      obtain ⟨t, ht, h⟩ := Option.bind_eq_some_iff.1 h
      cases t with
      | false => simp at h
      | true =>
        have hi5 := (next_true ht).1
        simp only [if_true, if_pos] at h
        rw [show wrap64 ((i : Int) + 1) = ((i + 1 : Nat) : Int) by unfold wrap64; omega] at h
        obtain ⟨h2, h3⟩ := may_l0 ns k (i + 1) (by omega) h
        refine ⟨h2, fun j hj hjl => ?_⟩
        rcases Nat.eq_or_lt_of_le hj with rfl | hlt
        · exact ht
        · exact h3 j hlt hjl
    · rw [if_neg h1] at h
      have h4 := Option.some.inj h
      refine ⟨by simpa using h4, fun j hj hjl => by omega⟩
theorem may_true {ns : List S24} (h : trail_May.f RR ns = some true) : 0 < ns.length ∧ ns.length ≤ 512 ∧ ∀ j, j < ns.length → trail_Next.f (rd_T24 ns (j : Int)).f0 (rd_T24 ns (j : Int)).f1 (rd_T24 ns (j : Int)).f2 (rd_T24 ns (j : Int)).f3 (j : Int) = some true := by
  obtain ⟨h1, h2⟩ := may_l0 ns RR 0 (Nat.zero_le _) h
  refine ⟨h1, ?_, fun j hj => h2 j (Nat.zero_le _) hj⟩
  have := (next_true (h2 (ns.length - 1) (Nat.zero_le _) (by omega))).1
  omega
theorem next_at {ns : List S24} (h : trail_May.f RR ns = some true) {i : Nat} (h0 : 0 < i) (hi : i < ns.length) : 0 ≤ (rd_T24 ns (i : Int)).f1 ∧ (rd_T24 ns (i : Int)).f1 < i := by
  have := (next_true ((may_true h).2.2 i hi)).2.1
  omega

/-! ### tree.Kids -/
def tree_Kids.f (ns : List S24) (a : Int) : Option (List Int × Int) := (tree_there.f ns a).bind fun t => if t = true then some (asInts (kidsTo ns a (a.toNat + 1) ns.length), 0) else some ([], 1300)
theorem there_true {ns : List S24} {a : Int} (h : tree_there.f ns a = some true) : trail_May.f RR ns = some true ∧ 0 ≤ a ∧ a < (ns.length : Int) := by
  unfold tree_there.f at h
  obtain ⟨t, ht, h⟩ := Option.bind_eq_some_iff.1 h
  have h := Option.some.inj h
  cases t with
  | false => cases h
  | true =>
    simp only [Bool.true_and, Bool.and_eq_true, decide_eq_true_eq] at h
    exact ⟨ht, h.1, h.2⟩
theorem collect_calls (Ba Bs c at_ : Nat) (A : Option Addr) (ns : List S24) (w : World)
    (hBa : w.cell? ⟨Ba, 0, none⟩ = some (.int .i64 (at_ : Int))) (hBs : w.cell? ⟨Bs, 0, none⟩ = some (.slice A ns.length c)) (hba : Ba < w.heap.size) (hbs : Bs < w.heap.size)
    (hat : at_ < ns.length) (hC : Kd.C k24 w A ns.length ns) (hlen : ns.length ≤ 100000) :
    Calls Tryd.prog 55 #[.func (.func 76) #[] #[.pointer (some ⟨Ba, 0, none⟩), .pointer (some ⟨Bs, 0, none⟩)]] w fun e W' => ∃ v, e = .returned v ∧
      W'.ownsRow w.heap.size 3 1 v (asInts (kidsTo ns at_ (at_ + 1) ns.length)).length (nums .i64 (asInts (kidsTo ns at_ (at_ + 1) ns.length))) ∧ Below w.heap.size w W' :=
  (callsIn_wide (n := 4)).1 (collect_in _ 4 trivial trivial trivial rfl (Nat.le_refl _) Ba Bs c at_ A ns w hBa hBs hba hbs hat hC hlen)
theorem below_calls (A : Option Addr) (m c : Nat) (a : Int) (w : World) :
    Calls Tryd.prog 56 #[.slice A m c, .int .i64 a] w fun e w' => e = .returned (.func (.func 76) #[] #[.pointer (some ⟨w.heap.size + 1, 0, none⟩), .pointer (some ⟨w.heap.size, 0, none⟩)]) ∧ w' = (w.alloc (.cells #[.slice A m c] 25)).alloc (.cells #[.int .i64 a] 3) :=
  (callsIn_wide (n := 4)).1 (below_in _ 4 trivial rfl A m c a w)
set_option maxHeartbeats 2000000 in
theorem tree_Kids.calls (A : Option Addr) (c : Nat) (ns : List S24) (a : Int) (r1 : List Int) (r2 : Int) (w : World) (hC : Kd.C k24 w A ns.length ns) (hc : ns.length ≤ c) (hL : Laid w) (h : tree_Kids.f ns a = some (r1, r2)) :
    Calls Tryd.prog 26 #[.slice A ns.length c, .int .i64 a] w fun e w' => ∃ v : Value, e = .returned (.tuple #[v, .int .i64 r2]) ∧ Kd.R (Kd.int .i64) 3 w' w.heap.size (fun _ => True) v r1 ∧ Below w.heap.size w w' := by
  unfold tree_Kids.f at h
  obtain ⟨t, ht, h⟩ := Option.bind_eq_some_iff.1 h
  have hmax : ns.length ≤ 9223372036854775807 := hC.2.1
  have hM := Lib.hid (tree_there.calls A c ns a t w hC hc hL ht)
  cases t with
  | false =>
    obtain ⟨rfl, rfl⟩ := Prod.mk.inj (Option.some.inj h)
    clear h ht hC hc hL
    go_enter Tryd.func26, Tryd.ntmps26
    go_wp2_with (go_at_call 52; refine hM.out.mono ?_; rintro e w1 ⟨rfl, hb⟩; have HB := Lib.hid hb; clear hb)
    go_ret2
    exact ⟨_, rfl, Kd.R_nil _ _ _ _ _, HB.out⟩
  | true =>
    obtain ⟨rfl, rfl⟩ := Prod.mk.inj (Option.some.inj h)
    obtain ⟨hmay, h0, h1⟩ := there_true ht
    have h5 := (may_true hmay).2.1
    obtain ⟨i, rfl⟩ := Int.eq_ofNat_of_zero_le h0
    rw [Int.toNat_natCast]
    have HC := Lib.hid hC
    clear h ht hC hc hL hmay
    go_enter Tryd.func26, Tryd.ntmps26
    go_wp2_with (first
      | (go_at_call 52; refine hM.out.mono ?_; rintro e w1 ⟨rfl, hb⟩; have HB := Lib.hid hb; clear hb)
      | (go_at_call 56; refine (below_calls _ _ _ _ _).mono ?_; rintro e w2 ⟨rfl, rfl⟩)
      | (go_at_call 55; refine (collect_calls (w1.heap.size + 1) w1.heap.size c i A ns _ ?side1 ?side2 ?side3 ?side4 (by omega) (Kd.C_alloc (Kd.C_alloc (Kd.C_below HC.out HB.out) _) _) (by omega)).mono ?_; (case side1 => go_simp); (case side2 => go_simp); (case side3 => simp); (case side4 => simp; omega); rintro e w3 ⟨v, rfl, ho, hb⟩; have HO := Lib.hid ho; have HB3 := Lib.hid hb; clear ho hb))
    go_ret2
    have hsz : w.heap.size ≤ w1.heap.size := HB.out.size
    have hB2 : Below w.heap.size w ((w1.alloc (.cells #[.slice A ns.length c] 25)).alloc (.cells #[.int .i64 (i : Int)] 3)) := (HB.out.alloc hsz _).alloc (by simp; omega) _
    exact ⟨v, rfl, Kd.R_lower (Kd.R_of_own HO.out (fun _ _ => trivial)) hB2.size, hB2.trans (HB3.out.mono hB2.size)⟩

/-! ### tree.Size -/
def ones (_ : Nat) : Int := 1
def tree_Size.f (ns : List S24) (a : Int) : Option (Int × Int) := (tree_there.f ns a).bind fun t => if t = true then some (rd (sizesDown ns ones ns.length (List.replicate ns.length 0)) a, 0) else some (0, 1300)
set_option maxHeartbeats 2000000 in
theorem tree_Size.calls (A : Option Addr) (c : Nat) (ns : List S24) (a : Int) (r1 : Int) (r2 : Int) (w : World) (hC : Kd.C k24 w A ns.length ns) (hc : ns.length ≤ c) (hL : Laid w) (h : tree_Size.f ns a = some (r1, r2)) :
    Calls Tryd.prog 25 #[.slice A ns.length c, .int .i64 a] w fun e w' => e = .returned (.tuple #[.int .i64 r1, .int .i64 r2]) ∧ Below w.heap.size w w' := by
  unfold tree_Size.f at h
  obtain ⟨t, ht, h⟩ := Option.bind_eq_some_iff.1 h
  have hmax : ns.length ≤ 9223372036854775807 := hC.2.1
  have hM := Lib.hid (tree_there.calls A c ns a t w hC hc hL ht)
  cases t with
  | false =>
    obtain ⟨rfl, rfl⟩ := Prod.mk.inj (Option.some.inj h)
    clear h ht hC hc hL
    go_enter Tryd.func25, Tryd.ntmps25
    go_wp2_with (go_at_call 52; refine hM.out.mono ?_; rintro e w1 ⟨rfl, hb⟩; have HB := Lib.hid hb; clear hb)
    go_ret2
    exact ⟨rfl, HB.out⟩
  | true =>
    obtain ⟨rfl, rfl⟩ := Prod.mk.inj (Option.some.inj h)
    obtain ⟨hmay, h0, h1⟩ := there_true ht
    have h5 := (may_true hmay).2.1
    obtain ⟨i, rfl⟩ := Int.eq_ofNat_of_zero_le h0
    have HC := Lib.hid hC
    have HN := Lib.hid (fun i h0 hi => next_at hmay (i := i) h0 hi)
    clear h ht hC hc hL hmay
    generalize hz : sizesDown ns ones ns.length (List.replicate ns.length 0) = zs
    have HZ := Lib.hid hz
    clear hz
    go_enter Tryd.func25, Tryd.ntmps25
    go_wp2_with (first
      | (go_at_call 52; refine hM.out.mono ?_; rintro e w1 ⟨rfl, hb⟩; have HB := Lib.hid hb; clear hb)
      | (go_at_call 53; refine (sizes_calls ones (fun _ => rfl) A c ns _ (Kd.C_below HC.out HB.out) (by omega) HN.out).mono ?_; rintro e w2 ⟨rfl, hr⟩; rw [HZ.out] at hr; have hx := (own_at hr.out.1 (i : Int) (by omega) (by omega)).1; simp only [Int.toNat_natCast] at hx))
    go_ret2
    exact ⟨rfl, HB.out.trans (hr.out.2.mono HB.out.size)⟩

/-! ### top.May -/
/-- Is a number no mark? -/
def oddMark (x : Int) : Bool := decide (x < 0) || decide (3 < x)
theorem odd_calls (x : Int) (w : World) : Calls Tryd.prog 77 #[.int .i64 x] w fun e w' => e = .returned (.bool (oddMark x)) ∧ w' = w := by
  by_cases h : x < 0
  · have d : decide (x < 0) = true := decide_eq_true h
    go_enter Tryd.func77, Tryd.ntmps77
    go_wp2
    go_ret
    exact ⟨by unfold oddMark; rw [d]; rfl, rfl⟩
  · have d : decide (x < 0) = false := decide_eq_false h
    go_enter Tryd.func77, Tryd.ntmps77
    go_wp2
    go_ret
    exact ⟨by unfold oddMark; rw [d]; simp, rfl⟩
theorem oddMark_snoc (ms : List Int) (k : Nat) (h : k < ms.length) : (ms.take (k + 1)).any oddMark = ((ms.take k).any oddMark || oddMark (rd ms (k : Int))) := by
  rw [List.take_succ_eq_append_getElem h, List.any_append]
  simp [rd, List.getD_eq_getElem?_getD, List.getElem?_eq_getElem h]
set_option maxHeartbeats 2000000 in
theorem indexOdd_calls (A : Option Addr) (c : Nat) (ms : List Int) (w : World) (hC : Kd.C (Kd.int .i64) w A ms.length ms) :
    Calls Tryd.prog 92 #[.slice A ms.length c, .func (.func 77) #[] #[]] w fun e w' => ∃ r : Int, e = .returned (.int .i64 r) ∧ Aside0 (decide (0 ≤ r) = ms.any oddMark) ∧ w' = w := by
  have hmax : ms.length ≤ 9223372036854775807 := hC.2.1
  have HC := Lib.hid hC
  clear hC
  go_enter Tryd.func92, Tryd.ntmps92
  go_wp2
  go_loop [8] (fun i => ∃ k : Nat, k ≤ ms.length ∧ i = .int .i64 k ∧ Aside0 ((ms.take k).any oddMark = false)) (fun i => ms.length - (intOf i).toNat)
  case atStart => exact ⟨0, Nat.zero_le _, rfl, ⟨by simp⟩⟩
  case round =>
    obtain ⟨k, hk, rfl, hno⟩ := hrel
    by_cases hlt : k < ms.length
    · obtain ⟨ad, eA, hx⟩ := int_at HC.out k hlt
      cases eA
      have hs := Lib.hid (oddMark_snoc ms k hlt)
      cases ho : oddMark (rd ms (k : Int)) with
      | true =>
        have HO := Lib.hid ho
        clear ho
        go_wp2_with (go_at_call 77; refine (odd_calls _ _).mono ?_; rintro e w' ⟨rfl, rfl⟩; rw [HO.out])
        go_ret
        refine ⟨(k : Int), rfl, ⟨?_⟩, rfl⟩
        have h1 : (ms.take (k + 1)).any oddMark = true := by rw [hs.out, HO.out]; simp
        rw [decide_eq_true (by omega)]
        obtain ⟨y, hy, hy2⟩ := List.any_eq_true.1 h1
        exact (List.any_eq_true.2 ⟨y, List.mem_of_mem_take hy, hy2⟩).symm
      | false =>
        have HO := Lib.hid ho
        clear ho
        go_wp2_with (go_at_call 77; refine (odd_calls _ _).mono ?_; rintro e w' ⟨rfl, rfl⟩; rw [HO.out])
        go_round
        case rel => exact ⟨k + 1, by omega, by go_num, ⟨by rw [hs.out, HO.out, hno.out]; rfl⟩⟩
        case measure => simp [intOf]; omega
    · go_wp2
      go_ret
      refine ⟨-1, rfl, ⟨?_⟩, rfl⟩
      have h1 := hno.out
      rw [List.take_of_length_le (by omega)] at h1
      rw [h1]
      rfl
theorem containsOdd_calls (A : Option Addr) (c : Nat) (ms : List Int) (w : World) (hC : Kd.C (Kd.int .i64) w A ms.length ms) :
    Calls Tryd.prog 78 #[.slice A ms.length c, .func (.func 77) #[] #[]] w fun e w' => e = .returned (.bool (ms.any oddMark)) ∧ w' = w := by
  have hI := Lib.hid (indexOdd_calls A c ms w hC)
  clear hC
  go_enter Tryd.func78, Tryd.ntmps78
  go_wp2_with (go_at_call 92; refine hI.out.mono ?_; rintro e w' ⟨r, rfl, hr, rfl⟩)
  go_ret
  exact ⟨by rw [← hr.out]; rfl, rfl⟩
def top_May.f (ns : List S24) (ms : List Int) : Option Bool := (trail_May.f RR ns).bind fun t => some (t && (decide (ms.length = ns.length) && !ms.any oddMark))
set_option maxHeartbeats 2000000 in
theorem top_May.calls (A : Option Addr) (c : Nat) (ns : List S24) (A1 : Option Addr) (c1 : Nat) (ms : List Int) (r : Bool) (w : World) (hC : Kd.C k24 w A ns.length ns) (hc : ns.length ≤ c) (hC1 : Kd.C (Kd.int .i64) w A1 ms.length ms) (hc1 : ms.length ≤ c1) (hL : Laid w) (h : top_May.f ns ms = some r) :
    Calls Tryd.prog 59 #[.slice A ns.length c, .slice A1 ms.length c1] w fun e w' => e = .returned (.bool r) ∧ Below w.heap.size w w' := by
  unfold top_May.f at h
  obtain ⟨t, ht, h⟩ := Option.bind_eq_some_iff.1 h
  have hmax : ns.length ≤ 9223372036854775807 := hC.2.1
  have hmax1 : ms.length ≤ 9223372036854775807 := hC1.2.1
  have hM := Lib.hid (trail_May.calls RR A c ns t w hC hc hL ht)
  have H := Lib.hid (Option.some.inj h)
  have HC1 := Lib.hid hC1
  clear h ht hC hc hL hC1 hc1
  cases t with
  | false =>
    go_enter Tryd.func59, Tryd.ntmps59
    go_wp2_with (go_at_call 64; refine hM.out.mono ?_; rintro e w1 ⟨rfl, hb⟩; have HB := Lib.hid hb; clear hb)
    go_ret
    exact ⟨by rw [← H.out]; simp, HB.out⟩
  | true =>
    by_cases hl : ms.length = ns.length
    · have d0 : ((ms.length : Int) == (ns.length : Int)) = true := beq_iff_eq.mpr (by omega)
      have d1 : (ms.length == ns.length) = true := beq_iff_eq.mpr hl
      have HL := Lib.hid hl
      clear hl
      go_enter Tryd.func59, Tryd.ntmps59
      go_wp2_with (first
        | (go_at_call 64; refine hM.out.mono ?_; rintro e w1 ⟨rfl, hb⟩; have HB := Lib.hid hb; clear hb)
        | (go_at_call 78; refine (containsOdd_calls A1 c1 ms _ (Kd.C_below HC1.out HB.out)).mono ?_; rintro e w2 ⟨rfl, rfl⟩))
      go_ret
      exact ⟨by rw [← H.out, decide_eq_true HL.out]; simp, HB.out⟩
    · have d0 : ((ms.length : Int) == (ns.length : Int)) = false := beq_eq_false_iff_ne.mpr (by omega)
      have d1 : (ms.length == ns.length) = false := beq_eq_false_iff_ne.mpr hl
      have HL := Lib.hid hl
      clear hl
      go_enter Tryd.func59, Tryd.ntmps59
      go_wp2_with (first
        | (go_at_call 64; refine hM.out.mono ?_; rintro e w1 ⟨rfl, hb⟩; have HB := Lib.hid hb; clear hb))
      go_ret
      exact ⟨by rw [← H.out, decide_eq_false HL.out]; simp, HB.out⟩

/-! ### top.first, top.Bug -/
theorem kidsTo_split (ns : List S24) (v : Int) (a x b : Nat) (h1 : a ≤ x) (h2 : x ≤ b) : kidsTo ns v a b = kidsTo ns v a x ++ kidsTo ns v x b := by
  unfold kidsTo
  rw [← List.filter_append]
  congr 1
  have := @List.range'_append a (x - a) (b - x) 1
  rw [show a + 1 * (x - a) = x by omega, show x - a + (b - x) = b - a by omega] at this
  exact this.symm
theorem kidsTo_head (ns : List S24) (v : Int) (x b : Nat) (h2 : x < b) (hv : (rd_T24 ns (x : Int)).f1 = v) : kidsTo ns v x b = x :: kidsTo ns v (x + 1) b := by
  rw [kidsTo_split ns v x (x + 1) b (by omega) (by omega), kidsTo_succ ns v x x (Nat.le_refl _), kidsTo_nil, if_pos hv]
  rfl
def kidsOf (ns : List S24) (a : Int) : List Nat := kidsTo ns a (a.toNat + 1) ns.length
def firstKid (ns : List S24) (ms : List Int) (a mark : Int) : Int × Bool := match (kidsOf ns a).find? (fun x : Nat => decide (rd ms (x : Int) = mark)) with
  | some x => ((x : Int), true)
  | none => (0, false)
def top_first.f (ns : List S24) (ms : List Int) (a mark : Int) : Option (Int × Bool) := if 0 ≤ a ∧ a < (ns.length : Int) ∧ ns.length ≤ ms.length then some (firstKid ns ms a mark) else none
theorem top_first.calls (A : Option Addr) (c : Nat) (ns : List S24) (A1 : Option Addr) (c1 : Nat) (ms : List Int) (a mark : Int) (r1 : Int) (r2 : Bool) (w : World) (hC : Kd.C k24 w A ns.length ns) (hc : ns.length ≤ c) (hC1 : Kd.C (Kd.int .i64) w A1 ms.length ms) (hc1 : ms.length ≤ c1) (h : top_first.f ns ms a mark = some (r1, r2)) :
    Calls Tryd.prog 79 #[.slice A ns.length c, .slice A1 ms.length c1, .int .i64 a, .int .i64 mark] w fun e w' => e = .returned (.tuple #[.int .i64 r1, .bool r2]) ∧ Below w.heap.size w w' := by
  unfold top_first.f at h
  split at h
  · rename_i hg
    have h := Option.some.inj h
    obtain ⟨i, rfl⟩ := Int.eq_ofNat_of_zero_le hg.1
    refine ((callsIn_wide (n := 4)).1 (first_in _ 4 trivial trivial trivial rfl (by omega) A A1 c c1 i mark ns ms w (by omega) hC hC1 hg.2.2)).mono ?_
    rintro e w' ⟨k, b, rfl, hp, hb⟩
    refine ⟨?_, hb⟩
    have hk : (k, b) = (r1, r2) := by
      rw [← h]
      unfold firstKid kidsOf
      rw [Int.toNat_natCast]
      rcases hp.out with ⟨e, hno⟩ | ⟨x, e, hx, hix, hpx, hm, hno⟩
      · rw [List.find?_eq_none.2 (fun x hx => by simpa using hno x hx)]
        exact e
      · rw [kidsTo_split ns _ (i + 1) x ns.length (by omega) (by omega), kidsTo_head ns _ x ns.length hx hpx, List.find?_append, List.find?_eq_none.2 (fun x hx => by simpa using hno x hx)]
        rw [List.find?_cons_of_pos (by simpa using hm)]
        exact e
    obtain ⟨rfl, rfl⟩ := Prod.mk.inj hk
    rfl
  · cases h
def bugOf (ns : List S24) (ms : List Int) (a : Int) : Int × Int := if (kidsOf ns a).all (fun x : Nat => decide (rd ms (x : Int) = 1)) then (1, a) else (3, 0)
def top_Bug.f (ns : List S24) (ms : List Int) (a : Int) : Option (Int × Int) := if 0 ≤ a ∧ a < (ns.length : Int) ∧ ns.length ≤ ms.length then some (bugOf ns ms a) else none
theorem top_Bug.calls (A : Option Addr) (c : Nat) (ns : List S24) (A1 : Option Addr) (c1 : Nat) (ms : List Int) (a : Int) (r1 : Int) (r2 : Int) (w : World) (hC : Kd.C k24 w A ns.length ns) (hc : ns.length ≤ c) (hC1 : Kd.C (Kd.int .i64) w A1 ms.length ms) (hc1 : ms.length ≤ c1) (h : top_Bug.f ns ms a = some (r1, r2)) :
    Calls Tryd.prog 80 #[.slice A ns.length c, .slice A1 ms.length c1, .int .i64 a] w fun e w' => e = .returned (.agg #[.int .i64 r1, .int .i64 r2]) ∧ Below w.heap.size w w' := by
  unfold top_Bug.f at h
  split at h
  · rename_i hg
    have h := Option.some.inj h
    obtain ⟨i, rfl⟩ := Int.eq_ofNat_of_zero_le hg.1
    refine ((callsIn_wide (n := 4)).1 (bug_in _ 4 trivial trivial trivial rfl (by omega) A A1 c c1 i ns ms w (by omega) hC hC1 hg.2.2)).mono ?_
    rintro e w' ⟨k, p, rfl, hp, hb⟩
    refine ⟨?_, hb⟩
    have hk : (k, p) = (r1, r2) := by
      rw [← h]
      unfold bugOf kidsOf
      rw [Int.toNat_natCast]
      rcases hp.out with ⟨e, hall⟩ | ⟨e, x, hx, hne⟩
      · rw [if_pos (List.all_eq_true.2 fun x hx => by simpa using hall x hx)]
        exact e
      · rw [if_neg (fun hall => hne (by simpa using List.all_eq_true.1 hall x hx))]
        exact e
    obtain ⟨rfl, rfl⟩ := Prod.mk.inj hk
    rfl
  · cases h
end Go.Proofs.YtkbaelhcijibiaaDoor.Px

/-
  tree.Sizes, counting one for each node: a node's size is one and its kids' sizes; the root's is all.
-/
namespace Go.Proofs.YtkbaelhcijibiaaDoor.Px
open Go.RowKit Go.Proofs.YtkbaelhcijibiaaDoorW.PrintWords Go.Proofs.YtkbaelhcijibiaaDoorW.PrintLast Go.Proofs.YtkbaelhcijibiaaDoorW.PrintMore
set_option linter.unusedVariables false
set_option linter.unusedSimpArgs false

/-- Summed over places. -/
def sumL (f : Nat → Int) : List Nat → Int
  | [] => 0
  | x :: l => f x + sumL f l
theorem sumL_append (f : Nat → Int) : ∀ l m : List Nat, sumL f (l ++ m) = sumL f l + sumL f m
  | [], m => by simp [sumL]
  | x :: l, m => by simp only [List.cons_append, sumL, sumL_append f l m]; omega
theorem sumL_congr {f g : Nat → Int} : ∀ l : List Nat, (∀ x ∈ l, f x = g x) → sumL f l = sumL g l
  | [], _ => rfl
  | x :: l, h => by rw [sumL, sumL, h x (by simp), sumL_congr l (fun y hy => h y (by simp [hy]))]
/-- Summed below a place. -/
def sumTo (f : Nat → Int) : Nat → Int
  | 0 => 0
  | n + 1 => sumTo f n + f n
theorem sumTo_le {f : Nat → Int} : ∀ {n : Nat}, (∀ x, x < n → 0 ≤ f x) → (∀ x, x < n → f x ≤ sumTo f n) ∧ 0 ≤ sumTo f n
  | 0, _ => ⟨fun x h => by omega, by simp [sumTo]⟩
  | n + 1, h => by
    obtain ⟨h1, h2⟩ := sumTo_le (n := n) (fun x hx => h x (by omega))
    have h3 := h n (by omega)
    refine ⟨fun x hx => ?_, by simp only [sumTo]; omega⟩
    simp only [sumTo]
    rcases Nat.eq_or_lt_of_le (Nat.le_of_lt_succ hx) with rfl | hlt
    · omega
    · have := h1 x hlt; omega
theorem sumTo_two {f : Nat → Int} : ∀ {n : Nat}, (∀ x, x < n → 0 ≤ f x) → ∀ x y, x < y → y < n → f x + f y ≤ sumTo f n
  | 0, _, x, y, _, h => by omega
  | n + 1, h, x, y, hxy, hy => by
    simp only [sumTo]
    rcases Nat.eq_or_lt_of_le (Nat.le_of_lt_succ hy) with rfl | hlt
    · have := (sumTo_le (n := y) (fun x hx => h x (by omega))).1 x hxy; omega
    · have := sumTo_two (n := n) (fun x hx => h x (by omega)) x y hxy hlt
      have := h n (by omega)
      omega
theorem sumTo_congr {f g : Nat → Int} : ∀ {n : Nat}, (∀ x, x < n → f x = g x) → sumTo f n = sumTo g n
  | 0, _ => rfl
  | n + 1, h => by rw [sumTo, sumTo, sumTo_congr (fun x hx => h x (by omega)), h n (by omega)]
theorem sumTo_add {f g : Nat → Int} (p : Nat) (v : Int) : ∀ {n : Nat}, p < n → (∀ x, x < n → x ≠ p → g x = f x) → g p = f p + v → sumTo g n = sumTo f n + v
  | 0, h, _, _ => by omega
  | n + 1, h, hne, hp => by
    simp only [sumTo]
    rcases Nat.eq_or_lt_of_le (Nat.le_of_lt_succ h) with rfl | hlt
    · rw [hp, sumTo_congr (f := g) (g := f) (fun x hx => hne x (by omega) (by omega))]; omega
    · rw [sumTo_add (n := n) p v hlt (fun x hx => hne x (by omega)) hp, hne n (by omega) (by omega)]; omega

theorem rd_set (out : List Int) (i : Nat) (v : Int) (x : Nat) (hi : i < out.length) : rd (out.set i v) (x : Int) = if x = i then v else rd out (x : Int) := by
  unfold rd
  rw [Int.toNat_natCast, List.getD_eq_getElem?_getD, List.getD_eq_getElem?_getD, List.getElem?_set]
  by_cases h : i = x
  · subst h; simp [hi]
  · have h' : ¬ x = i := fun e => h e.symm
    simp [h, h']
/-- What stands when the nodes from a place on are counted. -/
structure Counted (ns : List S24) (j : Nat) (out : List Int) : Prop where
  len : out.length = ns.length
  pos : ∀ x, x < ns.length → 0 ≤ rd out (x : Int)
  tot : sumTo (fun x => rd out (x : Int)) j = (ns.length : Int) - j
  low : ∀ x, x < j → rd out (x : Int) = sumL (fun y => rd out (y : Int)) (kidsTo ns x j ns.length)
  top : ∀ x, j ≤ x → x < ns.length → rd out (x : Int) = 1 + sumL (fun y => rd out (y : Int)) (kidsTo ns x (x + 1) ns.length)
  cap : ∀ x, j ≤ x → x < ns.length → rd out (x : Int) ≤ ns.length
theorem kidsTo_bounds (ns : List S24) (v : Int) (a b x : Nat) (h : x ∈ kidsTo ns v a b) : a ≤ x ∧ x < b ∧ (rd_T24 ns (x : Int)).f1 = v := by
  unfold kidsTo at h
  rw [List.mem_filter, List.mem_range'_1] at h
  exact ⟨h.1.1, by omega, by simpa using h.2⟩
theorem kidsTo_self (ns : List S24) (v : Int) (a b : Nat) (h : b ≤ a) : kidsTo ns v a b = [] := by
  unfold kidsTo
  rw [show b - a = 0 by omega]
  rfl
theorem counted_start (ns : List S24) : Counted ns ns.length (List.replicate ns.length 0) := by
  have hz : ∀ x : Nat, rd (List.replicate ns.length 0) (x : Int) = 0 := by
    intro x
    unfold rd
    rw [List.getD_eq_getElem?_getD, List.getElem?_replicate]
    split <;> rfl
  have hs : ∀ n, sumTo (fun x => rd (List.replicate ns.length 0) (x : Int)) n = 0 := by
    intro n
    induction n with
    | zero => rfl
    | succ n ih =>
      show sumTo (fun x => rd (List.replicate ns.length 0) (x : Int)) n + rd (List.replicate ns.length 0) (n : Int) = 0
      rw [ih, hz]
      rfl
  exact ⟨by simp, fun x _ => by rw [hz]; exact Int.le_refl _, by rw [hs]; omega, fun x hx => by rw [hz, kidsTo_self _ _ _ _ (Nat.le_refl _)]; rfl, fun x h1 h2 => by omega, fun x h1 h2 => by omega⟩
theorem kidsTo_from (ns : List S24) (v : Int) (j b : Nat) (h : j < b) : kidsTo ns v j b = (if (rd_T24 ns (j : Int)).f1 = v then [j] else []) ++ kidsTo ns v (j + 1) b := by
  rw [kidsTo_split ns v j (j + 1) b (by omega) (by omega), kidsTo_succ ns v j j (Nat.le_refl _), kidsTo_nil]
  rfl
/-- One step down, but the last. -/
theorem counted_step (ns : List S24) (hn : ns.length ≤ 512) (j : Nat) (hj : 0 < j) (hj2 : j < ns.length) (hp0 : 0 ≤ (rd_T24 ns (j : Int)).f1) (hp1 : (rd_T24 ns (j : Int)).f1 < j) (out : List Int) (h : Counted ns (j + 1) out) :
    Counted ns j (handUp ns j (ownCount ones j out)) := by
  obtain ⟨p, hp⟩ := Int.eq_ofNat_of_zero_le hp0
  have hpj : p < j := by omega
  have hb := sumTo_le (f := fun x => rd out (x : Int)) (n := j + 1) (fun x hx => h.pos x (by omega))
  have htot := h.tot
  have hj3 := hb.1 j (by omega)
  have h2 := sumTo_two (f := fun x => rd out (x : Int)) (n := j + 1) (fun x hx => h.pos x (by omega)) p j hpj (by omega)
  have hpj0 := h.pos j hj2
  have hpp := h.pos p (by omega)
  have e1 : ownCount ones j out = out.set j (rd out (j : Int) + 1) := by
    unfold ownCount ones
    rw [show wrap64 (rd out (j : Int) + 1) = rd out (j : Int) + 1 by unfold wrap64; omega]
  have l1 : (out.set j (rd out (j : Int) + 1)).length = ns.length := by rw [List.length_set, h.len]
  have r1 : ∀ x : Nat, rd (out.set j (rd out (j : Int) + 1)) (x : Int) = if x = j then rd out (j : Int) + 1 else rd out (x : Int) := fun x => rd_set out j _ x (by rw [h.len]; exact hj2)
  have e2 : handUp ns j (ownCount ones j out) = (out.set j (rd out (j : Int) + 1)).set p (rd out (p : Int) + (rd out (j : Int) + 1)) := by
    unfold handUp
    rw [e1, if_pos hj, hp, Int.toNat_natCast, r1 p, r1 j, if_neg (by omega), if_pos rfl]
    rw [show wrap64 (rd out (p : Int) + (rd out (j : Int) + 1)) = rd out (p : Int) + (rd out (j : Int) + 1) by unfold wrap64; omega]
  have r2 : ∀ x : Nat, rd (handUp ns j (ownCount ones j out)) (x : Int) = if x = p then rd out (p : Int) + (rd out (j : Int) + 1) else if x = j then rd out (j : Int) + 1 else rd out (x : Int) := by
    intro x
    rw [e2, rd_set _ p _ x (by rw [l1]; omega), r1 x]
  have hup : ∀ x : Nat, j < x → rd (handUp ns j (ownCount ones j out)) (x : Int) = rd out (x : Int) := fun x hx => by rw [r2, if_neg (by omega), if_neg (by omega)]
  have hself : rd (handUp ns j (ownCount ones j out)) (j : Int) = rd out (j : Int) + 1 := by rw [r2, if_neg (by omega), if_pos rfl]
  have hsum : ∀ (v : Int) (a : Nat), j < a → sumL (fun y => rd (handUp ns j (ownCount ones j out)) (y : Int)) (kidsTo ns v a ns.length) = sumL (fun y => rd out (y : Int)) (kidsTo ns v a ns.length) := by
    intro v a ha
    refine sumL_congr _ (fun x hx => hup x ?_)
    have := (kidsTo_bounds ns v a ns.length x hx).1
    omega
  refine ⟨by rw [handUp_length, ownCount_length, h.len], fun x hx => ?_, ?_, fun x hx => ?_, fun x hx hxn => ?_, fun x hx hxn => ?_⟩
  · rw [r2]
    have := h.pos x hx
    split
    · omega
    · split <;> omega
  · have h5 : sumTo (fun x => rd out (x : Int)) (j + 1) = sumTo (fun x => rd out (x : Int)) j + rd out (j : Int) := rfl
    rw [sumTo_add (f := fun x => rd out (x : Int)) (g := fun x => rd (handUp ns j (ownCount ones j out)) (x : Int)) p (rd out (j : Int) + 1) hpj (fun x hx hne => by rw [r2, if_neg hne, if_neg (by omega)]) (by rw [r2, if_pos rfl])]
    omega
  · rw [kidsTo_from ns x j ns.length hj2, sumL_append, hsum _ _ (by omega), ← h.low x (by omega), hp]
    by_cases hxp : x = p
    · subst hxp
      rw [r2, if_pos rfl, if_pos rfl]
      simp only [sumL]
      rw [hself]
      omega
    · rw [r2, if_neg hxp, if_neg (by omega), if_neg (by omega)]
      simp only [sumL]
      omega
  · rcases Nat.eq_or_lt_of_le hx with rfl | hlt
    · rw [hself, hsum _ _ (by omega), h.low j (by omega)]
      omega
    · rw [hup x hlt, hsum _ _ (by omega)]
      exact h.top x (by omega) hxn
  · rcases Nat.eq_or_lt_of_le hx with rfl | hlt
    · rw [hself]
      omega
    · rw [hup x hlt]
      exact h.cap x (by omega) hxn
/-- The sizes of a trail's nodes. -/
def szs (ns : List S24) : List Int := sizesDown ns ones ns.length (List.replicate ns.length 0)
theorem counted_down (ns : List S24) (hn : ns.length ≤ 512) (hpar : ∀ i : Nat, 0 < i → i < ns.length → 0 ≤ (rd_T24 ns (i : Int)).f1 ∧ (rd_T24 ns (i : Int)).f1 < i) : ∀ (k : Nat) (out : List Int), k + 1 ≤ ns.length → Counted ns (k + 1) out → ∃ out1, Counted ns 1 out1 ∧ sizesDown ns ones (k + 1) out = handUp ns 0 (ownCount ones 0 out1)
  | 0, out, hk, h => ⟨out, h, rfl⟩
  | k + 1, out, hk, h => by
    have hp := hpar (k + 1) (by omega) (by omega)
    obtain ⟨out1, h1, h2⟩ := counted_down ns hn hpar k _ (by omega) (counted_step ns hn (k + 1) (by omega) (by omega) hp.1 hp.2 out h)
    exact ⟨out1, h1, by rw [sizesDown]; exact h2⟩
theorem szs_law (ns : List S24) (hn : ns.length ≤ 512) (h0 : 0 < ns.length) (hpar : ∀ i : Nat, 0 < i → i < ns.length → 0 ≤ (rd_T24 ns (i : Int)).f1 ∧ (rd_T24 ns (i : Int)).f1 < i) :
    (∀ x : Nat, x < ns.length → rd (szs ns) (x : Int) = 1 + sumL (fun y => rd (szs ns) (y : Int)) (kidsTo ns x (x + 1) ns.length)) ∧ rd (szs ns) 0 = ns.length ∧ (∀ x : Nat, x < ns.length → 0 ≤ rd (szs ns) (x : Int) ∧ rd (szs ns) (x : Int) ≤ ns.length) := by
  have hlast : ns.length = (ns.length - 1) + 1 := by omega
  have hs := counted_start ns
  obtain ⟨out, h, he⟩ : ∃ out1, Counted ns 1 out1 ∧ szs ns = handUp ns 0 (ownCount ones 0 out1) := by
    unfold szs
    have := counted_down ns hn hpar (ns.length - 1) (List.replicate ns.length 0) (by omega) (by rw [← hlast]; exact hs)
    rwa [← hlast] at this
  have htot := h.tot
  have h00 : rd out ((0 : Nat) : Int) = (ns.length : Int) - 1 := by
    have h5 : sumTo (fun x => rd out (x : Int)) 1 = 0 + rd out ((0 : Nat) : Int) := rfl
    rw [h5] at htot
    omega
  have e1 : szs ns = out.set 0 (rd out ((0 : Nat) : Int) + 1) := by
    rw [he]
    unfold handUp ownCount ones
    rw [if_neg (by omega), show wrap64 (rd out ((0 : Nat) : Int) + 1) = rd out ((0 : Nat) : Int) + 1 by unfold wrap64; omega]
  have r1 : ∀ x : Nat, rd (szs ns) (x : Int) = if x = 0 then rd out ((0 : Nat) : Int) + 1 else rd out (x : Int) := fun x => by rw [e1]; exact rd_set out 0 _ x (by rw [h.len]; exact h0)
  have hsum : ∀ (v : Int) (a : Nat), 0 < a → sumL (fun y => rd (szs ns) (y : Int)) (kidsTo ns v a ns.length) = sumL (fun y => rd out (y : Int)) (kidsTo ns v a ns.length) := by
    intro v a ha
    refine sumL_congr _ (fun x hx => ?_)
    have := (kidsTo_bounds ns v a ns.length x hx).1
    rw [r1, if_neg (by omega)]
  refine ⟨fun x hx => ?_, ?_, fun x hx => ?_⟩
  · rw [hsum _ _ (by omega)]
    by_cases hx0 : x = 0
    · subst hx0
      rw [r1, if_pos rfl, h.low 0 (by omega), Nat.zero_add]
      omega
    · rw [r1, if_neg hx0]
      exact h.top x (by omega) hx
  · have := r1 0
    rw [if_pos rfl, h00] at this
    have e : rd (szs ns) 0 = rd (szs ns) ((0 : Nat) : Int) := rfl
    rw [e, this]
    omega
  · rw [r1]
    by_cases hx0 : x = 0
    · rw [if_pos hx0, h00]
      omega
    · rw [if_neg hx0]
      exact ⟨h.pos x hx, h.cap x (by omega) hx⟩
end Go.Proofs.YtkbaelhcijibiaaDoor.Px

/-
  What the cutter of terms answers: always something, in so many rounds; what it leaves is no longer than what came in.
-/
namespace Go.Proofs.YtkbaelhcijibiaaDoor.Px
open Go.RowKit Go.Proofs.YtkbaelhcijibiaaDoorW.PrintWords Go.Proofs.YtkbaelhcijibiaaDoorW.PrintLast Go.Proofs.YtkbaelhcijibiaaDoorW.PrintMore
set_option linter.unusedVariables false
set_option linter.unusedSimpArgs false

theorem wrap64_of {x : Int} (h1 : -9223372036854775808 ≤ x) (h2 : x ≤ 9223372036854775807) : wrap64 x = x := by
  unfold wrap64
  omega

theorem sh_some (a b : ByteArray) : ∃ t, stringslite_HasPrefix.f a b = some t ∧ (t = true → b.size ≤ a.size) := by
  unfold stringslite_HasPrefix.f
  split
  · rename_i h
    repeat rw [if_pos (by omega)]
    exact ⟨_, rfl, fun _ => by omega⟩
  · exact ⟨_, rfl, fun h => by cases h⟩
theorem hp_some (a b : ByteArray) : ∃ t, strings_HasPrefix.f a b = some t ∧ (t = true → b.size ≤ a.size) := by
  obtain ⟨t, h, h2⟩ := sh_some a b
  exact ⟨t, by unfold strings_HasPrefix.f; rw [h]; rfl, h2⟩
theorem cp_some (a b : ByteArray) : ∃ r, strings_CutPrefix.f a b = some r ∧ r.1.size ≤ a.size := by
  obtain ⟨t, h, h2⟩ := sh_some a b
  unfold strings_CutPrefix.f stringslite_CutPrefix.f
  rw [h]
  cases t
  · exact ⟨_, rfl, Nat.le_refl _⟩
  · have := h2 rfl
    refine ⟨(a.extract b.size a.size, true), ?_, ?_⟩
    · simp only [Option.bind_some, if_pos, Int.toNat_natCast]
      rw [if_pos (by omega), if_pos (by omega)]
      rfl
    · simp [ByteArray.size_extract]

theorem word_some (s : ByteArray) (h : s.size < 4294967281) : ∃ a b, term_word.f s = some (a, b) ∧ a.size ≤ s.size ∧ b.size ≤ s.size := by
  unfold term_word.f
  rw [if_pos h]
  refine ⟨_, _, rfl, ?_, ?_⟩ <;> simp only [ByteArray.size_extract] <;> omega
theorem digits_some (s : ByteArray) (m : Int) (h : s.size ≤ 281474976710656) : ∃ r, term_Digits.f s m = some r := by
  unfold term_Digits.f; rw [if_pos h]; exact ⟨_, rfl⟩
theorem number_some (s : ByteArray) (h : s.size ≤ 281474976710656) : ∃ r, term_Number.f s = some r := by
  unfold term_Number.f; rw [if_pos h]; exact ⟨_, rfl⟩
theorem tag_some (s : ByteArray) (h : s.size ≤ 281474976710656) : ∃ r, term_Tag.f s = some r := by
  unfold term_Tag.f
  obtain ⟨r, hr, hs⟩ := cp_some s (⟨#[64]⟩ : ByteArray)
  obtain ⟨d, hd⟩ := digits_some r.1 99 (by omega)
  rw [hr]
  simp only [Option.bind_some]
  rw [hd]
  simp only [Option.bind_some]
  split <;> exact ⟨_, rfl⟩

/-- The cutter answers. -/
theorem cut_all : ∀ n : Nat, n ≤ 4000000000 →
    (∀ k s, s.size ≤ n → 3 * n + 4 ≤ k → ∃ r, term_cut.f k s = some r ∧ r.2.2.2.1.size ≤ s.size) ∧
    (∀ k (s : ByteArray) x xs, 1 ≤ s.size → s.size ≤ n → xs.length ≤ 3 → 3 * n + 2 ≤ k → ∃ r, term_cut.l0 k s x xs = some r ∧ r.2.2.2.1.size ≤ s.size)
  | n => by
    intro hn
    have IH : ∀ m, m < n → _ := fun m hm => cut_all m (by omega)
    have hl : ∀ k (s : ByteArray) x xs, 1 ≤ s.size → s.size ≤ n → xs.length ≤ 3 → 3 * n + 2 ≤ k → ∃ r, term_cut.l0 k s x xs = some r ∧ r.2.2.2.1.size ≤ s.size := by
      intro k s x xs h1 h2 h3 h4
      obtain ⟨k, rfl⟩ : ∃ j, k = j + 1 := ⟨k - 1, by omega⟩
      unfold term_cut.l0
      split
      · rename_i hc
        rw [if_pos (by omega)]
        have hsz : (s.extract 1 s.size).size = s.size - 1 := by simp [ByteArray.size_extract]
        obtain ⟨r, hr, hrs⟩ := (IH (n - 1) (by omega)).1 k (s.extract 1 s.size) (by omega) (by omega)
        rw [hr]
        simp only [Option.bind_some]
        split
        · rw [wrap64_of (by omega) (by omega), if_pos (by omega), if_pos (by omega), if_pos (by omega)]
          obtain ⟨t, ht, ht2⟩ := hp_some r.2.2.2.1 (⟨#[32]⟩ : ByteArray)
          rw [ht]
          simp only [Option.bind_some]
          split
          · rename_i htt
            have h32 := ht2 htt
            simp only [show (⟨#[32]⟩ : ByteArray).size = 1 from rfl] at h32
            obtain ⟨q, hq, hqs⟩ := (IH (n - 1) (by omega)).2 k r.2.2.2.1 x (xs ++ [(s.extract 1 s.size).extract 0 ((((s.extract 1 s.size).size : Int) - (r.2.2.2.1.size : Int)) : Int).toNat]) h32 (by omega) (by simp; omega) (by omega)
            exact ⟨q, hq, by omega⟩
          · obtain ⟨q, hq, hqs⟩ := cp_some r.2.2.2.1 (⟨#[41]⟩ : ByteArray)
            rw [hq]
            exact ⟨_, rfl, by show q.1.size ≤ _; omega⟩
        · exact ⟨_, rfl, Nat.zero_le _⟩
      · obtain ⟨q, hq, hqs⟩ := cp_some s (⟨#[41]⟩ : ByteArray)
        rw [hq]
        exact ⟨_, rfl, by simpa using hqs⟩
    refine ⟨?_, hl⟩
    intro k s h2 h4
    obtain ⟨k, rfl⟩ : ∃ j, k = j + 2 := ⟨k - 2, by omega⟩
    unfold term_cut.f
    obtain ⟨a, b, hw, ha, hb⟩ := word_some s (by omega)
    rw [hw]
    simp only [Option.bind_some]
    split
    · exact ⟨_, rfl, hb⟩
    split
    · exact ⟨_, rfl, hb⟩
    obtain ⟨u, hu⟩ := number_some a (by omega)
    rw [hu]
    simp only [Option.bind_some]
    split
    · exact ⟨_, rfl, hb⟩
    obtain ⟨v, hv⟩ := tag_some a (by omega)
    rw [hv]
    simp only [Option.bind_some]
    have j1 : ∀ x y, ∃ r, term_cut.j0 (k + 1) b x y true = some r ∧ r.2.2.2.1.size ≤ s.size := by
      intro x y
      unfold term_cut.j0
      rw [if_pos rfl]
      exact ⟨_, rfl, hb⟩
    split
    · obtain ⟨t, ht, ht2⟩ := hp_some b (⟨#[40]⟩ : ByteArray)
      rw [ht]
      simp only [Option.bind_some]
      cases t
      · exact j1 _ _
      · have := ht2 rfl
        simp only [show (⟨#[40]⟩ : ByteArray).size = 1 from rfl] at this
        unfold term_cut.j0
        rw [if_neg (by simp)]
        obtain ⟨r, hr, hrs⟩ := hl k b v.1 [] this (by omega) (by simp) (by omega)
        exact ⟨r, hr, by omega⟩
    · exact j1 _ _

theorem may_some (k : Nat) (hk : 3100 ≤ k) (s : ByteArray) : ∃ t, term_May.f k s = some t ∧ (t = true → s.size ≤ 1024) := by
  unfold term_May.f
  split
  · exact ⟨_, rfl, fun h => by cases h⟩
  · obtain ⟨r, hr, _⟩ := (cut_all 1024 (by omega)).1 k s (by omega) (by omega)
    rw [hr]
    simp only [Option.bind_some]
    split
    · exact ⟨_, rfl, fun _ => by omega⟩
    · exact ⟨_, rfl, fun _ => by omega⟩
end Go.Proofs.YtkbaelhcijibiaaDoor.Px

/- Of each function of this text: a plain Lean function and a proof that the machine's call comes to its answers; printed by this session's program. -/
namespace Go.Proofs.YtkbaelhcijibiaaDoor.Px
open Go.RowKit Go.Proofs.YtkbaelhcijibiaaDoorW.PrintWords Go.Proofs.YtkbaelhcijibiaaDoorW.PrintLast Go.Proofs.YtkbaelhcijibiaaDoorW.PrintMore
attribute [local go_sem] max2_int min2_int max_two min_two max_three min_three max_four min_four   -- for this text's walks alone
set_option linter.unusedVariables false
set_option linter.unusedSimpArgs false

/-! ### sleuthref1_bad: function 107 -/
def sleuthref1_bad.f  : Option (Int × Int × List ByteArray × Int) := some (0, 0, ([] : List ByteArray), (-1))
set_option maxHeartbeats 8000000 in
set_option maxRecDepth 100000 in
theorem sleuthref1_bad.calls  (r1 : Int) (r2 : Int) (r3 : List ByteArray) (r4 : Int) (w : World) (h : sleuthref1_bad.f  = some (r1, r2, r3, r4)) :
    Calls Tryd.prog 107 #[] w fun e w' => ∃ v2_ : Value, e = .returned (.agg #[.int .i64 r1, .int .i64 r2, v2_, .int .i64 r4]) ∧ Kd.R Kd.string 9 w' w.heap.size (fun _ => True) v2_ r3 ∧ Below w.heap.size w w' := by
  have hu134 := Tryd.underlying134
  have HB := Aside0.mk (Below.refl w.heap.size w)
  have H : (some (0, 0, ([] : List ByteArray), (-1))) = some (r1, r2, r3, r4) := h
  clear h
  simp only [Option.some.injEq, Prod.mk.injEq] at H
  obtain ⟨rfl, rfl, rfl, rfl⟩ := H
  go_enter Tryd.func107, Tryd.ntmps107
  go_wp2_with (first | ((with_reducible refine gate_dst (N := 0) rfl ?_); refine box_event ?hg (N := 0) ?hd (cs := #[.int .i64 0, .int .i64 0, .slice none 0 0, .int .i64 0]) (t := 134) ?hr ?_; (case hd => rfl); (case hg => rfl); (case hr => first | (go_simp; done) | (go_simp; rfl)); intro gb166 hg w1 hbox hb; have n0_ := Aside0.mk (below_step (by repeat (first | (with_reducible first | exact HB.out | apply below_alloc | apply pw_below_drewN | apply below_drew1) | exact HB.out)) hb); have n1_ := Aside0.mk (hbox); have n2_ := Aside0.mk ((by rw [hg]; exact (below_size (by repeat (first | (with_reducible first | exact HB.out | apply below_alloc | apply pw_below_drewN | apply below_drew1) | exact HB.out))) : w.heap.size ≤ gb166)); have n3_ := Aside0.mk ((by rw [hg]; exact (below_size (by repeat (first | (with_reducible first | exact HB.out | apply below_alloc | apply pw_below_drewN | apply below_drew1) | exact HB.out))) : w.heap.size ≤ gb166)); clear HB; have HB := n0_; have BK166 := n1_; have GW166 := n2_; have GE166 := n3_; clear n0_ n1_ n2_ n3_; clear hb hbox hg; have hcz2_0 : w1.cell? ⟨gb166, 0, none⟩ = some (.int .i64 0) := (blk_cell BK166.out 0).trans rfl; have hcz2_1 : w1.cell? ⟨gb166, 1, none⟩ = some (.int .i64 0) := (blk_cell BK166.out 1).trans rfl; have hcz2_2 : w1.cell? ⟨gb166, 2, none⟩ = some (.slice none 0 0) := (blk_cell BK166.out 2).trans rfl; have hcz2_3 : w1.cell? ⟨gb166, 3, none⟩ = some (.int .i64 0) := (blk_cell BK166.out 3).trans rfl; have hfz2_0 := blk_frozen BK166.out 0; have hfz2_1 := blk_frozen BK166.out 1; have hfz2_2 := blk_frozen BK166.out 2; have hfz2_3 := blk_frozen BK166.out 3))
  refine bodyPost_ret (results_cell_row rfl _ _ gb166 134 #[.int .i64 0, .int .i64 0, .slice none 0 0, .int .i64 (-1)] (0, 0) _ rfl (by (with_reducible repeat (first | refine blk_drewN ?_ _ | refine blk_drew ?_ | refine blk_alloc ?_ _)); refine blk_put (cs := #[.int .i64 0, .int .i64 0, .slice none 0 0, .int .i64 0]) ?_ 3 _ rfl; (with_reducible repeat (first | refine blk_drewN ?_ _ | refine blk_drew ?_ | refine blk_alloc ?_ _)); refine blk_put (cs := #[.int .i64 0, .int .i64 0, .slice none 0 0, .int .i64 0]) ?_ 2 _ rfl; (with_reducible repeat (first | refine blk_drewN ?_ _ | refine blk_drew ?_ | refine blk_alloc ?_ _)); refine blk_put (cs := #[.int .i64 0, .int .i64 0, .slice none 0 0, .int .i64 0]) ?_ 1 _ rfl; (with_reducible repeat (first | refine blk_drewN ?_ _ | refine blk_drew ?_ | refine blk_alloc ?_ _)); refine blk_put (cs := #[.int .i64 0, .int .i64 0, .slice none 0 0, .int .i64 0]) ?_ 0 _ rfl; (with_reducible repeat (first | refine blk_drewN ?_ _ | refine blk_drew ?_ | refine blk_alloc ?_ _)); exact BK166.out) Tryd.underlying134 rfl (by kernel_rfl)) rfl ?_
  exact ⟨_, by first | rfl | (simp [errW_none, errW_some] <;> rfl) | (simp [*, errW_none, errW_some] <;> rfl), by first | exact Kd.R_nil _ _ _ _ _ | exact Kd.N_nil _ _ _ _ _ | exact Kd.V_nil _ _ _ _ _ | exact Kd.Q_nil _ _ _ _ _ | exact Kd.S_nil _ _ _ _ _, by repeat (first | (with_reducible first | exact HB.out | apply below_alloc | apply pw_below_drewN | apply below_drew1 | refine below_set ?_ GE166.out) | exact HB.out)⟩

end Go.Proofs.YtkbaelhcijibiaaDoor.Px

/- Of each function of this text: a plain Lean function and a proof that the machine's call comes to its answers; printed by this session's program. -/
namespace Go.Proofs.YtkbaelhcijibiaaDoor.Px
open Go.RowKit Go.Proofs.YtkbaelhcijibiaaDoorW.PrintWords Go.Proofs.YtkbaelhcijibiaaDoorW.PrintLast Go.Proofs.YtkbaelhcijibiaaDoorW.PrintMore
attribute [local go_sem] max2_int min2_int max_two min_two max_three min_three max_four min_four   -- for this text's walks alone
set_option linter.unusedVariables false
set_option linter.unusedSimpArgs false

/-! ### sleuthref1_digits: function 108 -/
def sleuthref1_digits.l0 : Nat → ByteArray → Int → Int → Option (Int × Int)
  | 0, _, _, _ => none
  | k + 1, x0, x4, x5 => if x5 < (x0.size : Int) then (if x5 < 6 then (if 0 ≤ x5 then (if (bt x0 x5) ≥ 48 then (if (bt x0 x5) ≤ 57 then (if x5 = 0 then (sleuthref1_digits.l0 k x0 (wrap64 ((wrap64 (10 * x4)) + (((bt x0 x5) - 48) % 256))) (wrap64 (x5 + 1))) else (if 0 < (x0.size : Int) then (if (bt x0 0) = 48 then (some (x4, x5)) else (sleuthref1_digits.l0 k x0 (wrap64 ((wrap64 (10 * x4)) + (((bt x0 x5) - 48) % 256))) (wrap64 (x5 + 1)))) else (none))) else (some (x4, x5))) else (some (x4, x5))) else (none)) else (some (x4, x5))) else (some (x4, x5))
def sleuthref1_digits.f (k : Nat) (a0 : ByteArray) : Option (Int × Int) := sleuthref1_digits.l0 k a0 0 0
theorem sleuthref1_digits.mono_l : ∀ k, (∀ y0 y1 y2, LeO (sleuthref1_digits.l0 k y0 y1 y2) (sleuthref1_digits.l0 (k + 1) y0 y1 y2))
  | 0 => fun _ _ _ r h => by simp [sleuthref1_digits.l0] at h
  | k + 1 => by
    have ih0 := sleuthref1_digits.mono_l k
    · intro y0 y1 y2
      unfold sleuthref1_digits.l0
      repeat' first
      | (with_reducible exact ih0 _ _ _)
      | (with_reducible exact LeO.refl _)
      | (with_reducible exact LeO.none _)
      | (with_reducible refine LeO.ite ?_ ?_)
      | (with_reducible refine LeO.bind ?_ (fun _ => ?_))
      | exact ih0 _ _ _
      | exact LeO.none _
      | refine LeO.ite ?_ ?_
      | refine LeO.bind ?_ (fun _ => ?_)
theorem sleuthref1_digits.mono : ∀ a0 k, LeO (sleuthref1_digits.f k a0) (sleuthref1_digits.f (k + 1) a0) := by
  intro a0 k
  have ih0 := sleuthref1_digits.mono_l k
  unfold sleuthref1_digits.f
  repeat' first
      | (with_reducible exact ih0 _ _ _)
      | (with_reducible exact LeO.refl _)
      | (with_reducible exact LeO.none _)
      | (with_reducible refine LeO.ite ?_ ?_)
      | (with_reducible refine LeO.bind ?_ (fun _ => ?_))
      | exact ih0 _ _ _
      | exact LeO.none _
      | refine LeO.ite ?_ ?_
      | refine LeO.bind ?_ (fun _ => ?_)
set_option maxHeartbeats 8000000 in
set_option maxRecDepth 100000 in
theorem sleuthref1_digits.calls (k : Nat) (a0 : ByteArray) (r1 : Int) (r2 : Int) (w : World) (h : sleuthref1_digits.f k a0 = some (r1, r2)) :
    Calls Tryd.prog 108 #[.string a0] w fun e w' => e = .returned (.tuple #[.int .i64 r1, .int .i64 r2]) ∧ Drawn0 w w' := by
  have H : (sleuthref1_digits.l0 k a0 0 0) = some (r1, r2) := h
  clear h
  have H' := Aside0.mk H
  clear H
  go_enter Tryd.func108, Tryd.ntmps108
  go_wp2
  (try simp only [Act.put, List.setIfInBounds_toArray, List.set_cons_zero, List.set_cons_succ])
  go_loopg [4, 5] k (fun kq v4 v5 w' => ∃ (x4_1 : Int) (x5_1 : Int), v4 = .int .i64 x4_1 ∧ v5 = .int .i64 x5_1 ∧ Aside0 (sleuthref1_digits.l0 kq a0 x4_1 x5_1 = some (r1, r2)) ∧ Aside0 (kq ≤ k) ∧ Drawn0 w w')
  case atStart => exact ⟨(0), (0), (by first | rfl | (simp; done) | (simp [*]; done)), (by first | rfl | (simp; done) | (simp [*]; done)), H', ⟨Nat.le_refl _⟩, by repeat (first | exact Drawn0.refl _ | apply Drawn0.step)⟩
  case round =>
    clear H'
    try clear c1
    obtain ⟨x4_1, x5_1, rfl, rfl, HA, HK1, ⟨m1, rfl⟩⟩ := hrel
    cases gk with
    | zero => exact absurd HA.out (by simp [sleuthref1_digits.l0])
    | succ k1 =>
      have H := HA.out
      clear HA
      simp only [sleuthref1_digits.l0] at H
      by_cases c2 : x5_1 < (a0.size : Int)
      · rw [if_pos c2] at H
        have c2b0 : decide (x5_1 < (a0.size : Int)) = true := decide_eq_true c2
        clear c2
        by_cases c3 : x5_1 < 6
        · rw [if_pos c3] at H
          have c3b0 : decide (x5_1 < 6) = true := decide_eq_true c3
          clear c3
          by_cases c4 : 0 ≤ x5_1
          · rw [if_pos c4] at H
            have c4b0 : decide (0 ≤ x5_1) = true := decide_eq_true c4
            clear c4
            by_cases c6 : (bt a0 x5_1) ≥ 48
            · rw [if_pos c6] at H
              have c6b0 : decide (48 ≤ (bt a0 x5_1)) = true := decide_eq_true c6
              clear c6
              by_cases c8 : (bt a0 x5_1) ≤ 57
              · rw [if_pos c8] at H
                have c8b0 : decide ((bt a0 x5_1) ≤ 57) = true := decide_eq_true c8
                clear c8
                by_cases c9 : x5_1 = 0
                · rw [if_pos c9] at H
                  have c9b0 : (x5_1 == 0) = true := beq_iff_eq.mpr c9
                  have c9b1 : (x5_1 != 0) = false := bne_eq_false_iff_eq.mpr c9
                  clear c9
                  have H' := Aside0.mk H
                  clear H
                  have p5 : 0 ≤ (x5_1 : Int) := of_decide_eq_true (by first | (with_reducible assumption) | assumption)
                  have q5 : x5_1 < (a0.size : Int) := of_decide_eq_true (by first | (with_reducible assumption) | assumption)
                  have hx5 := bt_at a0 x5_1
                  replace p5 := eq_true p5
                  replace q5 := eq_true q5
                  have p7 : 0 ≤ (x5_1 : Int) := of_decide_eq_true (by first | (with_reducible assumption) | assumption)
                  have q7 : x5_1 < (a0.size : Int) := of_decide_eq_true (by first | (with_reducible assumption) | assumption)
                  have hx7 := bt_at a0 x5_1
                  replace p7 := eq_true p7
                  replace q7 := eq_true q7
                  have p10 : 0 ≤ (x5_1 : Int) := of_decide_eq_true (by first | (with_reducible assumption) | assumption)
                  have q10 : x5_1 < (a0.size : Int) := of_decide_eq_true (by first | (with_reducible assumption) | assumption)
                  have hx10 := bt_at a0 x5_1
                  replace p10 := eq_true p10
                  replace q10 := eq_true q10
                  go_wp2
                  go_roundg k1
                  case measure => have := HK1.out; omega
                  case rel => exact ⟨(wrap64 ((wrap64 (10 * x4_1)) + (((bt a0 x5_1) - 48) % 256))), (wrap64 (x5_1 + 1)), (by first | rfl | (simp; done) | (simp [*]; done)), (by first | rfl | (simp; done) | (simp [*]; done)), H', ⟨by have := HK1.out; omega⟩, by repeat (first | exact Drawn0.refl _ | apply Drawn0.step)⟩
                · rw [if_neg c9] at H
                  have c9b0 : (x5_1 == 0) = false := beq_eq_false_iff_ne.mpr c9
                  have c9b1 : (x5_1 != 0) = true := bne_iff_ne.mpr c9
                  by_cases c11 : 0 < (a0.size : Int)
                  · rw [if_pos c11] at H
                    have c11b0 : decide (0 < (a0.size : Int)) = true := decide_eq_true c11
                    have c11b1 : decide (0 < a0.size) = true := decide_eq_true (by omega)
                    clear c11
                    by_cases c13 : (bt a0 0) = 48
                    · rw [if_pos c13] at H
                      have c13b0 : ((bt a0 0) == 48) = true := beq_iff_eq.mpr c13
                      have c13b1 : ((bt a0 0) != 48) = false := bne_eq_false_iff_eq.mpr c13
                      clear c13
                      simp only [Option.some.injEq, Prod.mk.injEq] at H
                      obtain ⟨rfl, rfl⟩ := H
                      have p5 : 0 ≤ (x5_1 : Int) := of_decide_eq_true (by first | (with_reducible assumption) | assumption)
                      have q5 : x5_1 < (a0.size : Int) := of_decide_eq_true (by first | (with_reducible assumption) | assumption)
                      have hx5 := bt_at a0 x5_1
                      replace p5 := eq_true p5
                      replace q5 := eq_true q5
                      have p7 : 0 ≤ (x5_1 : Int) := of_decide_eq_true (by first | (with_reducible assumption) | assumption)
                      have q7 : x5_1 < (a0.size : Int) := of_decide_eq_true (by first | (with_reducible assumption) | assumption)
                      have hx7 := bt_at a0 x5_1
                      replace p7 := eq_true p7
                      replace q7 := eq_true q7
                      have p12 : 0 ≤ (0 : Int) := (by omega)
                      have q12 : 0 < a0.size := (by have : (0 : Int) < (a0.size : Int) := of_decide_eq_true (by first | (with_reducible assumption) | assumption); omega)
                      have hx12 : ∀ h : 0 < a0.size, ((a0[0]'h).toNat : Int) = bt a0 0 := bt_at a0 0
                      clear p12
                      have qi12 : (0 < (a0.size : Int)) = True := eq_true (of_decide_eq_true (by first | (with_reducible assumption) | assumption))
                      replace q12 := eq_true q12
                      go_wp2
                      go_ret2
                      exact ⟨by first | rfl | (simp; done) | (simp [*]; done), by repeat (first | exact Drawn0.refl _ | apply Drawn0.step)⟩
                    · rw [if_neg c13] at H
                      have c13b0 : ((bt a0 0) == 48) = false := beq_eq_false_iff_ne.mpr c13
                      have c13b1 : ((bt a0 0) != 48) = true := bne_iff_ne.mpr c13
                      have H' := Aside0.mk H
                      clear H
                      have p5 : 0 ≤ (x5_1 : Int) := of_decide_eq_true (by first | (with_reducible assumption) | assumption)
                      have q5 : x5_1 < (a0.size : Int) := of_decide_eq_true (by first | (with_reducible assumption) | assumption)
                      have hx5 := bt_at a0 x5_1
                      replace p5 := eq_true p5
                      replace q5 := eq_true q5
                      have p7 : 0 ≤ (x5_1 : Int) := of_decide_eq_true (by first | (with_reducible assumption) | assumption)
                      have q7 : x5_1 < (a0.size : Int) := of_decide_eq_true (by first | (with_reducible assumption) | assumption)
                      have hx7 := bt_at a0 x5_1
                      replace p7 := eq_true p7
                      replace q7 := eq_true q7
                      have p12 : 0 ≤ (0 : Int) := (by omega)
                      have q12 : 0 < a0.size := (by have : (0 : Int) < (a0.size : Int) := of_decide_eq_true (by first | (with_reducible assumption) | assumption); omega)
                      have hx12 : ∀ h : 0 < a0.size, ((a0[0]'h).toNat : Int) = bt a0 0 := bt_at a0 0
                      clear p12
                      have qi12 : (0 < (a0.size : Int)) = True := eq_true (of_decide_eq_true (by first | (with_reducible assumption) | assumption))
                      replace q12 := eq_true q12
                      have p14 : 0 ≤ (x5_1 : Int) := of_decide_eq_true (by first | (with_reducible assumption) | assumption)
                      have q14 : x5_1 < (a0.size : Int) := of_decide_eq_true (by first | (with_reducible assumption) | assumption)
                      have hx14 := bt_at a0 x5_1
                      replace p14 := eq_true p14
                      replace q14 := eq_true q14
                      go_wp2
                      go_roundg k1
                      case measure => have := HK1.out; omega
                      case rel => exact ⟨(wrap64 ((wrap64 (10 * x4_1)) + (((bt a0 x5_1) - 48) % 256))), (wrap64 (x5_1 + 1)), (by first | rfl | (simp; done) | (simp [*]; done)), (by first | rfl | (simp; done) | (simp [*]; done)), H', ⟨by have := HK1.out; omega⟩, by repeat (first | exact Drawn0.refl _ | apply Drawn0.step)⟩
                  · rw [if_neg c11] at H
                    exact absurd H (by simp)
              · rw [if_neg c8] at H
                have c8b0 : decide ((bt a0 x5_1) ≤ 57) = false := decide_eq_false c8
                clear c8
                simp only [Option.some.injEq, Prod.mk.injEq] at H
                obtain ⟨rfl, rfl⟩ := H
                have p5 : 0 ≤ (x5_1 : Int) := of_decide_eq_true (by first | (with_reducible assumption) | assumption)
                have q5 : x5_1 < (a0.size : Int) := of_decide_eq_true (by first | (with_reducible assumption) | assumption)
                have hx5 := bt_at a0 x5_1
                replace p5 := eq_true p5
                replace q5 := eq_true q5
                have p7 : 0 ≤ (x5_1 : Int) := of_decide_eq_true (by first | (with_reducible assumption) | assumption)
                have q7 : x5_1 < (a0.size : Int) := of_decide_eq_true (by first | (with_reducible assumption) | assumption)
                have hx7 := bt_at a0 x5_1
                replace p7 := eq_true p7
                replace q7 := eq_true q7
                go_wp2
                go_ret2
                exact ⟨by first | rfl | (simp; done) | (simp [*]; done), by repeat (first | exact Drawn0.refl _ | apply Drawn0.step)⟩
            · rw [if_neg c6] at H
              have c6b0 : decide (48 ≤ (bt a0 x5_1)) = false := decide_eq_false c6
              clear c6
              simp only [Option.some.injEq, Prod.mk.injEq] at H
              obtain ⟨rfl, rfl⟩ := H
              have p5 : 0 ≤ (x5_1 : Int) := of_decide_eq_true (by first | (with_reducible assumption) | assumption)
              have q5 : x5_1 < (a0.size : Int) := of_decide_eq_true (by first | (with_reducible assumption) | assumption)
              have hx5 := bt_at a0 x5_1
              replace p5 := eq_true p5
              replace q5 := eq_true q5
              go_wp2
              go_ret2
              exact ⟨by first | rfl | (simp; done) | (simp [*]; done), by repeat (first | exact Drawn0.refl _ | apply Drawn0.step)⟩
          · rw [if_neg c4] at H
            exact absurd H (by simp)
        · rw [if_neg c3] at H
          have c3b0 : decide (x5_1 < 6) = false := decide_eq_false c3
          clear c3
          simp only [Option.some.injEq, Prod.mk.injEq] at H
          obtain ⟨rfl, rfl⟩ := H
          go_wp2
          go_ret2
          exact ⟨by first | rfl | (simp; done) | (simp [*]; done), by repeat (first | exact Drawn0.refl _ | apply Drawn0.step)⟩
      · rw [if_neg c2] at H
        have c2b0 : decide (x5_1 < (a0.size : Int)) = false := decide_eq_false c2
        clear c2
        simp only [Option.some.injEq, Prod.mk.injEq] at H
        obtain ⟨rfl, rfl⟩ := H
        go_wp2
        go_ret2
        exact ⟨by first | rfl | (simp; done) | (simp [*]; done), by repeat (first | exact Drawn0.refl _ | apply Drawn0.step)⟩

end Go.Proofs.YtkbaelhcijibiaaDoor.Px
